/- no stowage is worth more than that of Best -/
import Derived.Test.YtodmemndaaiolaaCShipMost1
import Derived.Test.YtodmemndaaiolaaCShipMost3
import Derived.Test.YtodmemndaaiolaaCShipMost4
import Derived.Test.YtodmemndaaiolaaCShipMost5
import Derived.Test.YtodmemndaaiolaaCShipMost2
import Derived.SizedLaws
import Derived.ChangeSlices
import Derived.Test.YtodmemndaaiolaaRows
import Derived.WalkKit
import Derived.ProofKit
import Derived.OpenShut
import Derived.ShutString
import Derived.ChangeOld
import Derived.Below
namespace Go.Proofs.Ytodmemndaaiolaa.PC7
open Go.RowKit Go.Proofs.YtodmemndaaiolaaW.PrintWords Go.Proofs.YtodmemndaaiolaaW.PrintLast Go.Proofs.YtodmemndaaiolaaW.PrintMore
attribute [local go_sem] max2_int min2_int max_two min_two max_three min_three max_four min_four
set_option linter.unusedVariables false
set_option linter.unusedSimpArgs false
mutual
def swarfref07_Stowages.l0 : Nat → List Int → List (List Int) → Int → Int → Int → Int → List (S85) → Int → List (S59) → List (S79) → Option ((List (List Int)))
 | 0, _, _, _, _, _, _, _, _, _, _ => none
 | k + 1, x1, x5, x6, x549000, x549001, x549002, x549003, x549004, x549005, x549006 => if x6 < (x549003.length : Int) then ((some (([] : List Int) : List Int)).bind fun y552 => (if y552.length + x1.length < 17592186044416 then ((some (y552 ++ x1 : List Int)).bind fun y555 => ((some (([x6] : List Int) : List Int)).bind fun y558 => (if y555.length + y558.length < 17592186044416 then ((swarfref07_Stowages.f k x549000 x549001 x549002 x549003 x549004 x549005 x549006 (y555 ++ y558)).bind fun t564 => (if x5.length + t564.length < 5864062014805 then (swarfref07_Stowages.l0 k x1 (x5 ++ t564) (wrap64 (x6 + 1)) x549000 x549001 x549002 x549003 x549004 x549005 x549006) else (none))) else (none)))) else (none))) else (some x5)
def swarfref07_Stowages.f : Nat → Int → Int → Int → List (S85) → Int → List (S59) → List (S79) → List Int → Option ((List (List Int)))
 | 0, _, _, _, _, _, _, _, _ => none
 | k + 1, a0_0, a0_1, a0_2, l0_3, a0_4, l0_5, l0_6, l1 => if (l1.length : Int) = (l0_6.length : Int) then (some (([l1] : List (List Int)))) else (swarfref07_Stowages.l0 k l1 ([] : List (List Int)) (-1) a0_0 a0_1 a0_2 l0_3 a0_4 l0_5 l0_6)
end
def swarfref07_Stowages.T7 : Bool × List (List Nat × List Nat) := (true, [([], []), ([], []), ([], []), ([], []), ([2, 3], [2, 3]), ([], []), ([5], [5]), ([4, 6, 4], [4, 6]), ([1, 7, 7], [1, 7]), ([0, 8, 8], [0, 8]), ([9, 9, 0, 1, 2, 3, 4, 5, 6, 7, 8, 9], [0, 9])])
def swarfref07_Stowages.B7 : List Nat := [0, 0, 0, 0, 12, 0, 32, 124, 254, 511, 1023]
theorem swarfref07_Stowages.tab7 : rtab .any (opsOf Try.f50 7) = swarfref07_Stowages.T7 := by kernel_rfl
theorem swarfref07_Stowages.bits7 : waitsOk swarfref07_Stowages.T7.2 swarfref07_Stowages.B7 = true := by kernel_rfl
set_option maxHeartbeats 8000000 in
set_option maxRecDepth 100000 in
theorem swarfref07_Stowages.calls (k : Nat) : ∀ (a0_0 : Int) (a0_1 : Int) (a0_2 : Int) (A0_3 : Option Addr) (c0_3 : Nat) (l0_3 : List (S85)) (a0_4 : Int) (A0_5 : Option Addr) (c0_5 : Nat) (l0_5 : List (S59)) (A0_6 : Option Addr) (c0_6 : Nat) (l0_6 : List (S79)) (P1_ : Nat → Prop) (A1 : Option Addr) (c1 : Nat) (l1 : List Int) (r : List (List Int)) (w : World) (hr0_3 : Kd.C k85 w A0_3 l0_3.length l0_3) (hc0_3 : l0_3.length ≤ c0_3) (hr0_5 : Kd.C k59 w A0_5 l0_5.length l0_5) (hc0_5 : l0_5.length ≤ c0_5) (hr0_6 : Kd.C k79 w A0_6 l0_6.length l0_6) (hc0_6 : l0_6.length ≤ c0_6) (hs1 : Kd.V (Kd.int .i64) 3 w w.heap.size (fun k_ => P1_ k_) (.slice A1 l1.length c1) l1) (h : swarfref07_Stowages.f k a0_0 a0_1 a0_2 l0_3 a0_4 l0_5 l0_6 l1 = some r),
  Calls Try.prog 50 #[.agg #[.int .i64 a0_0, .int .i64 a0_1, .int .i64 a0_2, .slice A0_3 l0_3.length c0_3, .int .i64 a0_4, .slice A0_5 l0_5.length c0_5, .slice A0_6 l0_6.length c0_6], .slice A1 l1.length c1] w fun e w' => ∃ v0_ : Value, e = .returned (v0_) ∧ Kd.N (Kd.slice 3 (Kd.int .i64)) 27 w' w.heap.size (fun k_ => (P1_ k_ ∨ w.heap.size ≤ k_)) v0_ r ∧ Below w.heap.size w w' := by
 induction k using Nat.strongRecOn with
 | _ k ih =>
 intro a0_0 a0_1 a0_2 A0_3 c0_3 l0_3 a0_4 A0_5 c0_5 l0_5 A0_6 c0_6 l0_6 P1_ A1 c1 l1 r w hr0_3 hc0_3 hr0_5 hc0_5 hr0_6 hc0_6 hs1 h
 cases k with
 | zero => exact absurd h (by simp [swarfref07_Stowages.f])
 | succ k =>
 simp only [swarfref07_Stowages.f] at h
 have hu26 := Try.underlying26
 have HR0_3 := Aside0.mk hr0_3
 have HC0_3 := Aside0.mk hc0_3
 clear hr0_3 hc0_3
 have HR0_5 := Aside0.mk hr0_5
 have HC0_5 := Aside0.mk hc0_5
 clear hr0_5 hc0_5
 have HR0_6 := Aside0.mk hr0_6
 have HC0_6 := Aside0.mk hc0_6
 clear hr0_6 hc0_6
 have HO1 := Aside0.mk (show Kd.V (Kd.int .i64) 3 w w.heap.size (fun k_ => (P1_ k_ ∨ w.heap.size ≤ k_)) (.slice A1 l1.length c1) l1 from Kd.V_mono hs1 (fun k_ hk => .inl hk))
 have HB := Aside0.mk (Below.refl w.heap.size w)
 have H : (if (l1.length : Int) = (l0_6.length : Int) then (some (([l1] : List (List Int)))) else (swarfref07_Stowages.l0 k l1 ([] : List (List Int)) (-1) a0_0 a0_1 a0_2 l0_3 a0_4 l0_5 l0_6)) = some r := h
 clear h
 by_cases c3 : (l1.length : Int) = (l0_6.length : Int)
 ·
  rw [if_pos c3] at H
  have c3b0 : ((l1.length : Int) == (l0_6.length : Int)) = true := beq_iff_eq.mpr c3
  have c3b1 : ((l1.length : Int) != (l0_6.length : Int)) = false := bne_eq_false_iff_eq.mpr c3
  have c3b2 : (l1.length == l0_6.length) = true := by first | simpa using c3 | (simp at c3 ⊢; omega)
  clear c3
  obtain ⟨y549, hy549⟩ : ∃ y_ : List (List Int), y_ = (([l1] : List (List Int))) := ⟨_, rfl⟩
  replace H : (some y549) = some r := by first | (rw [hy549]; with_reducible exact H) | (have H2_ := (Option.bind_some _ _).symm.trans H; rw [hy549]; with_reducible exact H2_) | (have H2_ := (Option.bind_some _ _).symm.trans H; with_reducible exact H2_) | with_reducible exact H | (rw [hy549]; exact H) | exact H
  have Ny549 := Aside0.mk hy549
  clear hy549
  obtain rfl := Option.some.inj H
  go_enter Try.func50, Try.ntmps50
  go_wp2_with (first | ((with_reducible refine gate_dst (N := 2) rfl ?_); refine box_event ?hg (N := 2) ?hd (cs := #[.int .i64 a0_0, .int .i64 a0_1, .int .i64 a0_2, .slice A0_3 l0_3.length c0_3, .int .i64 a0_4, .slice A0_5 l0_5.length c0_5, .slice A0_6 l0_6.length c0_6]) (t := 26) ?hr ?_; (case hd => rfl); (case hg => rfl); (case hr => first | (go_simp; done) | (go_simp; rfl)); intro gb548 hg w4 hbox hb; replace HO1 := Aside0.mk (Kd.V_below (Kd.V_elderB (Kd.V_x HO1.out) gb548 (Nat.le_of_eq hg.symm)) hb); have BK548 := Aside0.mk (hbox); have GW548 := Aside0.mk ((by rw [hg]; exact (below_size (below_x HB.out)) : w.heap.size ≤ gb548)); have GE548 := Aside0.mk ((by rw [hg]; exact (below_size (below_x HB.out)) : w.heap.size ≤ gb548)); replace HB := Aside0.mk (below_step (below_x HB.out) hb); clear hb hbox hg; obtain ⟨_, _, _, _, _, _, _⟩ := cz7 BK548; have hfz5_0 := blk_frozen BK548.out) | ((with_reducible refine gate_dst (N := 14) rfl ?_); refine Kd.N_lit (Kd.slice 3 (Kd.int .i64)) _ 27 ?hg (N' := 14) ?hd (xs := ([l1] : List (List Int))) (inner := [.slice A1 l1.length c1]) (ok := (fun k_ => (P1_ k_ ∨ w.heap.size ≤ k_) ∧ k_ ≠ gb548)) (okp := (fun k_ => (P1_ k_ ∨ w.heap.size ≤ k_) ∧ k_ ≠ gb548)) ?hr ?hp (fun _ hk => hk) ((show ∀ k_, w4.heap.size ≤ k_ → (fun k_ => (P1_ k_ ∨ w.heap.size ≤ k_) ∧ k_ ≠ gb548) k_ from fun k_ hk => ⟨(.inr (Nat.le_trans (below_size (by exact below_y HB.out)) hk)), Kd.freshB (g := gb548) (o := .cells #[.int .i64 a0_0, .int .i64 a0_1, .int .i64 a0_2, .slice A0_3 l0_3.length c0_3, .int .i64 a0_4, .slice A0_5 l0_5.length c0_5, .slice A0_6 l0_6.length c0_6] 26 (0, 0)) (blk_x BK548.out) k_ hk⟩) _ (Nat.le_refl _)) (Below.refl _ _) (Nat.le_refl _) (by simp) ?_; (case hd => rfl); (case hg => rfl); (case hr => first | (go_simp; done) | (go_simp; rfl)); (case hp => exact (Reps.one (show Kd.FK (Kd.slice 3 (Kd.int .i64)) _ _ l1 [.slice A1 l1.length c1] from (Kd.FK_slice_mk (Kd.V_reads' (Kd.V_mono (ok' := (fun k_ => (P1_ k_ ∨ w.heap.size ≤ k_) ∧ k_ ≠ gb548)) (HO1.out) (fun k_ hk => ⟨hk.1, hk.2⟩))).2.1 (Kd.V_F (Kd.V_mono (ok' := (fun k_ => (P1_ k_ ∨ w.heap.size ≤ k_) ∧ k_ ≠ gb548)) (HO1.out) (fun k_ hk => ⟨hk.1, hk.2⟩))))) (Reps.none _ _))); intro v550 w6 ho7 hb hg_ hnew_; clear hg_ hnew_; (first | rw [← Ny549.out] at ho7 | (simp only [Int.reduceToNat] at ho7; rw [← Ny549.out] at ho7)); replace HO1 := Aside0.mk (Kd.V_elder' (Kd.V_x HO1.out) (Kd.N_base ho7) hb); have HO551 := Aside0.mk (Kd.N_lower ho7 (below_size (by exact below_y HB.out))); replace BK548 := Aside0.mk (blk_below (blk_x BK548.out) hb); replace HB := bl_x HB hb; clear hb ho7))
  go_ret
  exact ⟨_, by first | rfl | (simp [errW_none, errW_some] <;> rfl) | (simp [*, errW_none, errW_some] <;> rfl), by (with_reducible repeat (first | apply Kd.N_alloc | apply Kd.N_drewN | apply Kd.N_drew)); exact Kd.N_mono HO551.out (fun _ hk => hk.1), by exact below_y HB.out⟩
 ·
  rw [if_neg c3] at H
  have c3b0 : ((l1.length : Int) == (l0_6.length : Int)) = false := beq_eq_false_iff_ne.mpr c3
  have c3b1 : ((l1.length : Int) != (l0_6.length : Int)) = true := bne_iff_ne.mpr c3
  have c3b2 : (l1.length == l0_6.length) = false := by first | simpa using c3 | (simp at c3 ⊢; omega)
  have H' := Aside0.mk H
  clear H
  go_enter Try.func50, Try.ntmps50
  go_wp2_with (first | ((with_reducible refine gate_dst (N := 2) rfl ?_); refine box_event ?hg (N := 2) ?hd (cs := #[.int .i64 a0_0, .int .i64 a0_1, .int .i64 a0_2, .slice A0_3 l0_3.length c0_3, .int .i64 a0_4, .slice A0_5 l0_5.length c0_5, .slice A0_6 l0_6.length c0_6]) (t := 26) ?hr ?_; (case hd => rfl); (case hg => rfl); (case hr => first | (go_simp; done) | (go_simp; rfl)); intro gb548 hg w8 hbox hb; replace HO1 := Aside0.mk (Kd.V_below (Kd.V_elderB (Kd.V_x HO1.out) gb548 (Nat.le_of_eq hg.symm)) hb); have BK548 := Aside0.mk (hbox); have GW548 := Aside0.mk ((by rw [hg]; exact (below_size (below_x HB.out)) : w.heap.size ≤ gb548)); have GE548 := Aside0.mk ((by rw [hg]; exact (below_size (below_x HB.out)) : w.heap.size ≤ gb548)); replace HB := Aside0.mk (below_step (below_x HB.out) hb); clear hb hbox hg; obtain ⟨_, _, _, _, _, _, _⟩ := cz7 BK548; have hfz9_0 := blk_frozen BK548.out))
  go_loopg [5, 6] k (fun kq v5 v6 w' => ∃ (x5_1 : List (List Int)) (x6_1 : Int), v6 = .int .i64 x6_1 ∧ Aside0 (swarfref07_Stowages.l0 kq l1 x5_1 x6_1 a0_0 a0_1 a0_2 l0_3 a0_4 l0_5 l0_6 = some r) ∧ Aside0 (kq ≤ k) ∧ Aside0 (Kd.V (Kd.int .i64) 3 w' w.heap.size (fun k_ => (P1_ k_ ∨ w.heap.size ≤ k_) ∧ some k_ ≠ (v5 : Value).ownBlock ∧ k_ ≠ gb548) (.slice A1 l1.length c1) l1) ∧ Aside0 (Kd.N (Kd.slice 3 (Kd.int .i64)) 27 w' w.heap.size (fun k_ => (P1_ k_ ∨ w.heap.size ≤ k_) ∧ k_ ≠ gb548) v5 x5_1) ∧ Aside0 (w'.heap[gb548]? = some (.cells #[.int .i64 a0_0, .int .i64 a0_1, .int .i64 a0_2, (.slice A0_3 l0_3.length c0_3), .int .i64 a0_4, (.slice A0_5 l0_5.length c0_5), (.slice A0_6 l0_6.length c0_6)] 26 (0, 0))) ∧ Aside0 (Below w.heap.size w w'))
  case atStart => exact ⟨(([] : List (List Int))), ((-1)), (by first | rfl | (simp; done) | (simp [*]; done)), H', ⟨Nat.le_refl _⟩, ⟨by (with_reducible repeat (first | apply Kd.V_alloc | apply Kd.V_drewN | apply Kd.V_drew)); exact Kd.V_mono HO1.out (fun _ hk => ⟨hk.1, ⟨(by simp [Value.ownBlock]), hk.2⟩⟩)⟩, ⟨by first | exact Kd.S_nil _ _ _ _ _ | exact Kd.N_nil _ _ _ _ _ | exact Kd.V_nil _ _ _ _ _ | exact Kd.Q_nil _ _ _ _ _ | exact Kd.R_nil _ _ _ _ _⟩, ⟨blk_x BK548.out⟩, ⟨by exact below_y HB.out⟩⟩
  case round =>
   clear H'
   obtain ⟨x5_1, x6_1, rfl, HA, HK1, HO_1, HO_5, BK548, HB⟩ := hrel
   cases gk with
   | zero => exact absurd HA.out (by simp [swarfref07_Stowages.l0])
   | succ k1 =>
    have H := HA.out
    clear HA
    simp only [swarfref07_Stowages.l0] at H
    by_cases c10 : x6_1 < (l0_3.length : Int)
    ·
     rw [if_pos c10] at H
     have c10b0 : decide (x6_1 < (l0_3.length : Int)) = true := decide_eq_true c10
     clear c10
     obtain ⟨y552, hy552⟩ : ∃ y_ : List Int, y_ = (([] : List Int)) := ⟨_, rfl⟩
     replace H : (if y552.length + l1.length < 17592186044416 then ((some (y552 ++ l1 : List Int)).bind fun y555 => ((some (([x6_1] : List Int) : List Int)).bind fun y558 => (if y555.length + y558.length < 17592186044416 then ((swarfref07_Stowages.f k1 a0_0 a0_1 a0_2 l0_3 a0_4 l0_5 l0_6 (y555 ++ y558)).bind fun t564 => (if x5_1.length + t564.length < 5864062014805 then (swarfref07_Stowages.l0 k1 l1 (x5_1 ++ t564) (wrap64 (x6_1 + 1)) a0_0 a0_1 a0_2 l0_3 a0_4 l0_5 l0_6) else (none))) else (none)))) else (none)) = some r := by first | (rw [hy552]; with_reducible exact H) | (have H2_ := (Option.bind_some _ _).symm.trans H; rw [hy552]; with_reducible exact H2_) | (have H2_ := (Option.bind_some _ _).symm.trans H; with_reducible exact H2_) | with_reducible exact H | (rw [hy552]; exact H) | exact H
     have Ny552 := Aside0.mk hy552
     clear hy552
     by_cases c11 : y552.length + l1.length < 17592186044416
     ·
      rw [if_pos c11] at H
      have LMc11 := Aside0.mk c11
      clear c11
      obtain ⟨y555, hy555⟩ : ∃ y_ : List Int, y_ = (y552 ++ l1) := ⟨_, rfl⟩
      replace H : ((some (([x6_1] : List Int) : List Int)).bind fun y558 => (if y555.length + y558.length < 17592186044416 then ((swarfref07_Stowages.f k1 a0_0 a0_1 a0_2 l0_3 a0_4 l0_5 l0_6 (y555 ++ y558)).bind fun t564 => (if x5_1.length + t564.length < 5864062014805 then (swarfref07_Stowages.l0 k1 l1 (x5_1 ++ t564) (wrap64 (x6_1 + 1)) a0_0 a0_1 a0_2 l0_3 a0_4 l0_5 l0_6) else (none))) else (none))) = some r := by first | (rw [hy555]; with_reducible exact H) | (have H2_ := (Option.bind_some _ _).symm.trans H; rw [hy555]; with_reducible exact H2_) | (have H2_ := (Option.bind_some _ _).symm.trans H; with_reducible exact H2_) | with_reducible exact H | (rw [hy555]; exact H) | exact H
      have Ny555 := Aside0.mk hy555
      clear hy555
      obtain ⟨y558, hy558⟩ : ∃ y_ : List Int, y_ = (([x6_1] : List Int)) := ⟨_, rfl⟩
      replace H : (if y555.length + y558.length < 17592186044416 then ((swarfref07_Stowages.f k1 a0_0 a0_1 a0_2 l0_3 a0_4 l0_5 l0_6 (y555 ++ y558)).bind fun t564 => (if x5_1.length + t564.length < 5864062014805 then (swarfref07_Stowages.l0 k1 l1 (x5_1 ++ t564) (wrap64 (x6_1 + 1)) a0_0 a0_1 a0_2 l0_3 a0_4 l0_5 l0_6) else (none))) else (none)) = some r := by first | (rw [hy558]; with_reducible exact H) | (have H2_ := (Option.bind_some _ _).symm.trans H; rw [hy558]; with_reducible exact H2_) | (have H2_ := (Option.bind_some _ _).symm.trans H; with_reducible exact H2_) | with_reducible exact H | (rw [hy558]; exact H) | exact H
      have Ny558 := Aside0.mk hy558
      clear hy558
      by_cases c12 : y555.length + y558.length < 17592186044416
      ·
       rw [if_pos c12] at H
       have LMc12 := Aside0.mk c12
       clear c12
       obtain ⟨y561, hy561⟩ : ∃ y_ : List Int, y_ = (y555 ++ y558) := ⟨_, rfl⟩
       replace H : ((swarfref07_Stowages.f k1 a0_0 a0_1 a0_2 l0_3 a0_4 l0_5 l0_6 y561).bind fun t564 => (if x5_1.length + t564.length < 5864062014805 then (swarfref07_Stowages.l0 k1 l1 (x5_1 ++ t564) (wrap64 (x6_1 + 1)) a0_0 a0_1 a0_2 l0_3 a0_4 l0_5 l0_6) else (none))) = some r := by first | (rw [hy561]; with_reducible exact H) | (have H2_ := (Option.bind_some _ _).symm.trans H; rw [hy561]; with_reducible exact H2_) | (have H2_ := (Option.bind_some _ _).symm.trans H; with_reducible exact H2_) | with_reducible exact H | (rw [hy561]; exact H) | exact H
       have Ny561 := Aside0.mk hy561
       clear hy561
       replace H := Option.bind_eq_some_iff.mp H
       obtain ⟨t564, A130, H⟩ := H
       try dsimp only at H
       have A13 := Aside0.mk A130
       clear A130
       by_cases c14 : x5_1.length + t564.length < 5864062014805
       ·
        rw [if_pos c14] at H
        have LMc14 := Aside0.mk c14
        clear c14
        obtain ⟨y567, hy567⟩ : ∃ y_ : List (List Int), y_ = (x5_1 ++ t564) := ⟨_, rfl⟩
        replace H : (swarfref07_Stowages.l0 k1 l1 y567 (wrap64 (x6_1 + 1)) a0_0 a0_1 a0_2 l0_3 a0_4 l0_5 l0_6) = some r := by first | (rw [hy567]; with_reducible exact H) | (have H2_ := (Option.bind_some _ _).symm.trans H; rw [hy567]; with_reducible exact H2_) | (have H2_ := (Option.bind_some _ _).symm.trans H; with_reducible exact H2_) | with_reducible exact H | (rw [hy567]; exact H) | exact H
        have Ny567 := Aside0.mk hy567
        clear hy567
        have H' := Aside0.mk H
        clear H
        obtain ⟨_, _, _, _, _, _, _⟩ := cz7 BK548
        have hfz15_0 := blk_frozen BK548.out
        obtain ⟨Ao16, co16, eo16⟩ := Kd.N_slice HO_5.out
        subst eo16
        try go_wp2
        replace HO_1 := Aside0.mk (Kd.V_drew HO_1.out)
        replace HO_5 := Aside0.mk (Kd.N_drew HO_5.out)
        replace BK548 := Aside0.mk (blk_drew BK548.out)
        replace HB := Aside0.mk (below_drew1 HB.out)
        refine start_ (n := 11) (S := fun w' => w'.cell? ⟨gb548, 0, none⟩ = some (.int .i64 a0_0) ∧ w'.cell? ⟨gb548, 1, none⟩ = some (.int .i64 a0_1) ∧ w'.cell? ⟨gb548, 2, none⟩ = some (.int .i64 a0_2) ∧ w'.cell? ⟨gb548, 3, none⟩ = some (.slice A0_3 l0_3.length c0_3) ∧ w'.cell? ⟨gb548, 4, none⟩ = some (.int .i64 a0_4) ∧ w'.cell? ⟨gb548, 5, none⟩ = some (.slice A0_5 l0_5.length c0_5) ∧ w'.cell? ⟨gb548, 6, none⟩ = some (.slice A0_6 l0_6.length c0_6)) (ds := []) #[false, false, false, false, false, false, false, false, false, false, false] (by kernel_rfl) rfl rfl ⟨(blk_cell BK548.out 0).trans rfl, (blk_cell BK548.out 1).trans rfl, (blk_cell BK548.out 2).trans rfl, (blk_cell BK548.out 3).trans rfl, (blk_cell BK548.out 4).trans rfl, (blk_cell BK548.out 5).trans rfl, (blk_cell BK548.out 6).trans rfl⟩ (fun hHeld => ?_); refine with_tabW swarfref07_Stowages.tab7 swarfref07_Stowages.bits7 (fun HT_ HW_ => ?_)
        generalize wr.drew = w17 at HO_1 HO_5 BK548 HB hHeld ⊢
        refine pure_ (i := 0) (N := some 22) (v := ?_) (a' := ?_) (bz 11 1) rfl rfl (any_of HT_.out (by kernel_rfl)) (fun _ _ _ h => h) (Or.inl ⟨by rfl, ?_⟩) ?_ ?_
        rotate_left
        ·
         intro w'
         go_simp
         with_reducible rfl
        rotate_left
        ·
         simp only [Act.put, put_x, i64_w, i32_w]
         rfl
        refine pure_ (i := 3) (N := some 25) (v := ?_) (a' := ?_) (bz 11 9) rfl rfl (any_of HT_.out (by kernel_rfl)) (fun _ _ _ h => h) (Or.inl ⟨by rfl, ?_⟩) ?_ ?_
        rotate_left
        ·
         intro w'
         go_simp
         with_reducible rfl
        rotate_left
        ·
         simp only [Act.put, put_x, i64_w, i32_w]
         rfl
        refine pure_ (i := 5) (N := some 27) (v := ?_) (a' := ?_) (bz 11 41) rfl rfl (any_of HT_.out (by kernel_rfl)) (fun _ _ _ h => h) (Or.inl ⟨by rfl, ?_⟩) ?_ ?_
        rotate_left
        ·
         intro w'
         go_simp
         with_reducible rfl
        rotate_left
        ·
         simp only [Act.put, put_x, i64_w, i32_w]
         rfl
        refine take_ (i := 1) (N := some 23) (v := ?_) (a' := ?_) (bz 11 43) rfl rfl (take_ofW HT_.out HW_.out (by kernel_rfl)) (fun _ _ _ h => h) (Or.inl ⟨by rfl, ?_⟩) hHeld ?_ ?_
        rotate_left
        ·
         rintro w' ⟨s0, s1, s2, s3, s4, s5, s6⟩
         go_simp
         with_reducible rfl
        rotate_left
        ·
         simp only [Act.put, put_x, i64_w, i32_w]
         rfl
        refine join_ (σ := Value × Value × Value) 4 (bz 11 127) (fun s_ => [(24, s_.1), (26, s_.2.1), (28, s_.2.2)]) (fun s_ w' => (w'.cell? ⟨gb548, 0, none⟩ = some (.int .i64 a0_0) ∧ w'.cell? ⟨gb548, 1, none⟩ = some (.int .i64 a0_1) ∧ w'.cell? ⟨gb548, 2, none⟩ = some (.int .i64 a0_2) ∧ w'.cell? ⟨gb548, 3, none⟩ = some (.slice A0_3 l0_3.length c0_3) ∧ w'.cell? ⟨gb548, 4, none⟩ = some (.int .i64 a0_4) ∧ w'.cell? ⟨gb548, 5, none⟩ = some (.slice A0_5 l0_5.length c0_5) ∧ w'.cell? ⟨gb548, 6, none⟩ = some (.slice A0_6 l0_6.length c0_6)) ∧ (Kd.R (Kd.int .i64) 3 w' w.heap.size (fun k_ => (w.heap.size ≤ k_) ∧ some k_ ≠ (s_.2.2 : Value).ownBlock) s_.2.1 y555) ∧ (Kd.R (Kd.int .i64) 3 w' w.heap.size (fun k_ => (w.heap.size ≤ k_) ∧ some k_ ≠ (s_.2.1 : Value).ownBlock) s_.2.2 y558) ∧ (Kd.V (Kd.int .i64) 3 w' w.heap.size (fun k_ => (P1_ k_ ∨ w.heap.size ≤ k_) ∧ some k_ ≠ (s_.2.1 : Value).ownBlock ∧ some k_ ≠ (s_.2.2 : Value).ownBlock ∧ some k_ ≠ (.slice Ao16 x5_1.length co16 : Value).ownBlock ∧ k_ ≠ gb548) (.slice A1 l1.length c1) l1) ∧ (Kd.N (Kd.slice 3 (Kd.int .i64)) 27 w' w.heap.size (fun k_ => (P1_ k_ ∨ w.heap.size ≤ k_) ∧ some k_ ≠ (s_.2.1 : Value).ownBlock ∧ some k_ ≠ (s_.2.2 : Value).ownBlock ∧ k_ ≠ gb548) (.slice Ao16 x5_1.length co16) x5_1) ∧ (w'.heap[gb548]? = some (.cells #[.int .i64 a0_0, .int .i64 a0_1, .int .i64 a0_2, .slice A0_3 l0_3.length c0_3, .int .i64 a0_4, .slice A0_5 l0_5.length c0_5, .slice A0_6 l0_6.length c0_6] 26 (0, 0))) ∧ (Below w.heap.size w w')) ?_ ?_
        rotate_left
        ·
         intro hCont
         refine two_ (i := 2) (j := 6) (Ni := some 24) (Nj := some 28) (bz 11 47) #[true, true, false, true, false, true, true, false, false, false, false] rfl rfl rfl rfl (two_of HT_.out (by kernel_rfl)) (by decide) (by decide) (fun K hK => ?_) (fun K hK => ?_)
         ·
          skip
          refine Kd.R_lit_step (Kd.int .i64) _ 3 ?hg (N := 24) ?hd (xs := ([] : List Int)) (inner := []) (ok := fun _ => True) (okp := fun _ => True) ?hr ?hp (fun _ hk => hk) trivial (Below.refl _ _) (Nat.le_refl _) (by simp) ?_; (case hd => rfl); (case hg => rfl); (case hr => first | (go_simp; done) | (go_simp; rfl)); (case hp => exact (Reps.none _ _))
          intro v553 w18 ho19 hb hg_ hnew_
          clear hg_ hnew_
          (first | rw [← Ny552.out] at ho19 | (simp only [Int.reduceToNat] at ho19; rw [← Ny552.out] at ho19))
          replace HO_1 := Aside0.mk (Kd.V_elder' (Kd.V_x HO_1.out) (Kd.R_base ho19) hb)
          replace HO_5 := Aside0.mk (Kd.N_elder' (Kd.N_x HO_5.out) (Kd.R_base ho19) hb)
          have HO554 := Aside0.mk (Kd.R_lower (Kd.R_newM (M := fun k_ => (w.heap.size ≤ k_)) ho19 (below_size (by exact below_y HB.out)) (fun k_ h_ => h_)) (below_size (by exact below_y HB.out)))
          replace BK548 := Aside0.mk (blk_below (blk_x BK548.out) hb)
          replace HB := bl_x HB hb
          clear hb ho19
          refine hK.out _ _ ⟨(blk_cell BK548.out 0).trans rfl, (blk_cell BK548.out 1).trans rfl, (blk_cell BK548.out 2).trans rfl, (blk_cell BK548.out 3).trans rfl, (blk_cell BK548.out 4).trans rfl, (blk_cell BK548.out 5).trans rfl, (blk_cell BK548.out 6).trans rfl⟩ (fun hHeld => ?_)
          clear hK K
          refine norm_ (a' := ?_) ?_ ?_
          rotate_left
          ·
           show Act.put _ (some 24) _ = _
           simp only [Act.put, put_x, i64_w, i32_w]
           rfl
          refine two_ (i := 4) (j := 6) (Ni := some 26) (Nj := some 28) (bz 11 63) #[true, true, true, true, false, true, true, false, false, false, false] rfl rfl rfl rfl (two_of HT_.out (by kernel_rfl)) (by decide) (by decide) (fun K hK => ?_) (fun K hK => ?_)
          ·
           skip
           refine Kd.R_append_rows_step (Kd.int .i64) (w0 := w) w.heap.size (by rfl) (.tmp 24) (.tmp 25) 27 3 (.int .i64 0) 8 rfl Try.underlying27 info3 rfl (by decide) (by omega) v553 y552 l1 _ _ _ (fun k_ => (w.heap.size ≤ k_)) (fun _ => False) rfl rfl ?aO ?aR (fun _ _ h => h) (fun _ h => h.elim) ?aF ?aB ?aS ?aL ?_
           (case aR => exact Kd.C_y (Kd.V_reads' HO_1.out).2.2)
           (case aB => exact (by exact below_y HB.out))
           (case aF => exact (fun k_ hk => (Nat.le_trans (below_size (by exact below_y HB.out)) hk)))
           (case aO => exact (by (with_reducible repeat (first | apply Kd.R_alloc | apply Kd.R_drewN | apply Kd.R_drew)); exact Kd.R_mono HO554.out (fun _ hk => hk.1)))
           (case aS => exact (below_size (by exact below_y HB.out)))
           (case aL => have := LMc11.out; omega)
           intro v556 w20 ho hb hg hat
           rw [← Ny555.out] at ho
           replace HO_1 := Aside0.mk (Kd.V_afterv (ok := (fun k_ => (P1_ k_ ∨ w.heap.size ≤ k_) ∧ some k_ ≠ (.slice Ao16 x5_1.length co16 : Value).ownBlock ∧ k_ ≠ gb548)) (Kd.V_x HO_1.out) hg hat)
           replace HO_5 := Aside0.mk (Kd.N_afterv (ok := (fun k_ => (P1_ k_ ∨ w.heap.size ≤ k_) ∧ k_ ≠ gb548)) (Kd.N_x HO_5.out) hg hat)
           replace BK548 := Aside0.mk (blk_grown (blk_x BK548.out) hg (Kd.R_ne HO554.out BK548.out (by decide)))
           replace HB := Aside0.mk (hb)
           have HO557 := Aside0.mk (ho)
           clear HO554 ho hb hg hat
           refine hK.out _ _ ⟨(blk_cell BK548.out 0).trans rfl, (blk_cell BK548.out 1).trans rfl, (blk_cell BK548.out 2).trans rfl, (blk_cell BK548.out 3).trans rfl, (blk_cell BK548.out 4).trans rfl, (blk_cell BK548.out 5).trans rfl, (blk_cell BK548.out 6).trans rfl⟩ (fun hHeld => ?_)
           clear hK K
           refine norm_ (a' := ?_) ?_ ?_
           rotate_left
           ·
            show Act.put _ (some 26) _ = _
            simp only [Act.put, put_x, i64_w, i32_w]
            rfl
           refine one_ (i := 6) (N := some 28) (bz 11 127) rfl rfl (one_of HT_.out (by kernel_rfl)) (by decide) (fun K hK => ?_)
           refine Kd.R_lit_step (Kd.int .i64) _ 3 ?hg (N := 28) ?hd (xs := ([x6_1] : List Int)) (inner := [.int .i64 x6_1]) (ok := fun _ => True) (okp := fun _ => True) ?hr ?hp (fun _ hk => hk) trivial (Below.refl _ _) (Nat.le_refl _) (by simp) ?_; (case hd => rfl); (case hg => rfl); (case hr => first | (go_simp; done) | (go_simp; rfl)); (case hp => exact (Reps.one (show Kd.M (Kd.int .i64) _ _ _ x6_1 [.int .i64 x6_1] from rfl) (Reps.none _ _)))
           intro v559 w21 ho22 hb hg_ hnew_
           clear hg_ hnew_
           (first | rw [← Ny558.out] at ho22 | (simp only [Int.reduceToNat] at ho22; rw [← Ny558.out] at ho22))
           replace HO_1 := Aside0.mk (Kd.V_elder' (Kd.V_x HO_1.out) (Kd.R_base ho22) hb)
           replace HO_5 := Aside0.mk (Kd.N_elder' (Kd.N_x HO_5.out) (Kd.R_base ho22) hb)
           have HO560 := Aside0.mk (Kd.R_lower (Kd.R_new' (Kd.R_newM (M := fun k_ => (w.heap.size ≤ k_)) ho22 (below_size (by exact below_y HB.out)) (fun k_ h_ => h_)) (Kd.R_lt (Kd.R_x HO557.out))) (below_size (by exact below_y HB.out)))
           replace HO557 := Aside0.mk (Kd.R_elder' (Kd.R_x HO557.out) (Kd.R_base ho22) hb)
           replace BK548 := Aside0.mk (blk_below (blk_x BK548.out) hb)
           replace HB := bl_x HB hb
           clear hb ho22
           refine hK.out _ _ ⟨(blk_cell BK548.out 0).trans rfl, (blk_cell BK548.out 1).trans rfl, (blk_cell BK548.out 2).trans rfl, (blk_cell BK548.out 3).trans rfl, (blk_cell BK548.out 4).trans rfl, (blk_cell BK548.out 5).trans rfl, (blk_cell BK548.out 6).trans rfl⟩ (fun hHeld => ?_)
           clear hK K
           refine norm_ (a' := ?_) ?_ ?_
           rotate_left
           ·
            show Act.put _ (some 28) _ = _
            simp only [Act.put, put_x, i64_w, i32_w]
            rfl
           exact norm_ (by simp only [putAll, Act.put, put_x]) (hCont (v553, v556, v559) _ ⟨hHeld, (Kd.R_x HO557.out), (by (with_reducible repeat (first | apply Kd.R_alloc | apply Kd.R_drewN | apply Kd.R_drew)); exact Kd.R_mono HO560.out (fun _ hk => ⟨hk.1.1, hk.2⟩)), (by (with_reducible repeat (first | apply Kd.V_alloc | apply Kd.V_drewN | apply Kd.V_drew)); exact Kd.V_mono HO_1.out (fun _ hk => ⟨hk.1.1.1, ⟨hk.1.2, ⟨hk.2, ⟨hk.1.1.2.1, hk.1.1.2.2⟩⟩⟩⟩)), (by (with_reducible repeat (first | apply Kd.N_alloc | apply Kd.N_drewN | apply Kd.N_drew)); exact Kd.N_mono HO_5.out (fun _ hk => ⟨hk.1.1.1, ⟨hk.1.2, ⟨hk.2, hk.1.1.2⟩⟩⟩)), (blk_x BK548.out), (by exact below_y HB.out)⟩)
          ·
           skip
           refine Kd.R_lit_step (Kd.int .i64) _ 3 ?hg (N := 28) ?hd (xs := ([x6_1] : List Int)) (inner := [.int .i64 x6_1]) (ok := fun _ => True) (okp := fun _ => True) ?hr ?hp (fun _ hk => hk) trivial (Below.refl _ _) (Nat.le_refl _) (by simp) ?_; (case hd => rfl); (case hg => rfl); (case hr => first | (go_simp; done) | (go_simp; rfl)); (case hp => exact (Reps.one (show Kd.M (Kd.int .i64) _ _ _ x6_1 [.int .i64 x6_1] from rfl) (Reps.none _ _)))
           intro v559 w20 ho21 hb hg_ hnew_
           clear hg_ hnew_
           (first | rw [← Ny558.out] at ho21 | (simp only [Int.reduceToNat] at ho21; rw [← Ny558.out] at ho21))
           replace HO_1 := Aside0.mk (Kd.V_elder' (Kd.V_x HO_1.out) (Kd.R_base ho21) hb)
           replace HO_5 := Aside0.mk (Kd.N_elder' (Kd.N_x HO_5.out) (Kd.R_base ho21) hb)
           have HO560 := Aside0.mk (Kd.R_lower (Kd.R_new' (Kd.R_newM (M := fun k_ => (w.heap.size ≤ k_)) ho21 (below_size (by exact below_y HB.out)) (fun k_ h_ => h_)) (Kd.R_lt (Kd.R_x HO554.out))) (below_size (by exact below_y HB.out)))
           replace HO554 := Aside0.mk (Kd.R_elder' (Kd.R_x HO554.out) (Kd.R_base ho21) hb)
           replace BK548 := Aside0.mk (blk_below (blk_x BK548.out) hb)
           replace HB := bl_x HB hb
           clear hb ho21
           refine hK.out _ _ ⟨(blk_cell BK548.out 0).trans rfl, (blk_cell BK548.out 1).trans rfl, (blk_cell BK548.out 2).trans rfl, (blk_cell BK548.out 3).trans rfl, (blk_cell BK548.out 4).trans rfl, (blk_cell BK548.out 5).trans rfl, (blk_cell BK548.out 6).trans rfl⟩ (fun hHeld => ?_)
           clear hK K
           refine norm_ (a' := ?_) ?_ ?_
           rotate_left
           ·
            show Act.put _ (some 28) _ = _
            simp only [Act.put, put_x, i64_w, i32_w]
            rfl
           refine one_ (i := 4) (N := some 26) (bz 11 127) rfl rfl (one_of HT_.out (by kernel_rfl)) (by decide) (fun K hK => ?_)
           refine Kd.R_append_rows_step (Kd.int .i64) (w0 := w) w.heap.size (by rfl) (.tmp 24) (.tmp 25) 27 3 (.int .i64 0) 8 rfl Try.underlying27 info3 rfl (by decide) (by omega) v553 y552 l1 _ _ _ (fun k_ => (w.heap.size ≤ k_) ∧ some k_ ≠ (v559 : Value).ownBlock) (fun _ => False) rfl rfl ?aO ?aR (fun _ _ h => h) (fun _ h => h.elim) ?aF ?aB ?aS ?aL ?_
           (case aR => exact Kd.C_y (Kd.V_reads' HO_1.out).2.2)
           (case aB => exact (by exact below_y HB.out))
           (case aF => exact (fun k_ hk => ⟨(Nat.le_trans (below_size (by exact below_y HB.out)) hk), Kd.fresh' (Kd.R_lt (Kd.R_x HO560.out)) k_ hk⟩))
           (case aO => exact (by (with_reducible repeat (first | apply Kd.R_alloc | apply Kd.R_drewN | apply Kd.R_drew)); exact Kd.R_mono HO554.out (fun _ hk => ⟨hk.1.1, hk.2⟩)))
           (case aS => exact (below_size (by exact below_y HB.out)))
           (case aL => have := LMc11.out; omega)
           intro v556 w22 ho hb hg hat
           rw [← Ny555.out] at ho
           replace HO_1 := Aside0.mk (Kd.V_afterv (ok := (fun k_ => (P1_ k_ ∨ w.heap.size ≤ k_) ∧ some k_ ≠ (.slice Ao16 x5_1.length co16 : Value).ownBlock ∧ some k_ ≠ (v559 : Value).ownBlock ∧ k_ ≠ gb548)) (by (with_reducible repeat (first | apply Kd.V_alloc | apply Kd.V_drewN | apply Kd.V_drew)); exact Kd.V_mono HO_1.out (fun _ hk => ⟨⟨hk.1.1.1, ⟨hk.1.1.2.1, ⟨hk.2, hk.1.1.2.2⟩⟩⟩, hk.1.2⟩)) hg hat)
           replace HO_5 := Aside0.mk (Kd.N_afterv (ok := (fun k_ => (P1_ k_ ∨ w.heap.size ≤ k_) ∧ some k_ ≠ (v559 : Value).ownBlock ∧ k_ ≠ gb548)) (by (with_reducible repeat (first | apply Kd.N_alloc | apply Kd.N_drewN | apply Kd.N_drew)); exact Kd.N_mono HO_5.out (fun _ hk => ⟨⟨hk.1.1.1, ⟨hk.2, hk.1.1.2⟩⟩, hk.1.2⟩)) hg hat)
           replace BK548 := Aside0.mk (blk_grown (blk_x BK548.out) hg (Kd.R_ne HO554.out BK548.out (by decide)))
           replace HO560 := Aside0.mk (Kd.R_after (ok := (fun k_ => (w.heap.size ≤ k_))) (by (with_reducible repeat (first | apply Kd.R_alloc | apply Kd.R_drewN | apply Kd.R_drew)); exact Kd.R_mono HO560.out (fun _ hk => ⟨hk.1.1, hk.2⟩)) hg hat)
           replace HB := Aside0.mk (hb)
           have HO557 := Aside0.mk (ho)
           clear HO554 ho hb hg hat
           refine hK.out _ _ ⟨(blk_cell BK548.out 0).trans rfl, (blk_cell BK548.out 1).trans rfl, (blk_cell BK548.out 2).trans rfl, (blk_cell BK548.out 3).trans rfl, (blk_cell BK548.out 4).trans rfl, (blk_cell BK548.out 5).trans rfl, (blk_cell BK548.out 6).trans rfl⟩ (fun hHeld => ?_)
           clear hK K
           refine norm_ (a' := ?_) ?_ ?_
           rotate_left
           ·
            show Act.put _ (some 26) _ = _
            simp only [Act.put, put_x, i64_w, i32_w]
            rfl
           exact norm_ (by simp only [putAll, Act.put, put_x]) (hCont (v553, v556, v559) _ ⟨hHeld, (Kd.R_x HO557.out), (Kd.R_x HO560.out), (by (with_reducible repeat (first | apply Kd.V_alloc | apply Kd.V_drewN | apply Kd.V_drew)); exact Kd.V_mono HO_1.out (fun _ hk => ⟨hk.1.1, ⟨hk.2, ⟨hk.1.2.2.1, ⟨hk.1.2.1, hk.1.2.2.2⟩⟩⟩⟩)), (by (with_reducible repeat (first | apply Kd.N_alloc | apply Kd.N_drewN | apply Kd.N_drew)); exact Kd.N_mono HO_5.out (fun _ hk => ⟨hk.1.1, ⟨hk.2, ⟨hk.1.2.1, hk.1.2.2⟩⟩⟩)), (blk_x BK548.out), (by exact below_y HB.out)⟩)
         ·
          skip
          refine Kd.R_lit_step (Kd.int .i64) _ 3 ?hg (N := 28) ?hd (xs := ([x6_1] : List Int)) (inner := [.int .i64 x6_1]) (ok := fun _ => True) (okp := fun _ => True) ?hr ?hp (fun _ hk => hk) trivial (Below.refl _ _) (Nat.le_refl _) (by simp) ?_; (case hd => rfl); (case hg => rfl); (case hr => first | (go_simp; done) | (go_simp; rfl)); (case hp => exact (Reps.one (show Kd.M (Kd.int .i64) _ _ _ x6_1 [.int .i64 x6_1] from rfl) (Reps.none _ _)))
          intro v559 w18 ho19 hb hg_ hnew_
          clear hg_ hnew_
          (first | rw [← Ny558.out] at ho19 | (simp only [Int.reduceToNat] at ho19; rw [← Ny558.out] at ho19))
          replace HO_1 := Aside0.mk (Kd.V_elder' (Kd.V_x HO_1.out) (Kd.R_base ho19) hb)
          replace HO_5 := Aside0.mk (Kd.N_elder' (Kd.N_x HO_5.out) (Kd.R_base ho19) hb)
          have HO560 := Aside0.mk (Kd.R_lower (Kd.R_newM (M := fun k_ => (w.heap.size ≤ k_)) ho19 (below_size (by exact below_y HB.out)) (fun k_ h_ => h_)) (below_size (by exact below_y HB.out)))
          replace BK548 := Aside0.mk (blk_below (blk_x BK548.out) hb)
          replace HB := bl_x HB hb
          clear hb ho19
          refine hK.out _ _ ⟨(blk_cell BK548.out 0).trans rfl, (blk_cell BK548.out 1).trans rfl, (blk_cell BK548.out 2).trans rfl, (blk_cell BK548.out 3).trans rfl, (blk_cell BK548.out 4).trans rfl, (blk_cell BK548.out 5).trans rfl, (blk_cell BK548.out 6).trans rfl⟩ (fun hHeld => ?_)
          clear hK K
          refine norm_ (a' := ?_) ?_ ?_
          rotate_left
          ·
           show Act.put _ (some 28) _ = _
           simp only [Act.put, put_x, i64_w, i32_w]
           rfl
          refine one_ (i := 2) (N := some 24) (bz 11 111) rfl rfl (one_of HT_.out (by kernel_rfl)) (by decide) (fun K hK => ?_)
          refine Kd.R_lit_step (Kd.int .i64) _ 3 ?hg (N := 24) ?hd (xs := ([] : List Int)) (inner := []) (ok := fun _ => True) (okp := fun _ => True) ?hr ?hp (fun _ hk => hk) trivial (Below.refl _ _) (Nat.le_refl _) (by simp) ?_; (case hd => rfl); (case hg => rfl); (case hr => first | (go_simp; done) | (go_simp; rfl)); (case hp => exact (Reps.none _ _))
          intro v553 w20 ho21 hb hg_ hnew_
          clear hg_ hnew_
          (first | rw [← Ny552.out] at ho21 | (simp only [Int.reduceToNat] at ho21; rw [← Ny552.out] at ho21))
          replace HO_1 := Aside0.mk (Kd.V_elder' (Kd.V_x HO_1.out) (Kd.R_base ho21) hb)
          replace HO_5 := Aside0.mk (Kd.N_elder' (Kd.N_x HO_5.out) (Kd.R_base ho21) hb)
          have HO554 := Aside0.mk (Kd.R_lower (Kd.R_new' (Kd.R_newM (M := fun k_ => (w.heap.size ≤ k_)) ho21 (below_size (by exact below_y HB.out)) (fun k_ h_ => h_)) (Kd.R_lt (Kd.R_x HO560.out))) (below_size (by exact below_y HB.out)))
          replace HO560 := Aside0.mk (Kd.R_elder' (Kd.R_x HO560.out) (Kd.R_base ho21) hb)
          replace BK548 := Aside0.mk (blk_below (blk_x BK548.out) hb)
          replace HB := bl_x HB hb
          clear hb ho21
          refine hK.out _ _ ⟨(blk_cell BK548.out 0).trans rfl, (blk_cell BK548.out 1).trans rfl, (blk_cell BK548.out 2).trans rfl, (blk_cell BK548.out 3).trans rfl, (blk_cell BK548.out 4).trans rfl, (blk_cell BK548.out 5).trans rfl, (blk_cell BK548.out 6).trans rfl⟩ (fun hHeld => ?_)
          clear hK K
          refine norm_ (a' := ?_) ?_ ?_
          rotate_left
          ·
           show Act.put _ (some 24) _ = _
           simp only [Act.put, put_x, i64_w, i32_w]
           rfl
          refine one_ (i := 4) (N := some 26) (bz 11 127) rfl rfl (one_of HT_.out (by kernel_rfl)) (by decide) (fun K hK => ?_)
          refine Kd.R_append_rows_step (Kd.int .i64) (w0 := w) w.heap.size (by rfl) (.tmp 24) (.tmp 25) 27 3 (.int .i64 0) 8 rfl Try.underlying27 info3 rfl (by decide) (by omega) v553 y552 l1 _ _ _ (fun k_ => (w.heap.size ≤ k_) ∧ some k_ ≠ (v559 : Value).ownBlock) (fun _ => False) rfl rfl ?aO ?aR (fun _ _ h => h) (fun _ h => h.elim) ?aF ?aB ?aS ?aL ?_
          (case aR => exact Kd.C_y (Kd.V_reads' HO_1.out).2.2)
          (case aB => exact (by exact below_y HB.out))
          (case aF => exact (fun k_ hk => ⟨(Nat.le_trans (below_size (by exact below_y HB.out)) hk), Kd.fresh' (Kd.R_lt (Kd.R_x HO560.out)) k_ hk⟩))
          (case aO => exact (by (with_reducible repeat (first | apply Kd.R_alloc | apply Kd.R_drewN | apply Kd.R_drew)); exact Kd.R_mono HO554.out (fun _ hk => ⟨hk.1.1, hk.2⟩)))
          (case aS => exact (below_size (by exact below_y HB.out)))
          (case aL => have := LMc11.out; omega)
          intro v556 w22 ho hb hg hat
          rw [← Ny555.out] at ho
          replace HO_1 := Aside0.mk (Kd.V_afterv (ok := (fun k_ => (P1_ k_ ∨ w.heap.size ≤ k_) ∧ some k_ ≠ (.slice Ao16 x5_1.length co16 : Value).ownBlock ∧ some k_ ≠ (v559 : Value).ownBlock ∧ k_ ≠ gb548)) (by (with_reducible repeat (first | apply Kd.V_alloc | apply Kd.V_drewN | apply Kd.V_drew)); exact Kd.V_mono HO_1.out (fun _ hk => ⟨⟨hk.1.1.1, ⟨hk.1.1.2.1, ⟨hk.1.2, hk.1.1.2.2⟩⟩⟩, hk.2⟩)) hg hat)
          replace HO_5 := Aside0.mk (Kd.N_afterv (ok := (fun k_ => (P1_ k_ ∨ w.heap.size ≤ k_) ∧ some k_ ≠ (v559 : Value).ownBlock ∧ k_ ≠ gb548)) (by (with_reducible repeat (first | apply Kd.N_alloc | apply Kd.N_drewN | apply Kd.N_drew)); exact Kd.N_mono HO_5.out (fun _ hk => ⟨⟨hk.1.1.1, ⟨hk.1.2, hk.1.1.2⟩⟩, hk.2⟩)) hg hat)
          replace BK548 := Aside0.mk (blk_grown (blk_x BK548.out) hg (Kd.R_ne HO554.out BK548.out (by decide)))
          replace HO560 := Aside0.mk (Kd.R_after (ok := (fun k_ => (w.heap.size ≤ k_))) (by (with_reducible repeat (first | apply Kd.R_alloc | apply Kd.R_drewN | apply Kd.R_drew)); exact Kd.R_mono HO560.out (fun _ hk => ⟨hk.1.1, hk.2⟩)) hg hat)
          replace HB := Aside0.mk (hb)
          have HO557 := Aside0.mk (ho)
          clear HO554 ho hb hg hat
          refine hK.out _ _ ⟨(blk_cell BK548.out 0).trans rfl, (blk_cell BK548.out 1).trans rfl, (blk_cell BK548.out 2).trans rfl, (blk_cell BK548.out 3).trans rfl, (blk_cell BK548.out 4).trans rfl, (blk_cell BK548.out 5).trans rfl, (blk_cell BK548.out 6).trans rfl⟩ (fun hHeld => ?_)
          clear hK K
          refine norm_ (a' := ?_) ?_ ?_
          rotate_left
          ·
           show Act.put _ (some 26) _ = _
           simp only [Act.put, put_x, i64_w, i32_w]
           rfl
          exact norm_ (by simp only [putAll, Act.put, put_x]) (hCont (v553, v556, v559) _ ⟨hHeld, (Kd.R_x HO557.out), (Kd.R_x HO560.out), (by (with_reducible repeat (first | apply Kd.V_alloc | apply Kd.V_drewN | apply Kd.V_drew)); exact Kd.V_mono HO_1.out (fun _ hk => ⟨hk.1.1, ⟨hk.2, ⟨hk.1.2.2.1, ⟨hk.1.2.1, hk.1.2.2.2⟩⟩⟩⟩)), (by (with_reducible repeat (first | apply Kd.N_alloc | apply Kd.N_drewN | apply Kd.N_drew)); exact Kd.N_mono HO_5.out (fun _ hk => ⟨hk.1.1, ⟨hk.2, ⟨hk.1.2.1, hk.1.2.2⟩⟩⟩)), (blk_x BK548.out), (by exact below_y HB.out)⟩)
        rintro ⟨v553, v556, v559⟩ w23 ⟨hS_, h0_, h1_, h2_, h3_, h4_, h5_⟩
        have n0_ : Aside0 (Kd.R (Kd.int .i64) 3 w23 w.heap.size (fun k_ => (w.heap.size ≤ k_) ∧ some k_ ≠ (v559 : Value).ownBlock) v556 y555) := ⟨h0_⟩
        have n1_ : Aside0 (Kd.R (Kd.int .i64) 3 w23 w.heap.size (fun k_ => (w.heap.size ≤ k_) ∧ some k_ ≠ (v556 : Value).ownBlock) v559 y558) := ⟨h1_⟩
        have n2_ : Aside0 (Kd.V (Kd.int .i64) 3 w23 w.heap.size (fun k_ => (P1_ k_ ∨ w.heap.size ≤ k_) ∧ some k_ ≠ (v556 : Value).ownBlock ∧ some k_ ≠ (v559 : Value).ownBlock ∧ some k_ ≠ (.slice Ao16 x5_1.length co16 : Value).ownBlock ∧ k_ ≠ gb548) (.slice A1 l1.length c1) l1) := ⟨h2_⟩
        have n3_ : Aside0 (Kd.N (Kd.slice 3 (Kd.int .i64)) 27 w23 w.heap.size (fun k_ => (P1_ k_ ∨ w.heap.size ≤ k_) ∧ some k_ ≠ (v556 : Value).ownBlock ∧ some k_ ≠ (v559 : Value).ownBlock ∧ k_ ≠ gb548) (.slice Ao16 x5_1.length co16) x5_1) := ⟨h3_⟩
        have n4_ : Aside0 (w23.heap[gb548]? = some (.cells #[.int .i64 a0_0, .int .i64 a0_1, .int .i64 a0_2, .slice A0_3 l0_3.length c0_3, .int .i64 a0_4, .slice A0_5 l0_5.length c0_5, .slice A0_6 l0_6.length c0_6] 26 (0, 0))) := ⟨h4_⟩
        have n5_ : Aside0 (Below w.heap.size w w23) := ⟨h5_⟩
        clear HO_1 HO_5 BK548 HB h0_ h1_ h2_ h3_ h4_ h5_
        have HO557 := n0_
        have HO560 := n1_
        have HO_1 := n2_
        have HO_5 := n3_
        have BK548 := n4_
        have HB := n5_
        clear n0_ n1_ n2_ n3_ n4_ n5_
        have hHeld : w23.cell? ⟨gb548, 0, none⟩ = some (.int .i64 a0_0) ∧ w23.cell? ⟨gb548, 1, none⟩ = some (.int .i64 a0_1) ∧ w23.cell? ⟨gb548, 2, none⟩ = some (.int .i64 a0_2) ∧ w23.cell? ⟨gb548, 3, none⟩ = some (.slice A0_3 l0_3.length c0_3) ∧ w23.cell? ⟨gb548, 4, none⟩ = some (.int .i64 a0_4) ∧ w23.cell? ⟨gb548, 5, none⟩ = some (.slice A0_5 l0_5.length c0_5) ∧ w23.cell? ⟨gb548, 6, none⟩ = some (.slice A0_6 l0_6.length c0_6) := hS_
        obtain ⟨Ao25, co25, eo25⟩ := Kd.R_slice HO560.out
        (first | subst eo25 | (injection eo25 with f1_ f2_ f3_; have f4_ := f1_.symm; have f5_ := f3_.symm; clear f1_ f2_ f3_; subst f4_; subst f5_))
        refine norm_ (a' := ?_) ?_ ?_
        rotate_left
        ·
         simp only [putAll, Act.put, put_x]
         rfl
        refine one_ (i := 7) (N := some 29) (bz 11 255) rfl rfl (one_of HT_.out (by kernel_rfl)) (by decide) (fun K hK => ?_)
        refine Kd.R_append_rows_step (Kd.int .i64) (w0 := w) w.heap.size (by rfl) (.tmp 26) (.tmp 28) 27 3 (.int .i64 0) 8 rfl Try.underlying27 info3 rfl (by decide) (by omega) v556 y555 y558 _ _ _ (fun k_ => (w.heap.size ≤ k_) ∧ some k_ ≠ (.slice Ao25 y558.length co25 : Value).ownBlock) (fun _ => False) rfl rfl ?aO ?aR (fun _ _ h => h) (fun _ h => h.elim) ?aF ?aB ?aS ?aL ?_
        (case aR => exact Kd.C_y (Kd.R_reads' HO560.out).2.2)
        (case aB => exact (by exact below_y HB.out))
        (case aF => exact (fun k_ hk => ⟨(Nat.le_trans (below_size (by exact below_y HB.out)) hk), Kd.fresh' (Kd.R_lt (Kd.R_x HO560.out)) k_ hk⟩))
        (case aO => exact (Kd.R_x HO557.out))
        (case aS => exact (below_size (by exact below_y HB.out)))
        (case aL => have := LMc12.out; omega)
        intro v562 w24 ho hb hg hat
        rw [← Ny561.out] at ho
        replace HO_1 := Aside0.mk (Kd.V_afterv (ok := (fun k_ => (P1_ k_ ∨ w.heap.size ≤ k_) ∧ some k_ ≠ (.slice Ao16 x5_1.length co16 : Value).ownBlock ∧ some k_ ≠ (.slice Ao25 y558.length co25 : Value).ownBlock ∧ k_ ≠ gb548)) (by (with_reducible repeat (first | apply Kd.V_alloc | apply Kd.V_drewN | apply Kd.V_drew)); exact Kd.V_mono HO_1.out (fun _ hk => ⟨⟨hk.1, ⟨hk.2.2.2.1, ⟨hk.2.2.1, hk.2.2.2.2⟩⟩⟩, hk.2.1⟩)) hg hat)
        replace HO_5 := Aside0.mk (Kd.N_afterv (ok := (fun k_ => (P1_ k_ ∨ w.heap.size ≤ k_) ∧ some k_ ≠ (.slice Ao25 y558.length co25 : Value).ownBlock ∧ k_ ≠ gb548)) (by (with_reducible repeat (first | apply Kd.N_alloc | apply Kd.N_drewN | apply Kd.N_drew)); exact Kd.N_mono HO_5.out (fun _ hk => ⟨⟨hk.1, ⟨hk.2.2.1, hk.2.2.2⟩⟩, hk.2.1⟩)) hg hat)
        replace BK548 := Aside0.mk (blk_grown (blk_x BK548.out) hg (Kd.R_ne HO557.out BK548.out (by decide)))
        replace HO560 := Aside0.mk (Kd.R_after (ok := (fun k_ => (w.heap.size ≤ k_))) (Kd.R_x HO560.out) hg hat)
        replace HB := Aside0.mk (hb)
        have HO563 := Aside0.mk (ho)
        clear HO557 ho hb hg hat
        obtain ⟨Ao26, co26, eo26⟩ := Kd.R_slice HO563.out
        (first | subst eo26 | (injection eo26 with f1_ f2_ f3_; have f4_ := f1_.symm; have f5_ := f3_.symm; clear f1_ f2_ f3_; subst f4_; subst f5_))
        refine hK.out _ _ ⟨(blk_cell BK548.out 0).trans rfl, (blk_cell BK548.out 1).trans rfl, (blk_cell BK548.out 2).trans rfl, (blk_cell BK548.out 3).trans rfl, (blk_cell BK548.out 4).trans rfl, (blk_cell BK548.out 5).trans rfl, (blk_cell BK548.out 6).trans rfl⟩ (fun hHeld => ?_)
        clear hK K
        refine norm_ (a' := ?_) ?_ ?_
        rotate_left
        ·
         show Act.put _ (some 29) _ = _
         simp only [Act.put, put_x, i64_w, i32_w]
         rfl
        refine one_ (i := 8) (N := some 30) (bz 11 511) rfl rfl (one_of HT_.out (by kernel_rfl)) (by decide) (fun K hK => ?_)
        refine goes_ Try.func50 (by kernel_rfl) rfl #[.agg #[.int .i64 a0_0, .int .i64 a0_1, .int .i64 a0_2, .slice A0_3 l0_3.length c0_3, .int .i64 a0_4, .slice A0_5 l0_5.length c0_5, .slice A0_6 l0_6.length c0_6], .slice Ao26 y561.length co26] (by rfl) rfl rfl (by (try simp only [List.map_toArray, List.map_cons, List.map_nil]); first | done | rfl | (simp only [List.length_drop, List.length_take]; rfl)) ?_
        with_reducible refine (ih k1 (by have := HK1.out; omega) a0_0 a0_1 a0_2 _ _ l0_3 a0_4 _ _ l0_5 _ _ l0_6 (fun k_ => some k_ = (.slice Ao26 y561.length co26 : Value).ownBlock) _ _ y561 t564 _ ?side1 ?side2 ?side3 ?side4 ?side5 ?side6 ?side7 A13.out).mono ?_
        (case side1 => exact Kd.C_x HR0_3.out HB.out)
        (case side2 => exact HC0_3.out)
        (case side3 => exact Kd.C_x HR0_5.out HB.out)
        (case side4 => exact HC0_5.out)
        (case side5 => exact Kd.C_x HR0_6.out HB.out)
        (case side6 => exact HC0_6.out)
        (case side7 => exact Kd.R_V (Kd.R_tight rfl (Kd.R_types (Kd.R_apart' (HO563.out) (Kd.N_typed HO_5.out) (by decide)) BK548.out (by decide))))
        rintro e w27 ⟨v565, rfl, ho0, hb⟩
        refine ⟨_, rfl, ?_⟩
        replace HO_1 := Aside0.mk (Kd.V_elder' (Kd.V_x HO_1.out) (Kd.N_base ho0) hb)
        have HO566 := Aside0.mk (Kd.N_lower (Kd.N_mono (ok' := fun k_ => (P1_ k_ ∨ w.heap.size ≤ k_) ∧ some k_ ≠ (.slice Ao16 x5_1.length co16 : Value).ownBlock ∧ some k_ ≠ (.slice Ao25 y558.length co25 : Value).ownBlock ∧ k_ ≠ gb548) ho0 (fun k_ hk_ => ⟨Or.elim hk_ (fun hs_ => (.inr (((Kd.R_types (Kd.R_apart' (HO563.out) (Kd.N_typed HO_5.out) (by decide)) BK548.out (by decide)).1 k_ hs_.symm).1.1.1))) (fun hn_ => (.inr (Nat.le_trans (below_size (by exact below_y HB.out)) hn_))), Or.elim hk_ (fun hs_ => ((Kd.R_types (Kd.R_apart' (HO563.out) (Kd.N_typed HO_5.out) (by decide)) BK548.out (by decide)).1 k_ hs_.symm).1.2) (fun hn_ => (Kd.fresh' (Kd.N_lt (Kd.N_x HO_5.out)) k_ hn_)), Or.elim hk_ (fun hs_ => ((Kd.R_types (Kd.R_apart' (HO563.out) (Kd.N_typed HO_5.out) (by decide)) BK548.out (by decide)).1 k_ hs_.symm).1.1.2) (fun hn_ => (Kd.fresh' (Kd.R_lt (Kd.R_x HO560.out)) k_ hn_)), Or.elim hk_ (fun hs_ => ((Kd.R_types (Kd.R_apart' (HO563.out) (Kd.N_typed HO_5.out) (by decide)) BK548.out (by decide)).1 k_ hs_.symm).2) (fun hn_ => (Kd.freshB (g := gb548) (o := .cells #[.int .i64 a0_0, .int .i64 a0_1, .int .i64 a0_2, .slice A0_3 l0_3.length c0_3, .int .i64 a0_4, .slice A0_5 l0_5.length c0_5, .slice A0_6 l0_6.length c0_6] 26 (0, 0)) (blk_x BK548.out) k_ hn_))⟩)) (below_size (by exact below_y HB.out)))
        replace HO_5 := Aside0.mk (Kd.N_elder' (Kd.N_x HO_5.out) (Kd.N_base ho0) hb)
        replace HO560 := Aside0.mk (Kd.R_below (Kd.R_x HO560.out) hb)
        replace HO563 := Aside0.mk (Kd.R_below (Kd.R_x HO563.out) hb)
        replace BK548 := Aside0.mk (blk_below (blk_x BK548.out) hb)
        replace HB := bl_x HB hb
        (try clear hb)
        (try clear hb2)
        (try clear hk)
        (try clear hi)
        (try clear ho0)
        obtain ⟨Ao29, co29, eo29⟩ := Kd.N_slice HO566.out
        (first | subst eo29 | (injection eo29 with f1_ f2_ f3_; have f4_ := f1_.symm; have f5_ := f3_.symm; clear f1_ f2_ f3_; subst f4_; subst f5_))
        refine hK.out _ _ ⟨(blk_cell BK548.out 0).trans rfl, (blk_cell BK548.out 1).trans rfl, (blk_cell BK548.out 2).trans rfl, (blk_cell BK548.out 3).trans rfl, (blk_cell BK548.out 4).trans rfl, (blk_cell BK548.out 5).trans rfl, (blk_cell BK548.out 6).trans rfl⟩ (fun hHeld => ?_)
        clear hK K
        refine norm_ (a' := ?_) ?_ ?_
        rotate_left
        ·
         show Act.put _ (some 30) _ = _
         simp only [Act.put, put_x, i64_w, i32_w]
         rfl
        refine one_ (i := 9) (N := some 31) (bz 11 1023) rfl rfl (one_of HT_.out (by kernel_rfl)) (by decide) (fun K hK => ?_)
        refine Kd.N_append_rows_step (Kd.slice 3 (Kd.int .i64)) (w0 := w) w.heap.size (by rfl) (.tmp 22) (.tmp 30) 36 27 (.slice none 0 0) 24 rfl Try.underlying36 info27 rfl (by decide) (by omega) (.slice Ao16 x5_1.length co16) x5_1 t564 _ _ _ (fun k_ => (P1_ k_ ∨ w.heap.size ≤ k_) ∧ some k_ ≠ (.slice Ao25 y558.length co25 : Value).ownBlock ∧ k_ ≠ gb548) (fun k_ => ((fun k_ => (P1_ k_ ∨ w.heap.size ≤ k_) ∧ some k_ ≠ (.slice Ao25 y558.length co25 : Value).ownBlock ∧ k_ ≠ gb548)) k_ ∧ some k_ ≠ (.slice Ao16 x5_1.length co16 : Value).ownBlock) rfl rfl ?aO ?aR (fun _ hk => hk) ?aF ?aB ?aS ?aL ?_
        (case aR => exact (by skip; exact Kd.N_F (Kd.N_mono (ok' := (fun k_ => ((fun k_ => (P1_ k_ ∨ w.heap.size ≤ k_) ∧ some k_ ≠ (.slice Ao25 y558.length co25 : Value).ownBlock ∧ k_ ≠ gb548)) k_ ∧ some k_ ≠ (.slice Ao16 x5_1.length co16 : Value).ownBlock)) (HO566.out) (fun k_ hk => ⟨⟨hk.1, ⟨hk.2.2.1, hk.2.2.2⟩⟩, hk.2.1⟩))))
        (case aB => exact (by exact below_y HB.out))
        (case aF => exact (fun k_ hk => ⟨(.inr (Nat.le_trans (below_size (by exact below_y HB.out)) hk)), Kd.fresh' (Kd.R_lt (Kd.R_x HO560.out)) k_ hk, Kd.freshB (g := gb548) (o := .cells #[.int .i64 a0_0, .int .i64 a0_1, .int .i64 a0_2, .slice A0_3 l0_3.length c0_3, .int .i64 a0_4, .slice A0_5 l0_5.length c0_5, .slice A0_6 l0_6.length c0_6] 26 (0, 0)) (blk_x BK548.out) k_ hk⟩))
        (case aO => exact (by (with_reducible repeat (first | apply Kd.N_alloc | apply Kd.N_drewN | apply Kd.N_drew)); exact Kd.N_mono HO_5.out (fun _ hk => ⟨hk.1.1.1, ⟨hk.1.1.2.1, hk.1.1.2.2⟩⟩)))
        (case aS => exact (below_size (by exact below_y HB.out)))
        (case aL => have := LMc14.out; omega)
        intro v568 w28 ho hb hg hat
        rw [← Ny567.out] at ho
        replace HO_1 := Aside0.mk (Kd.V_afterv (ok := (fun k_ => (P1_ k_ ∨ w.heap.size ≤ k_) ∧ some k_ ≠ (.slice Ao25 y558.length co25 : Value).ownBlock ∧ some k_ ≠ (.slice Ao26 y561.length co26 : Value).ownBlock ∧ some k_ ≠ (.slice Ao29 t564.length co29 : Value).ownBlock ∧ k_ ≠ gb548)) (by (with_reducible repeat (first | apply Kd.V_alloc | apply Kd.V_drewN | apply Kd.V_drew)); exact Kd.V_mono HO_1.out (fun _ hk => ⟨⟨hk.1.1.1, ⟨hk.1.1.2.2.1, ⟨hk.1.2, ⟨hk.2, hk.1.1.2.2.2⟩⟩⟩⟩, hk.1.1.2.1⟩)) hg hat)
        replace BK548 := Aside0.mk (blk_grown (blk_x BK548.out) hg (Kd.N_ne HO_5.out BK548.out (by decide)))
        replace HO560 := Aside0.mk (Kd.R_over' (Kd.R_x HO560.out) (Kd.N_typed (Kd.N_x HO_5.out)) (by decide) hg)
        replace HO563 := Aside0.mk (Kd.R_over' (Kd.R_x HO563.out) (Kd.N_typed (Kd.N_x HO_5.out)) (by decide) hg)
        replace HO566 := Aside0.mk (Kd.N_afterv (ok := (fun k_ => (P1_ k_ ∨ w.heap.size ≤ k_) ∧ some k_ ≠ (.slice Ao25 y558.length co25 : Value).ownBlock ∧ k_ ≠ gb548)) (by (with_reducible repeat (first | apply Kd.N_alloc | apply Kd.N_drewN | apply Kd.N_drew)); exact Kd.N_mono HO566.out (fun _ hk => ⟨⟨hk.1, ⟨hk.2.2.1, hk.2.2.2⟩⟩, hk.2.1⟩)) hg hat)
        replace HB := Aside0.mk (hb)
        have HO569 := Aside0.mk (ho)
        clear HO_5 ho hb hg hat
        refine hK.out _ _ ⟨(blk_cell BK548.out 0).trans rfl, (blk_cell BK548.out 1).trans rfl, (blk_cell BK548.out 2).trans rfl, (blk_cell BK548.out 3).trans rfl, (blk_cell BK548.out 4).trans rfl, (blk_cell BK548.out 5).trans rfl, (blk_cell BK548.out 6).trans rfl⟩ (fun hHeld => ?_)
        clear hK K
        refine norm_ (a' := ?_) ?_ ?_
        rotate_left
        ·
         show Act.put _ (some 31) _ = _
         simp only [Act.put, put_x, i64_w, i32_w]
         rfl
        refine pure_ (i := 10) (N := some 5) (v := ?_) (a' := ?_) (bz 11 2047) rfl rfl (any_of HT_.out (by kernel_rfl)) (fun _ _ _ h => h) (Or.inl ⟨by rfl, ?_⟩) ?_ ?_
        rotate_left
        ·
         intro w'
         go_simp
         with_reducible rfl
        rotate_left
        ·
         simp only [Act.put, put_x, i64_w, i32_w]
         rfl
        refine done_ (done_of HT_.out (by kernel_rfl)) ?_
        try go_wp2
        go_roundg k1
        case measure => have := HK1.out; omega
        case rel => exact ⟨(y567), (wrap64 (x6_1 + 1)), (by first | rfl | (simp; done) | (simp [*]; done)), H', ⟨by have := HK1.out; omega⟩, ⟨by (with_reducible repeat (first | apply Kd.V_alloc | apply Kd.V_drewN | apply Kd.V_drew)); exact Kd.V_mono HO_1.out (fun _ hk => ⟨hk.1.1, ⟨hk.2, hk.1.2.2.2.2⟩⟩)⟩, ⟨by (with_reducible repeat (first | apply Kd.N_alloc | apply Kd.N_drewN | apply Kd.N_drew)); exact Kd.N_mono HO569.out (fun _ hk => ⟨hk.1, hk.2.2⟩)⟩, ⟨blk_x BK548.out⟩, ⟨by exact below_y HB.out⟩⟩
       ·
        rw [if_neg c14] at H
        exact absurd H (by simp)
      ·
       rw [if_neg c12] at H
       exact absurd H (by simp)
     ·
      rw [if_neg c11] at H
      exact absurd H (by simp)
    ·
     rw [if_neg c10] at H
     have c10b0 : decide (x6_1 < (l0_3.length : Int)) = false := decide_eq_false c10
     clear c10
     obtain rfl := Option.some.inj H
     obtain ⟨_, _, _, _, _, _, _⟩ := cz7 BK548
     have hfz30_0 := blk_frozen BK548.out
     go_wp2
     go_ret
     exact ⟨_, by first | rfl | (simp [errW_none, errW_some] <;> rfl) | (simp [*, errW_none, errW_some] <;> rfl), by (with_reducible repeat (first | apply Kd.N_alloc | apply Kd.N_drewN | apply Kd.N_drew)); exact Kd.N_mono HO_5.out (fun _ hk => hk.1), by exact below_y HB.out⟩
mutual
noncomputable def swarflaw07_ShipMost.l0 : Nat → List Int → Int → List (List Int) → Int → Int → Int → Int → Int → Int → List (S85) → Int → List (S59) → List (S79) → Option (Bool)
 | 0, _, _, _, _, _, _, _, _, _, _, _, _, _ => none
 | k + 1, x5, x6, x8, x9, x10, x11, x1200000, x1200001, x1200002, x1200003, x1200004, x1200005, x1200006 => if x11 < (x8.length : Int) then (if 0 ≤ x11 then ((ship_CheckStowage.f k x1200000 x1200001 x1200002 x1200003 x1200004 x1200005 x1200006 (rd_L7 x8 x11)).bind fun t1209 => (if t1209 = 0 then ((ship_Level.f k x1200000 x1200001 x1200002 x1200003 x1200004 x1200005 x1200006 (rd_L7 x8 x11)).bind fun bt1211 => ((ship_Sail.f x1200000 x1200001 x1200002 x1200003 x1200004 x1200005 x1200006 (rd_L7 x8 x11)).bind fun bt1217 => (if bt1211.2.2.2 = 0 then (swarflaw07_ShipMost.j1 k x5 x6 x8 x9 x10 x11 bt1211.1 bt1217.1 (bt1217.2.2 != 0) x1200000 x1200001 x1200002 x1200003 x1200004 x1200005 x1200006) else (swarflaw07_ShipMost.j1 k x5 x6 x8 x9 x10 x11 bt1211.1 bt1217.1 true x1200000 x1200001 x1200002 x1200003 x1200004 x1200005 x1200006)))) else (swarflaw07_ShipMost.l0 k x5 x6 x8 x9 x10 (wrap64 (x11 + 1)) x1200000 x1200001 x1200002 x1200003 x1200004 x1200005 x1200006))) else (none)) else (if x10 < 0 then (if x6 = (-1) then (if (x5.length : Int) = 0 then ((swarflaw07_awake.f k).bind fun t1226 => (some t1226)) else (some false)) else (some false)) else (if x6 = x9 then (if 0 ≤ x10 then (if x10 < (x8.length : Int) then ((swarfkit_EqualInts.f k x5 (rd_L7 x8 x10)).bind fun t1228 => (if t1228 = true then ((swarflaw07_awake.f k).bind fun t1229 => (some t1229)) else (some false))) else (none)) else (none)) else (some false)))
noncomputable def swarflaw07_ShipMost.j1 : Nat → List Int → Int → List (List Int) → Int → Int → Int → Bool → Int → Bool → Int → Int → Int → List (S85) → Int → List (S59) → List (S79) → Option (Bool)
 | 0, _, _, _, _, _, _, _, _, _, _, _, _, _, _, _, _ => none
 | k + 1, x5, x6, x8, x9, x10, x11, x12, x15, x75, x1200000, x1200001, x1200002, x1200003, x1200004, x1200005, x1200006 => if x75 = true then (some false) else (swarflaw07_ShipMost.l1 k x5 x6 x8 x9 x10 x11 x12 x15 0 0 x1200000 x1200001 x1200002 x1200003 x1200004 x1200005 x1200006)
noncomputable def swarflaw07_ShipMost.l1 : Nat → List Int → Int → List (List Int) → Int → Int → Int → Bool → Int → Int → Int → Int → Int → Int → List (S85) → Int → List (S59) → List (S79) → Option (Bool)
 | 0, _, _, _, _, _, _, _, _, _, _, _, _, _, _, _, _, _ => none
 | k + 1, x5, x6, x8, x9, x10, x11, x12, x15, x18, x19, x1200000, x1200001, x1200002, x1200003, x1200004, x1200005, x1200006 => if 0 ≤ x11 then (if x11 < (x8.length : Int) then (if x19 < ((rd_L7 x8 x11).length : Int) then (if 0 ≤ x19 then (if (rd (rd_L7 x8 x11) x19) ≥ 0 then (if x19 < (x1200006.length : Int) then (swarflaw07_ShipMost.l1 k x5 x6 x8 x9 x10 x11 x12 x15 (wrap64 (x18 + ((rd_T79 x1200006 x19).f1))) (wrap64 (x19 + 1)) x1200000 x1200001 x1200002 x1200003 x1200004 x1200005 x1200006) else (none)) else (swarflaw07_ShipMost.l1 k x5 x6 x8 x9 x10 x11 x12 x15 x18 (wrap64 (x19 + 1)) x1200000 x1200001 x1200002 x1200003 x1200004 x1200005 x1200006)) else (none)) else (if x12 = true then (if x15 = 1 then (if x18 > x9 then (swarflaw07_ShipMost.l0 k x5 x6 x8 x18 x11 (wrap64 (x11 + 1)) x1200000 x1200001 x1200002 x1200003 x1200004 x1200005 x1200006) else (swarflaw07_ShipMost.l0 k x5 x6 x8 x9 x10 (wrap64 (x11 + 1)) x1200000 x1200001 x1200002 x1200003 x1200004 x1200005 x1200006)) else (swarflaw07_ShipMost.l0 k x5 x6 x8 x9 x10 (wrap64 (x11 + 1)) x1200000 x1200001 x1200002 x1200003 x1200004 x1200005 x1200006)) else (swarflaw07_ShipMost.l0 k x5 x6 x8 x9 x10 (wrap64 (x11 + 1)) x1200000 x1200001 x1200002 x1200003 x1200004 x1200005 x1200006))) else (none)) else (none)
end
noncomputable def swarflaw07_ShipMost.f (k : Nat) (l0 : List Int) : Option (Bool) := (swarfkit_FeedOf.f l0).bind fun t1178 => ((swarfkit_Feed_Either.f t1178 (([4, 30] : List Int))).bind fun bt1183 => ((swarfkit_VoyageOf.f k bt1183.2 2 2 4 bt1183.1).bind fun bt1185 => ((ship_Best.f bt1185.1 bt1185.2.1 bt1185.2.2.1 bt1185.2.2.2.1 bt1185.2.2.2.2.1 bt1185.2.2.2.2.2.1 bt1185.2.2.2.2.2.2.1).bind fun bt1200 => (if bt1200.2.2 = 0 then ((swarfref07_Stowages.f k bt1185.1 bt1185.2.1 bt1185.2.2.1 bt1185.2.2.2.1 bt1185.2.2.2.2.1 bt1185.2.2.2.2.2.1 bt1185.2.2.2.2.2.2.1 ([] : List Int)).bind fun t1205 => (swarflaw07_ShipMost.l0 k bt1200.1 bt1200.2.1 t1205 (-1) (-1) 0 bt1185.1 bt1185.2.1 bt1185.2.2.1 bt1185.2.2.2.1 bt1185.2.2.2.2.1 bt1185.2.2.2.2.2.1 bt1185.2.2.2.2.2.2.1)) else (some false)))))
def swarflaw07_ShipMost.T12 : Bool × List (List Nat × List Nat) := (true, [([], []), ([], []), ([], []), ([1, 2], [1, 2]), ([3], [3]), ([0, 4], [0, 4]), ([5], [5]), ([6], [6]), ([6], [6]), ([6], [6]), ([], []), ([7, 5, 0, 1, 2, 3, 4, 5, 6, 7, 10], [7]), ([10, 8, 11, 0, 1, 2, 3, 4, 5, 6, 7, 8, 10, 11], [8, 10]), ([9, 12, 0, 1, 2, 3, 4, 5, 6, 7, 8, 9, 10, 11, 12], [9])])
def swarflaw07_ShipMost.B12 : List Nat := [0, 0, 0, 6, 14, 31, 63, 127, 127, 127, 0, 1279, 3583, 8191]
theorem swarflaw07_ShipMost.tab12 : rtab .any (opsOf Try.f11 12) = swarflaw07_ShipMost.T12 := by kernel_rfl
theorem swarflaw07_ShipMost.bits12 : waitsOk swarflaw07_ShipMost.T12.2 swarflaw07_ShipMost.B12 = true := by kernel_rfl
def swarflaw07_ShipMost.T13 : Bool × List (List Nat × List Nat) := (true, [([], []), ([], []), ([], []), ([1, 2], [1, 2]), ([3], [3]), ([0, 4], [0, 4]), ([5], [5]), ([6], [6]), ([6], [6]), ([6], [6]), ([7, 5, 0, 1, 2, 3, 4, 5, 6, 7], [7]), ([8, 10, 0, 1, 2, 3, 4, 5, 6, 7, 8, 10], [8]), ([9, 11, 0, 1, 2, 3, 4, 5, 6, 7, 8, 9, 10, 11], [9])])
def swarflaw07_ShipMost.B13 : List Nat := [0, 0, 0, 6, 14, 31, 63, 127, 127, 127, 255, 1535, 4095]
theorem swarflaw07_ShipMost.tab13 : rtab .any (opsOf Try.f11 13) = swarflaw07_ShipMost.T13 := by kernel_rfl
theorem swarflaw07_ShipMost.bits13 : waitsOk swarflaw07_ShipMost.T13.2 swarflaw07_ShipMost.B13 = true := by kernel_rfl
set_option maxHeartbeats 8000000 in
set_option maxRecDepth 100000 in
theorem swarflaw07_ShipMost.calls (k : Nat) (A0 : Option Addr) (c0 : Nat) (l0 : List Int) (r : Bool) (hrt : Aside0 (r = true)) (w : World) (hr0 : Kd.C (Kd.int .i64) w A0 l0.length l0) (hc0 : l0.length ≤ c0) (h : swarflaw07_ShipMost.f k l0 = some r) :
  Calls Try.prog 11 #[.slice A0 l0.length c0] w fun e w' => e = .returned (.bool r) ∧ Below w.heap.size w w' := by
 have hu26 := Try.underlying26
 have hu56 := Try.underlying56
 have HR0 := Aside0.mk hr0
 have HC0 := Aside0.mk hc0
 clear hr0 hc0
 have HB := Aside0.mk (Below.refl w.heap.size w)
 have H : ((swarfkit_FeedOf.f l0).bind fun t1178 => ((swarfkit_Feed_Either.f t1178 (([4, 30] : List Int))).bind fun bt1183 => ((swarfkit_VoyageOf.f k bt1183.2 2 2 4 bt1183.1).bind fun bt1185 => ((ship_Best.f bt1185.1 bt1185.2.1 bt1185.2.2.1 bt1185.2.2.2.1 bt1185.2.2.2.2.1 bt1185.2.2.2.2.2.1 bt1185.2.2.2.2.2.2.1).bind fun bt1200 => (if bt1200.2.2 = 0 then ((swarfref07_Stowages.f k bt1185.1 bt1185.2.1 bt1185.2.2.1 bt1185.2.2.2.1 bt1185.2.2.2.2.1 bt1185.2.2.2.2.2.1 bt1185.2.2.2.2.2.2.1 ([] : List Int)).bind fun t1205 => (swarflaw07_ShipMost.l0 k bt1200.1 bt1200.2.1 t1205 (-1) (-1) 0 bt1185.1 bt1185.2.1 bt1185.2.2.1 bt1185.2.2.2.1 bt1185.2.2.2.2.1 bt1185.2.2.2.2.2.1 bt1185.2.2.2.2.2.2.1)) else (some false)))))) = some r := h
 clear h
 replace H := Option.bind_eq_some_iff.mp H
 obtain ⟨t1178, A20, H⟩ := H
 try dsimp only at H
 have A2 := Aside0.mk A20
 clear A20
 obtain ⟨y1180, hy1180⟩ : ∃ y_ : List Int, y_ = (([4, 30] : List Int)) := ⟨_, rfl⟩
 replace H : ((swarfkit_Feed_Either.f t1178 y1180).bind fun bt1183 => ((swarfkit_VoyageOf.f k bt1183.2 2 2 4 bt1183.1).bind fun bt1185 => ((ship_Best.f bt1185.1 bt1185.2.1 bt1185.2.2.1 bt1185.2.2.2.1 bt1185.2.2.2.2.1 bt1185.2.2.2.2.2.1 bt1185.2.2.2.2.2.2.1).bind fun bt1200 => (if bt1200.2.2 = 0 then ((swarfref07_Stowages.f k bt1185.1 bt1185.2.1 bt1185.2.2.1 bt1185.2.2.2.1 bt1185.2.2.2.2.1 bt1185.2.2.2.2.2.1 bt1185.2.2.2.2.2.2.1 ([] : List Int)).bind fun t1205 => (swarflaw07_ShipMost.l0 k bt1200.1 bt1200.2.1 t1205 (-1) (-1) 0 bt1185.1 bt1185.2.1 bt1185.2.2.1 bt1185.2.2.2.1 bt1185.2.2.2.2.1 bt1185.2.2.2.2.2.1 bt1185.2.2.2.2.2.2.1)) else (some false))))) = some r := by first | (rw [hy1180]; with_reducible exact H) | (have H2_ := (Option.bind_some _ _).symm.trans H; rw [hy1180]; with_reducible exact H2_) | (have H2_ := (Option.bind_some _ _).symm.trans H; with_reducible exact H2_) | with_reducible exact H | (rw [hy1180]; exact H) | exact H
 have Ny1180 := Aside0.mk hy1180
 clear hy1180
 replace H := Option.bind_eq_some_iff.mp H
 obtain ⟨⟨t1183, t1184⟩, A30, H⟩ := H
 try dsimp only at H
 have A3 := Aside0.mk A30
 clear A30
 replace H := Option.bind_eq_some_iff.mp H
 obtain ⟨⟨t1185, t1186, t1187, t1188, t1191, t1192, t1195, t1198⟩, A40, H⟩ := H
 try dsimp only at H
 have A4 := Aside0.mk A40
 clear A40
 replace H := Option.bind_eq_some_iff.mp H
 obtain ⟨⟨t1200, t1203, t1204⟩, A50, H⟩ := H
 try dsimp only at H
 have A5 := Aside0.mk A50
 clear A50
 by_cases c6 : t1204 = 0
 ·
  rw [if_pos c6] at H
  have c6b0 : (t1204 == 0) = true := beq_iff_eq.mpr c6
  have c6b1 : (t1204 != 0) = false := bne_eq_false_iff_eq.mpr c6
  clear c6
  replace H := Option.bind_eq_some_iff.mp H
  obtain ⟨t1205, A70, H⟩ := H
  try dsimp only at H
  have A7 := Aside0.mk A70
  clear A70
  have H' := Aside0.mk H
  clear H
  go_enter Try.func11, Try.ntmps11
  go_wp2_with (first | ((with_reducible refine gate_callee (f := 16) rfl ?_); refine goesL_ (some 21) rfl rfl Try.func16 (by kernel_rfl) rfl #[.slice A0 l0.length c0] rfl (by (try simp only [List.map_toArray, List.map_cons, List.map_nil]); first | done | rfl | (simp only [List.length_drop, List.length_take]; rfl)) ?_; (with_reducible refine (swarfkit_FeedOf.calls _ _ l0 t1178 w _ ?side1 ?side2 ?side3 A2.out).mono ?_); (case side1 => exact below_y HB.out); (case side2 => exact HR0.out); (case side3 => exact HC0.out); rintro e w8 ⟨g1179, rfl, hi, hb, hb2⟩; refine ⟨_, rfl, ?_⟩; replace HB := Aside0.mk (hb); have HI1179 := Aside0.mk (hi); (try clear hb); (try clear hk); (try clear hi)) | ((with_reducible refine gate_dst (N := 24) rfl ?_); (try (refine gate_guard (by rfl) ?_; dsimp only)); refine Kd.R_lit (Kd.int .i64) _ 3 ?hg (N := 24) ?hd (xs := ([4, 30] : List Int)) (inner := [.int .i64 4, .int .i64 30]) (ok := fun _ => True) (okp := fun _ => True) ?hr ?hp (fun _ hk => hk) trivial (Below.refl _ _) (Nat.le_refl _) (by simp) ?_; (case hd => rfl); (case hg => rfl); (case hr => first | (go_simp; done) | (go_simp; rfl)); (case hp => exact (Reps.one (show Kd.M (Kd.int .i64) _ _ _ 4 [.int .i64 4] from rfl) (Reps.one (show Kd.M (Kd.int .i64) _ _ _ 30 [.int .i64 30] from rfl) (Reps.none _ _)))); intro v1181 w9 ho10 hb hg_ hnew_; clear hg_ hnew_; (first | rw [← Ny1180.out] at ho10 | (simp only [Int.reduceToNat] at ho10; rw [← Ny1180.out] at ho10)); have HO1182 := Aside0.mk (Kd.R_lower ho10 (below_size (by exact below_y HB.out))); replace HI1179 := Aside0.mk (IsS90.below (by exact IsS90.up HI1179.out) hb); replace HB := bl_x HB hb; clear hb ho10; obtain ⟨Ao11, co11, eo11⟩ := Kd.R_slice HO1182.out; subst eo11) | ((with_reducible refine gate_callee (f := 18) rfl ?_); refine goesL_ (some 25) rfl rfl Try.func18 (by kernel_rfl) rfl #[.pointer (some ⟨g1179, 0, none⟩), .slice Ao11 y1180.length co11] rfl (by (try simp only [List.map_toArray, List.map_cons, List.map_nil]); first | done | rfl | (simp only [List.length_drop, List.length_take]; rfl)) ?_; (with_reducible refine (swarfkit_Feed_Either.calls g1179 t1178 _ _ y1180 t1183 t1184 w _ ?side1 ?side2 ?side3 ?side4 ?side5 A3.out).mono ?_); (case side1 => exact IsS90.up HI1179.out); (case side2 => exact below_y HB.out); (case side3 => exact Kd.C_y (Kd.R_reads' HO1182.out).2.2); (case side4 => exact (Kd.R_reads' HO1182.out).2.1); (case side5 => exact far_slice (IsS90.own_ne HI1179.out HO1182.out (by decide))); rintro e w12 ⟨rfl, hi, hb, hk⟩; refine ⟨_, rfl, ?_⟩; replace HO1182 := Aside0.mk (Kd.R_mono (Kd.R_keep (IsS90.apart (show IsS90 w _ g1179 t1178 from by exact IsS90.up HI1179.out) (Kd.R_x HO1182.out) (by decide)) hk (fun _ h => h.2)) (fun _ h => h.1)); replace HB := Aside0.mk (hb); replace HI1179 := Aside0.mk (hi); (try clear hb); (try clear hk); (try clear hi)) | ((with_reducible refine gate_callee (f := 17) rfl ?_); refine goesL_ (some 26) rfl rfl Try.func17 (by kernel_rfl) rfl #[.pointer (some ⟨g1179, 0, none⟩), .int .i64 2, .int .i64 2, .int .i64 4, .int .i64 t1183] rfl (by (try simp only [List.map_toArray, List.map_cons, List.map_nil]); first | done | rfl | (simp only [List.length_drop, List.length_take]; rfl)) ?_; (with_reducible refine (swarfkit_VoyageOf.calls k g1179 t1184 2 2 4 t1183 t1185 t1186 t1187 t1188 t1191 t1192 t1195 t1198 w _ ?side1 ?side2 A4.out).mono ?_); (case side1 => exact IsS90.up HI1179.out); (case side2 => exact below_y HB.out); rintro e w13 ⟨v1189, v1193, v1196, rfl, ho0, ho1, ho2, hi, hb, hk⟩; refine ⟨_, rfl, ?_⟩; have HO1190 := Aside0.mk (Kd.R_lower ho0 (below_size (by exact below_y HB.out))); have HO1194 := Aside0.mk (Kd.N_lower (Kd.N_mono (ok' := fun k_ => some k_ ≠ (v1189 : Value).ownBlock ∧ some k_ ≠ (v1196 : Value).ownBlock ∧ some k_ ≠ (.slice Ao11 y1180.length co11 : Value).ownBlock ∧ k_ ≠ g1179) (Kd.S_N (Kd.S_bound (Kd.S_apart' (Kd.S_apart' ho1 (Kd.R_typed ho0) (by decide)) (Kd.R_typed ho2) (by decide)))) (fun k_ hk_ => ⟨hk_.1.1.2, hk_.1.2, (Kd.fresh' (Kd.R_lt (Kd.R_x HO1182.out)) k_ hk_.2.1), (IsS90.fresh (by exact IsS90.up HI1179.out) k_ hk_.2.1)⟩)) (below_size (by exact below_y HB.out))); replace HO1182 := Aside0.mk (Kd.R_mono (Kd.R_keep (IsS90.apart (show IsS90 w _ g1179 t1184 from by exact IsS90.up HI1179.out) (Kd.R_x HO1182.out) (by decide)) hk (fun _ h => h.2)) (fun _ h => h.1)); have HO1197 := Aside0.mk (Kd.R_lower ho2 (below_size (by exact below_y HB.out))); replace HB := Aside0.mk (hb); replace HI1179 := Aside0.mk (hi); (try clear hb); (try clear hk); (try clear hi); (try clear ho0); (try clear ho1); (try clear ho2)) | ((with_reducible refine gate_dst (N := 4) rfl ?_); (try (refine gate_guard (by rfl) ?_; dsimp only)); refine box_event ?hg (N := 4) ?hd (cs := #[.int .i64 0, .int .i64 0, .int .i64 0, .slice none 0 0, .int .i64 0, .slice none 0 0, .slice none 0 0]) (t := 26) ?hr ?_; (case hd => rfl); (case hg => rfl); (case hr => first | (go_simp; done) | (go_simp; rfl)); intro gb1199 hg w14 hbox hb; replace HO1182 := Aside0.mk (Kd.R_below (Kd.R_x HO1182.out) hb); replace HO1190 := Aside0.mk (Kd.R_below (Kd.R_x HO1190.out) hb); replace HO1194 := Aside0.mk (Kd.N_below (Kd.N_elderB (Kd.N_x HO1194.out) gb1199 (Nat.le_of_eq hg.symm)) hb); replace HO1197 := Aside0.mk (Kd.R_below (Kd.R_x HO1197.out) hb); have BK1199 := Aside0.mk (hbox); have GW1199 := Aside0.mk ((by rw [hg]; exact (below_size (by exact below_y HB.out)) : w.heap.size ≤ gb1199)); have GE1199 := Aside0.mk ((by rw [hg]; exact (below_size (by exact below_y HB.out)) : w.heap.size ≤ gb1199)); replace HB := bl_x HB hb; have NB1179_1199 := Aside0.mk ((by rw [hg]; exact Nat.ne_of_lt (IsS90.lt (show IsS90 w _ g1179 t1198 from by exact IsS90.up HI1179.out)) : g1179 ≠ gb1199)); have NB1199_1179 := Aside0.mk ((by rw [hg]; exact Nat.ne_of_gt (IsS90.lt (show IsS90 w _ g1179 t1198 from by exact IsS90.up HI1179.out)) : gb1199 ≠ g1179)); replace HI1179 := Aside0.mk (IsS90.below (by exact IsS90.up HI1179.out) hb); clear hb hbox hg; have hnb15 := NB1199_1179.out; have hnc15 := NB1179_1199.out; obtain ⟨_, _, _, _, _, _, _⟩ := cz7 BK1199; have hfz16_0 := blk_frozen BK1199.out; obtain ⟨Ao17, co17, eo17⟩ := Kd.R_slice HO1190.out; subst eo17; obtain ⟨Ao18, co18, eo18⟩ := Kd.N_slice HO1194.out; subst eo18; obtain ⟨Ao19, co19, eo19⟩ := Kd.R_slice HO1197.out; subst eo19) | ((with_reducible refine gate_callee (f := 28) rfl ?_); refine goesL_ (some 29) rfl rfl Try.func28 (by kernel_rfl) rfl #[.agg #[.int .i64 t1185, .int .i64 t1186, .int .i64 t1187, .slice Ao17 t1188.length co17, .int .i64 t1191, .slice Ao18 t1192.length co18, .slice Ao19 t1195.length co19]] rfl (by (try simp only [List.map_toArray, List.map_cons, List.map_nil]); first | done | rfl | (simp only [List.length_drop, List.length_take]; rfl)) ?_; (with_reducible refine (ship_Best.calls t1185 t1186 t1187 _ _ t1188 t1191 _ _ t1192 _ _ t1195 t1200 t1203 t1204 _ ?side1 ?side2 ?side3 ?side4 ?side5 ?side6 A5.out).mono ?_); (case side1 => refine (Kd.R_reads' (e := 85) (base := w.heap.size) (ok := fun k_ => True) (n := t1188.length) (c := co17) ?_).2.2; exact (by (with_reducible repeat (first | apply Kd.R_alloc | apply Kd.R_drewN | apply Kd.R_drew)); exact (Kd.R_mono (Kd.R_far (p := ⟨gb1199, 6, none⟩) (Kd.R_far (p := ⟨gb1199, 5, none⟩) (Kd.R_far (p := ⟨gb1199, 4, none⟩) (Kd.R_far (p := ⟨gb1199, 3, none⟩) (Kd.R_far (p := ⟨gb1199, 2, none⟩) (Kd.R_far (p := ⟨gb1199, 1, none⟩) (Kd.R_far (p := ⟨gb1199, 0, none⟩) (Kd.R_types HO1190.out BK1199.out (by decide)) (fun _ hk => hk.2) (.int .i64 t1185)) (fun _ hk => hk.2) (.int .i64 t1186)) (fun _ hk => hk.2) (.int .i64 t1187)) (fun _ hk => hk.2) (.slice Ao17 t1188.length co17)) (fun _ hk => hk.2) (.int .i64 t1191)) (fun _ hk => hk.2) (.slice Ao18 t1192.length co18)) (fun _ hk => hk.2) (.slice Ao19 t1195.length co19)) (fun _ h_ => h_.1)))); (case side2 => exact (Kd.R_reads' HO1190.out).2.1); (case side3 => refine (Kd.N_reads' (e := 59) (base := w.heap.size) (ok := fun k_ => ((some k_ ≠ (.slice Ao17 t1188.length co17 : Value).ownBlock ∧ (some k_ ≠ (.slice Ao19 t1195.length co19 : Value).ownBlock ∧ (some k_ ≠ (.slice Ao11 y1180.length co11 : Value).ownBlock ∧ k_ ≠ g1179))) ∧ k_ ≠ gb1199)) (n := t1192.length) (c := co18) ?_).2.2; exact (by (with_reducible repeat (first | apply Kd.N_alloc | apply Kd.N_drewN | apply Kd.N_drew)); exact (Kd.N_mono (Kd.N_far (p := ⟨gb1199, 6, none⟩) (Kd.N_far (p := ⟨gb1199, 5, none⟩) (Kd.N_far (p := ⟨gb1199, 4, none⟩) (Kd.N_far (p := ⟨gb1199, 3, none⟩) (Kd.N_far (p := ⟨gb1199, 2, none⟩) (Kd.N_far (p := ⟨gb1199, 1, none⟩) (Kd.N_far (p := ⟨gb1199, 0, none⟩) (Kd.N_mono HO1194.out (fun k_ hk => (⟨hk, hk.2⟩ : _ ∧ k_ ≠ gb1199))) (fun _ hk => hk.2) (.int .i64 t1185)) (fun _ hk => hk.2) (.int .i64 t1186)) (fun _ hk => hk.2) (.int .i64 t1187)) (fun _ hk => hk.2) (.slice Ao17 t1188.length co17)) (fun _ hk => hk.2) (.int .i64 t1191)) (fun _ hk => hk.2) (.slice Ao18 t1192.length co18)) (fun _ hk => hk.2) (.slice Ao19 t1195.length co19)) (fun _ h_ => h_.1)))); (case side4 => exact (Kd.N_reads' HO1194.out).2.1); (case side5 => refine (Kd.R_reads' (e := 79) (base := w.heap.size) (ok := fun k_ => True) (n := t1195.length) (c := co19) ?_).2.2; exact (by (with_reducible repeat (first | apply Kd.R_alloc | apply Kd.R_drewN | apply Kd.R_drew)); exact (Kd.R_mono (Kd.R_far (p := ⟨gb1199, 6, none⟩) (Kd.R_far (p := ⟨gb1199, 5, none⟩) (Kd.R_far (p := ⟨gb1199, 4, none⟩) (Kd.R_far (p := ⟨gb1199, 3, none⟩) (Kd.R_far (p := ⟨gb1199, 2, none⟩) (Kd.R_far (p := ⟨gb1199, 1, none⟩) (Kd.R_far (p := ⟨gb1199, 0, none⟩) (Kd.R_types HO1197.out BK1199.out (by decide)) (fun _ hk => hk.2) (.int .i64 t1185)) (fun _ hk => hk.2) (.int .i64 t1186)) (fun _ hk => hk.2) (.int .i64 t1187)) (fun _ hk => hk.2) (.slice Ao17 t1188.length co17)) (fun _ hk => hk.2) (.int .i64 t1191)) (fun _ hk => hk.2) (.slice Ao18 t1192.length co18)) (fun _ hk => hk.2) (.slice Ao19 t1195.length co19)) (fun _ h_ => h_.1)))); (case side6 => exact (Kd.R_reads' HO1197.out).2.1); rintro e w20 ⟨v1201, rfl, ho0, hb⟩; refine ⟨_, rfl, ?_⟩; replace HO1190 := Aside0.mk (Kd.R_below (by (with_reducible repeat (first | apply Kd.R_alloc | apply Kd.R_drewN | apply Kd.R_drew)); exact (Kd.R_mono (Kd.R_far (p := ⟨gb1199, 6, none⟩) (Kd.R_far (p := ⟨gb1199, 5, none⟩) (Kd.R_far (p := ⟨gb1199, 4, none⟩) (Kd.R_far (p := ⟨gb1199, 3, none⟩) (Kd.R_far (p := ⟨gb1199, 2, none⟩) (Kd.R_far (p := ⟨gb1199, 1, none⟩) (Kd.R_far (p := ⟨gb1199, 0, none⟩) (Kd.R_types HO1190.out BK1199.out (by decide)) (fun _ hk => hk.2) (.int .i64 t1185)) (fun _ hk => hk.2) (.int .i64 t1186)) (fun _ hk => hk.2) (.int .i64 t1187)) (fun _ hk => hk.2) (.slice Ao17 t1188.length co17)) (fun _ hk => hk.2) (.int .i64 t1191)) (fun _ hk => hk.2) (.slice Ao18 t1192.length co18)) (fun _ hk => hk.2) (.slice Ao19 t1195.length co19)) (fun _ h_ => h_.1))) hb); replace HO1194 := Aside0.mk (Kd.N_elder' (by (with_reducible repeat (first | apply Kd.N_alloc | apply Kd.N_drewN | apply Kd.N_drew)); exact (Kd.N_mono (Kd.N_far (p := ⟨gb1199, 6, none⟩) (Kd.N_far (p := ⟨gb1199, 5, none⟩) (Kd.N_far (p := ⟨gb1199, 4, none⟩) (Kd.N_far (p := ⟨gb1199, 3, none⟩) (Kd.N_far (p := ⟨gb1199, 2, none⟩) (Kd.N_far (p := ⟨gb1199, 1, none⟩) (Kd.N_far (p := ⟨gb1199, 0, none⟩) (Kd.N_mono HO1194.out (fun k_ hk => (⟨hk, hk.2⟩ : _ ∧ k_ ≠ gb1199))) (fun _ hk => hk.2) (.int .i64 t1185)) (fun _ hk => hk.2) (.int .i64 t1186)) (fun _ hk => hk.2) (.int .i64 t1187)) (fun _ hk => hk.2) (.slice Ao17 t1188.length co17)) (fun _ hk => hk.2) (.int .i64 t1191)) (fun _ hk => hk.2) (.slice Ao18 t1192.length co18)) (fun _ hk => hk.2) (.slice Ao19 t1195.length co19)) (fun _ h_ => h_.1))) (Kd.R_base ho0) hb); replace HO1197 := Aside0.mk (Kd.R_below (by (with_reducible repeat (first | apply Kd.R_alloc | apply Kd.R_drewN | apply Kd.R_drew)); exact (Kd.R_mono (Kd.R_far (p := ⟨gb1199, 6, none⟩) (Kd.R_far (p := ⟨gb1199, 5, none⟩) (Kd.R_far (p := ⟨gb1199, 4, none⟩) (Kd.R_far (p := ⟨gb1199, 3, none⟩) (Kd.R_far (p := ⟨gb1199, 2, none⟩) (Kd.R_far (p := ⟨gb1199, 1, none⟩) (Kd.R_far (p := ⟨gb1199, 0, none⟩) (Kd.R_types HO1197.out BK1199.out (by decide)) (fun _ hk => hk.2) (.int .i64 t1185)) (fun _ hk => hk.2) (.int .i64 t1186)) (fun _ hk => hk.2) (.int .i64 t1187)) (fun _ hk => hk.2) (.slice Ao17 t1188.length co17)) (fun _ hk => hk.2) (.int .i64 t1191)) (fun _ hk => hk.2) (.slice Ao18 t1192.length co18)) (fun _ hk => hk.2) (.slice Ao19 t1195.length co19)) (fun _ h_ => h_.1))) hb); have HO1202 := Aside0.mk (Kd.R_lower (Kd.R_new' ho0 (Kd.R_lt (by (with_reducible repeat (first | apply Kd.R_alloc | apply Kd.R_drewN | apply Kd.R_drew)); exact (Kd.R_mono (Kd.R_far (p := ⟨gb1199, 6, none⟩) (Kd.R_far (p := ⟨gb1199, 5, none⟩) (Kd.R_far (p := ⟨gb1199, 4, none⟩) (Kd.R_far (p := ⟨gb1199, 3, none⟩) (Kd.R_far (p := ⟨gb1199, 2, none⟩) (Kd.R_far (p := ⟨gb1199, 1, none⟩) (Kd.R_far (p := ⟨gb1199, 0, none⟩) (Kd.R_types HO1182.out BK1199.out (by decide)) (fun _ hk => hk.2) (.int .i64 t1185)) (fun _ hk => hk.2) (.int .i64 t1186)) (fun _ hk => hk.2) (.int .i64 t1187)) (fun _ hk => hk.2) (.slice Ao17 t1188.length co17)) (fun _ hk => hk.2) (.int .i64 t1191)) (fun _ hk => hk.2) (.slice Ao18 t1192.length co18)) (fun _ hk => hk.2) (.slice Ao19 t1195.length co19)) (fun _ h_ => h_.1))))) (below_size (by exact below_y HB.out))); replace HO1182 := Aside0.mk (Kd.R_elder' (by (with_reducible repeat (first | apply Kd.R_alloc | apply Kd.R_drewN | apply Kd.R_drew)); exact (Kd.R_mono (Kd.R_far (p := ⟨gb1199, 6, none⟩) (Kd.R_far (p := ⟨gb1199, 5, none⟩) (Kd.R_far (p := ⟨gb1199, 4, none⟩) (Kd.R_far (p := ⟨gb1199, 3, none⟩) (Kd.R_far (p := ⟨gb1199, 2, none⟩) (Kd.R_far (p := ⟨gb1199, 1, none⟩) (Kd.R_far (p := ⟨gb1199, 0, none⟩) (Kd.R_types HO1182.out BK1199.out (by decide)) (fun _ hk => hk.2) (.int .i64 t1185)) (fun _ hk => hk.2) (.int .i64 t1186)) (fun _ hk => hk.2) (.int .i64 t1187)) (fun _ hk => hk.2) (.slice Ao17 t1188.length co17)) (fun _ hk => hk.2) (.int .i64 t1191)) (fun _ hk => hk.2) (.slice Ao18 t1192.length co18)) (fun _ hk => hk.2) (.slice Ao19 t1195.length co19)) (fun _ h_ => h_.1))) (Kd.R_base ho0) hb); replace HI1179 := Aside0.mk (IsS90.below (show IsS90 w (((((((w14.setCell ⟨gb1199, 0, none⟩ (.int .i64 t1185)).setCell ⟨gb1199, 1, none⟩ (.int .i64 t1186)).setCell ⟨gb1199, 2, none⟩ (.int .i64 t1187)).setCell ⟨gb1199, 3, none⟩ (.slice Ao17 t1188.length co17)).setCell ⟨gb1199, 4, none⟩ (.int .i64 t1191)).setCell ⟨gb1199, 5, none⟩ (.slice Ao18 t1192.length co18)).setCell ⟨gb1199, 6, none⟩ (.slice Ao19 t1195.length co19)) g1179 t1198 from by exact IsS90.up HI1179.out) hb); replace BK1199 := Aside0.mk (blk_below (g := gb1199) (o := .cells #[.int .i64 t1185, .int .i64 t1186, .int .i64 t1187, .slice Ao17 t1188.length co17, .int .i64 t1191, .slice Ao18 t1192.length co18, .slice Ao19 t1195.length co19] 26 (0, 0)) (by (with_reducible repeat (first | refine blk_drewN ?_ _ | refine blk_drew ?_ | refine blk_alloc ?_ _)); refine blk_put (cs := #[.int .i64 t1185, .int .i64 t1186, .int .i64 t1187, .slice Ao17 t1188.length co17, .int .i64 t1191, .slice Ao18 t1192.length co18, .slice none 0 0]) ?_ 6 _ rfl; (with_reducible repeat (first | refine blk_drewN ?_ _ | refine blk_drew ?_ | refine blk_alloc ?_ _)); refine blk_put (cs := #[.int .i64 t1185, .int .i64 t1186, .int .i64 t1187, .slice Ao17 t1188.length co17, .int .i64 t1191, .slice none 0 0, .slice none 0 0]) ?_ 5 _ rfl; (with_reducible repeat (first | refine blk_drewN ?_ _ | refine blk_drew ?_ | refine blk_alloc ?_ _)); refine blk_put (cs := #[.int .i64 t1185, .int .i64 t1186, .int .i64 t1187, .slice Ao17 t1188.length co17, .int .i64 0, .slice none 0 0, .slice none 0 0]) ?_ 4 _ rfl; (with_reducible repeat (first | refine blk_drewN ?_ _ | refine blk_drew ?_ | refine blk_alloc ?_ _)); refine blk_put (cs := #[.int .i64 t1185, .int .i64 t1186, .int .i64 t1187, .slice none 0 0, .int .i64 0, .slice none 0 0, .slice none 0 0]) ?_ 3 _ rfl; (with_reducible repeat (first | refine blk_drewN ?_ _ | refine blk_drew ?_ | refine blk_alloc ?_ _)); refine blk_put (cs := #[.int .i64 t1185, .int .i64 t1186, .int .i64 0, .slice none 0 0, .int .i64 0, .slice none 0 0, .slice none 0 0]) ?_ 2 _ rfl; (with_reducible repeat (first | refine blk_drewN ?_ _ | refine blk_drew ?_ | refine blk_alloc ?_ _)); refine blk_put (cs := #[.int .i64 t1185, .int .i64 0, .int .i64 0, .slice none 0 0, .int .i64 0, .slice none 0 0, .slice none 0 0]) ?_ 1 _ rfl; (with_reducible repeat (first | refine blk_drewN ?_ _ | refine blk_drew ?_ | refine blk_alloc ?_ _)); refine blk_put (cs := #[.int .i64 0, .int .i64 0, .int .i64 0, .slice none 0 0, .int .i64 0, .slice none 0 0, .slice none 0 0]) ?_ 0 _ rfl; (with_reducible repeat (first | refine blk_drewN ?_ _ | refine blk_drew ?_ | refine blk_alloc ?_ _)); exact BK1199.out) hb); replace HB := bl_x HB hb; (try clear hb); (try clear hk); (try clear hi); (try clear ho0); obtain ⟨_, _, _, _, _, _, _⟩ := cz7 BK1199; have hfz21_0 := blk_frozen BK1199.out) | ((with_reducible refine gate_callee (f := 50) rfl ?_); refine goesL_ (some 36) rfl rfl Try.func50 (by kernel_rfl) rfl #[.agg #[.int .i64 t1185, .int .i64 t1186, .int .i64 t1187, .slice Ao17 t1188.length co17, .int .i64 t1191, .slice Ao18 t1192.length co18, .slice Ao19 t1195.length co19], .slice none 0 0] rfl (by (try simp only [List.map_toArray, List.map_cons, List.map_nil]); first | done | rfl | (simp only [List.length_drop, List.length_take]; rfl)) ?_; (refine (swarfref07_Stowages.calls k t1185 t1186 t1187 _ _ t1188 t1191 _ _ t1192 _ _ t1195 (fun k_ => False) _ _ ([] : List Int) t1205 _ ?side1 ?side2 ?side3 ?side4 ?side5 ?side6 ?side7 A7.out).mono ?_); (case side1 => exact Kd.C_y (Kd.R_reads' HO1190.out).2.2); (case side2 => exact (Kd.R_reads' HO1190.out).2.1); (case side3 => exact Kd.C_y (Kd.N_reads' HO1194.out).2.2); (case side4 => exact (Kd.N_reads' HO1194.out).2.1); (case side5 => exact Kd.C_y (Kd.R_reads' HO1197.out).2.2); (case side6 => exact (Kd.R_reads' HO1197.out).2.1); (case side7 => exact Kd.V_nil _ _ _ _ _); rintro e w22 ⟨v1206, rfl, ho0, hb⟩; refine ⟨_, rfl, ?_⟩; have HO1207 := Aside0.mk (Kd.N_lower (Kd.N_mono (ok' := fun k_ => some k_ ≠ (.slice Ao11 y1180.length co11 : Value).ownBlock ∧ some k_ ≠ (.slice Ao17 t1188.length co17 : Value).ownBlock ∧ some k_ ≠ (.slice Ao18 t1192.length co18 : Value).ownBlock ∧ some k_ ≠ (.slice Ao19 t1195.length co19 : Value).ownBlock ∧ some k_ ≠ (v1201 : Value).ownBlock ∧ k_ ≠ gb1199 ∧ k_ ≠ g1179) ho0 (fun k_ hk_ => ⟨Or.elim hk_ (fun hs_ => (hs_).elim) (fun hn_ => (Kd.fresh' (Kd.R_lt (Kd.R_x HO1182.out)) k_ hn_)), Or.elim hk_ (fun hs_ => (hs_).elim) (fun hn_ => (Kd.fresh' (Kd.R_lt (Kd.R_x HO1190.out)) k_ hn_)), Or.elim hk_ (fun hs_ => (hs_).elim) (fun hn_ => (Kd.fresh' (Kd.N_lt (Kd.N_x HO1194.out)) k_ hn_)), Or.elim hk_ (fun hs_ => (hs_).elim) (fun hn_ => (Kd.fresh' (Kd.R_lt (Kd.R_x HO1197.out)) k_ hn_)), Or.elim hk_ (fun hs_ => (hs_).elim) (fun hn_ => (Kd.fresh' (Kd.R_lt (Kd.R_x HO1202.out)) k_ hn_)), Or.elim hk_ (fun hs_ => (hs_).elim) (fun hn_ => (Kd.freshB (g := gb1199) (o := .cells #[.int .i64 t1185, .int .i64 t1186, .int .i64 t1187, .slice Ao17 t1188.length co17, .int .i64 t1191, .slice Ao18 t1192.length co18, .slice Ao19 t1195.length co19] 26 (0, 0)) (blk_x BK1199.out) k_ hn_)), Or.elim hk_ (fun hs_ => (hs_).elim) (fun hn_ => (IsS90.fresh (by exact IsS90.up HI1179.out) k_ hn_))⟩)) (below_size (by exact below_y HB.out))); replace HO1182 := Aside0.mk (Kd.R_below (Kd.R_x HO1182.out) hb); replace HO1190 := Aside0.mk (Kd.R_below (Kd.R_x HO1190.out) hb); replace HO1194 := Aside0.mk (Kd.N_elder' (Kd.N_x HO1194.out) (Kd.N_base ho0) hb); replace HO1197 := Aside0.mk (Kd.R_below (Kd.R_x HO1197.out) hb); replace HO1202 := Aside0.mk (Kd.R_below (Kd.R_x HO1202.out) hb); replace HI1179 := Aside0.mk (IsS90.below (by exact IsS90.up HI1179.out) hb); replace BK1199 := Aside0.mk (blk_below (blk_x BK1199.out) hb); replace HB := bl_x HB hb; (try clear hb); (try clear hk); (try clear hi); (try clear ho0)))
  go_loopg [9, 10, 11] k (fun kq v9 v10 v11 w' => ∃ (x9_1 : Int) (x10_1 : Int) (x11_1 : Int), v9 = .int .i64 x9_1 ∧ v10 = .int .i64 x10_1 ∧ v11 = .int .i64 x11_1 ∧ Aside0 (swarflaw07_ShipMost.l0 kq t1200 t1203 t1205 x9_1 x10_1 x11_1 t1185 t1186 t1187 t1188 t1191 t1192 t1195 = some r) ∧ Aside0 (kq ≤ k) ∧ Aside0 (Kd.R (Kd.int .i64) 3 w' w.heap.size (fun _ => True) v1201 t1200) ∧ Aside0 (Kd.N (Kd.slice 3 (Kd.int .i64)) 27 w' w.heap.size (fun k_ => some k_ ≠ (v1201 : Value).ownBlock ∧ some k_ ≠ ((.slice Ao17 t1188.length co17) : Value).ownBlock ∧ some k_ ≠ ((.slice Ao18 t1192.length co18) : Value).ownBlock ∧ some k_ ≠ ((.slice Ao19 t1195.length co19) : Value).ownBlock ∧ k_ ≠ gb1199) v1206 t1205) ∧ Aside0 (Kd.R k85 85 w' w.heap.size (fun _ => True) (.slice Ao17 t1188.length co17) t1188) ∧ Aside0 (Kd.N k59 59 w' w.heap.size (fun k_ => some k_ ≠ (v1201 : Value).ownBlock ∧ some k_ ≠ (v1206 : Value).ownBlock ∧ some k_ ≠ ((.slice Ao17 t1188.length co17) : Value).ownBlock ∧ some k_ ≠ ((.slice Ao19 t1195.length co19) : Value).ownBlock ∧ k_ ≠ gb1199) (.slice Ao18 t1192.length co18) t1192) ∧ Aside0 (Kd.R k79 79 w' w.heap.size (fun _ => True) (.slice Ao19 t1195.length co19) t1195) ∧ Aside0 (w'.heap[gb1199]? = some (.cells #[.int .i64 t1185, .int .i64 t1186, .int .i64 t1187, (.slice Ao17 t1188.length co17), .int .i64 t1191, (.slice Ao18 t1192.length co18), (.slice Ao19 t1195.length co19)] 26 (0, 0))) ∧ Aside0 (Below w.heap.size w w'))
  case atStart => exact ⟨((-1)), ((-1)), (0), (by first | rfl | (simp; done) | (simp [*]; done)), (by first | rfl | (simp; done) | (simp [*]; done)), (by first | rfl | (simp; done) | (simp [*]; done)), H', ⟨Nat.le_refl _⟩, ⟨by (with_reducible repeat (first | apply Kd.R_alloc | apply Kd.R_drewN | apply Kd.R_drew)); exact Kd.R_mono HO1202.out (fun _ hk => trivial)⟩, ⟨by (with_reducible repeat (first | apply Kd.N_alloc | apply Kd.N_drewN | apply Kd.N_drew)); exact Kd.N_mono HO1207.out (fun _ hk => ⟨hk.2.2.2.2.1, ⟨hk.2.1, ⟨hk.2.2.1, ⟨hk.2.2.2.1, hk.2.2.2.2.2.1⟩⟩⟩⟩)⟩, ⟨by (with_reducible repeat (first | apply Kd.R_alloc | apply Kd.R_drewN | apply Kd.R_drew)); exact HO1190.out⟩, ⟨by (with_reducible repeat (first | apply Kd.N_alloc | apply Kd.N_drewN | apply Kd.N_drew)); exact Kd.N_mono HO1194.out (fun _ hk => ⟨hk.1.2, ⟨hk.2, ⟨hk.1.1.1.1, ⟨hk.1.1.1.2.1, hk.1.1.2⟩⟩⟩⟩)⟩, ⟨by (with_reducible repeat (first | apply Kd.R_alloc | apply Kd.R_drewN | apply Kd.R_drew)); exact HO1197.out⟩, ⟨blk_x BK1199.out⟩, ⟨by exact below_y HB.out⟩⟩
  case round =>
   clear H'
   obtain ⟨x9_1, x10_1, x11_1, rfl, rfl, rfl, HA, HK1, HO_5, HO_8, HO_1200003, HO_1200005, HO_1200006, BK1199, HB⟩ := hrel
   cases gk with
   | zero => exact absurd HA.out (by simp [swarflaw07_ShipMost.l0])
   | succ k1 =>
    have H := HA.out
    clear HA
    simp only [swarflaw07_ShipMost.l0] at H
    by_cases c23 : x11_1 < (t1205.length : Int)
    ·
     rw [if_pos c23] at H
     have c23b0 : decide (x11_1 < (t1205.length : Int)) = true := decide_eq_true c23
     clear c23
     by_cases c24 : 0 ≤ x11_1
     ·
      rw [if_pos c24] at H
      have c24b0 : decide (0 ≤ x11_1) = true := decide_eq_true c24
      clear c24
      replace H := Option.bind_eq_some_iff.mp H
      obtain ⟨t1209, A250, H⟩ := H
      try dsimp only at H
      have A25 := Aside0.mk A250
      clear A250
      by_cases c26 : t1209 = 0
      ·
       rw [if_pos c26] at H
       have c26b0 : (t1209 == 0) = true := beq_iff_eq.mpr c26
       have c26b1 : (t1209 != 0) = false := bne_eq_false_iff_eq.mpr c26
       clear c26
       replace H := Option.bind_eq_some_iff.mp H
       obtain ⟨⟨t1211, t1212, t1213, t1214⟩, A270, H⟩ := H
       try dsimp only at H
       have A27 := Aside0.mk A270
       clear A270
       replace H := Option.bind_eq_some_iff.mp H
       obtain ⟨⟨t1217, t1218, t1221⟩, A280, H⟩ := H
       try dsimp only at H
       have A28 := Aside0.mk A280
       clear A280
       have HC29 := Aside0.mk H
       clear H
       obtain ⟨Ao30, co30, eo30⟩ := Kd.N_slice HO_8.out
       subst eo30
       try go_wp2
       replace HO_5 := Aside0.mk (Kd.R_drew HO_5.out)
       replace HO_8 := Aside0.mk (Kd.N_drew HO_8.out)
       replace HO_1200003 := Aside0.mk (Kd.R_drew HO_1200003.out)
       replace HO_1200005 := Aside0.mk (Kd.N_drew HO_1200005.out)
       replace HO_1200006 := Aside0.mk (Kd.R_drew HO_1200006.out)
       replace BK1199 := Aside0.mk (blk_drew BK1199.out)
       replace HB := Aside0.mk (below_drew1 HB.out)
       have p1208 : 0 ≤ (x11_1 : Int) := of_x
       have q1208 : x11_1 < (t1205.length : Int) := of_x
       obtain ⟨ad1208, A1208_0, c1208_0, e1208, hx1208_0, hl1208_0, hi1208_0⟩ := at_L7 (Kd.N_reads' HO_8.out).2.2 x11_1 p1208 q1208
       cases e1208
       obtain ⟨ce1208, hce1208, hMe1208, hcc1208⟩ := Kd.N_get HO_8.out [] x11_1 p1208 (by first | exact q1208 | exact of_x | (have e_ := (Kd.N_reads' HO_8.out).1; omega))
       obtain ⟨ua1208_0, uc1208_0, rfl, ul1208_0, ge1208_0⟩ := Kd.FK_slice_open hMe1208
       have hv1208_0 := hcc1208 0 _ rfl
       rw [Nat.add_zero, show ((Kd.slice 3 (Kd.int .i64))).sz = 1 from rfl, Nat.mul_one] at hv1208_0
       replace hv1208_0 := Option.some.inj (hv1208_0.symm.trans hx1208_0)
       injection hv1208_0 with hva_ hvn_ hvc_
       rw [hva_] at ge1208_0
       rw [hvc_] at ul1208_0
       have HL1208_0 := Aside0.mk (show Kd.V (Kd.int .i64) 3 _ w.heap.size _ _ (rd_L7 t1205 x11_1) from Kd.V_mk ul1208_0 ge1208_0)
       clear hva_ hvn_ hvc_ ge1208_0 ul1208_0 hcc1208 hce1208
       have HR1208_0 := Aside0.mk hi1208_0
       have HC1208_0 := Aside0.mk hl1208_0
       clear hi1208_0 hl1208_0
       replace p1208 := eq_true p1208
       replace q1208 := eq_true q1208
       refine start_ (n := 7) (S := fun w' => w'.cell? ⟨gb1199, 0, none⟩ = some (.int .i64 t1185) ∧ w'.cell? ⟨gb1199, 1, none⟩ = some (.int .i64 t1186) ∧ w'.cell? ⟨gb1199, 2, none⟩ = some (.int .i64 t1187) ∧ w'.cell? ⟨gb1199, 3, none⟩ = some (.slice Ao17 t1188.length co17) ∧ w'.cell? ⟨gb1199, 4, none⟩ = some (.int .i64 t1191) ∧ w'.cell? ⟨gb1199, 5, none⟩ = some (.slice Ao18 t1192.length co18) ∧ w'.cell? ⟨gb1199, 6, none⟩ = some (.slice Ao19 t1195.length co19) ∧ w'.cell? (ad1208.add (x11_1).toNat) = some (.slice A1208_0 (rd_L7 t1205 x11_1).length c1208_0)) (ds := []) #[false, false, false, false, false, false, false] (by kernel_rfl) rfl rfl ⟨(blk_cell BK1199.out 0).trans rfl, (blk_cell BK1199.out 1).trans rfl, (blk_cell BK1199.out 2).trans rfl, (blk_cell BK1199.out 3).trans rfl, (blk_cell BK1199.out 4).trans rfl, (blk_cell BK1199.out 5).trans rfl, (blk_cell BK1199.out 6).trans rfl, hx1208_0⟩ (fun hHeld => ?_)
       generalize wr.drew = w31 at HO_5 HO_8 HO_1200003 HO_1200005 HO_1200006 BK1199 HB HL1208_0 HR1208_0 hx1208_0 hHeld ⊢
       refine pure_ (i := 1) (N := some 44) (v := ?_) (a' := ?_) (bz 7 2) rfl rfl (by kernel_rfl) (fun _ _ _ h => h) (Or.inl ⟨by rfl, ?_⟩) ?_ ?_
       rotate_left
       ·
        intro w'
        go_simp
        with_reducible rfl
       rotate_left
       ·
        simp only [Act.put, put_x, i64_w, i32_w]
        rfl
       refine pure_ (i := 2) (N := some 45) (v := ?_) (a' := ?_) (bz 7 6) rfl rfl (by kernel_rfl) (fun _ _ _ h => h) (Or.inl ⟨by rfl, ?_⟩) ?_ ?_
       rotate_left
       ·
        intro w'
        go_simp
        with_reducible rfl
       rotate_left
       ·
        simp only [Act.put, put_x, i64_w, i32_w]
        rfl
       refine pure_ (i := 3) (N := some 46) (v := ?_) (a' := ?_) (bz 7 14) rfl rfl (by kernel_rfl) (fun _ _ _ h => h) (Or.inl ⟨by rfl, ?_⟩) ?_ ?_
       rotate_left
       ·
        intro w'
        go_simp
        with_reducible rfl
       rotate_left
       ·
        simp only [Act.put, put_x, i64_w, i32_w]
        rfl
       refine take_ (i := 0) (N := some 43) (v := ?_) (a' := ?_) (bz 7 15) rfl rfl (by kernel_rfl) (fun _ _ _ h => h) (Or.inl ⟨by rfl, ?_⟩) hHeld ?_ ?_
       rotate_left
       ·
        rintro w' ⟨s0, s1, s2, s3, s4, s5, s6, s7⟩
        go_simp
        with_reducible rfl
       rotate_left
       ·
        simp only [Act.put, put_x, i64_w, i32_w]
        rfl
       refine take_ (i := 4) (N := some 47) (v := ?_) (a' := ?_) (bz 7 31) rfl rfl (by kernel_rfl) (fun _ _ _ h => h) (Or.inl ⟨by rfl, ?_⟩) hHeld ?_ ?_
       rotate_left
       ·
        rintro w' ⟨s0, s1, s2, s3, s4, s5, s6, s7⟩
        go_simp
        with_reducible rfl
       rotate_left
       ·
        simp only [Act.put, put_x, i64_w, i32_w]
        rfl
       refine one_ (i := 5) (N := some 48) (bz 7 63) rfl rfl (by kernel_rfl) (by decide) (fun K hK => ?_)
       refine goes_ Try.func40 (by kernel_rfl) rfl #[.agg #[.int .i64 t1185, .int .i64 t1186, .int .i64 t1187, .slice Ao17 t1188.length co17, .int .i64 t1191, .slice Ao18 t1192.length co18, .slice Ao19 t1195.length co19], .slice A1208_0 (rd_L7 t1205 x11_1).length c1208_0] (by rfl) rfl rfl (by (try simp only [List.map_toArray, List.map_cons, List.map_nil]); first | done | rfl | (simp only [List.length_drop, List.length_take]; rfl)) ?_
       with_reducible refine (ship_CheckStowage.calls k1 t1185 t1186 t1187 _ _ t1188 t1191 _ _ t1192 _ _ t1195 _ _ (rd_L7 t1205 x11_1) t1209 _ ?side1 ?side2 ?side3 ?side4 ?side5 ?side6 ?side7 ?side8 A25.out).mono ?_
       (case side1 => exact Kd.C_y (Kd.R_reads' HO_1200003.out).2.2)
       (case side2 => exact (Kd.R_reads' HO_1200003.out).2.1)
       (case side3 => exact Kd.C_y (Kd.N_reads' HO_1200005.out).2.2)
       (case side4 => exact (Kd.N_reads' HO_1200005.out).2.1)
       (case side5 => exact Kd.C_y (Kd.R_reads' HO_1200006.out).2.2)
       (case side6 => exact (Kd.R_reads' HO_1200006.out).2.1)
       (case side7 => repeat (first | exact (by repeat (first | (with_reducible exact HR1208_0.out) | (with_reducible refine Kd.C_alloc ?_ _) | (with_reducible refine Kd.C_drewN ?_ _) | (with_reducible refine Kd.C_drew ?_) | exact HR1208_0.out)) | (with_reducible refine Kd.C_alloc ?_ _) | (with_reducible refine Kd.C_drewN ?_ _) | (with_reducible refine Kd.C_drew ?_)))
       (case side8 => exact HC1208_0.out)
       rintro e w32 ⟨rfl, hb⟩
       have HS7_ := (hb.cell (World.block_lt_of_cell? _ _ (hHeld.2.2.2.2.2.2.2))).trans (hHeld.2.2.2.2.2.2.2)
       refine ⟨_, rfl, ?_⟩
       replace HO_5 := Aside0.mk (Kd.R_below (Kd.R_x HO_5.out) hb)
       replace HO_8 := Aside0.mk (Kd.N_below (Kd.N_x HO_8.out) hb)
       replace HO_1200003 := Aside0.mk (Kd.R_below (Kd.R_x HO_1200003.out) hb)
       replace HO_1200005 := Aside0.mk (Kd.N_below (Kd.N_x HO_1200005.out) hb)
       replace HO_1200006 := Aside0.mk (Kd.R_below (Kd.R_x HO_1200006.out) hb)
       replace HL1208_0 := Aside0.mk (Kd.V_below (Kd.V_x HL1208_0.out) hb)
       replace BK1199 := Aside0.mk (blk_below (blk_x BK1199.out) hb)
       replace HR1208_0 := Aside0.mk (Kd.C_below (by repeat (first | (with_reducible exact HR1208_0.out) | (with_reducible refine Kd.C_alloc ?_ _) | (with_reducible refine Kd.C_drewN ?_ _) | (with_reducible refine Kd.C_drew ?_) | exact HR1208_0.out)) hb)
       replace HB := bl_x HB hb
       (try clear hb)
       (try clear hb2)
       (try clear hk)
       (try clear hi)
       refine hK.out _ _ ⟨(blk_cell BK1199.out 0).trans rfl, (blk_cell BK1199.out 1).trans rfl, (blk_cell BK1199.out 2).trans rfl, (blk_cell BK1199.out 3).trans rfl, (blk_cell BK1199.out 4).trans rfl, (blk_cell BK1199.out 5).trans rfl, (blk_cell BK1199.out 6).trans rfl, HS7_⟩ (fun hHeld => ?_)
       clear hK K
       refine norm_ (a' := ?_) ?_ ?_
       rotate_left
       ·
        show Act.put _ (some 48) _ = _
        simp only [Act.put, put_x, i64_w, i32_w]
        rfl
       refine pure_ (i := 6) (N := some 49) (v := ?_) (a' := ?_) (bz 7 127) rfl rfl (by kernel_rfl) (fun _ _ _ h => h) (Or.inl ⟨by rfl, ?_⟩) ?_ ?_
       rotate_left
       ·
        intro w'
        go_simp
        with_reducible rfl
       rotate_left
       ·
        simp only [Act.put, put_x, i64_w, i32_w]
        rfl
       refine done_ (by kernel_rfl) ?_
       try go_wp2
       replace HO_5 := Aside0.mk (Kd.R_drew HO_5.out)
       replace HO_8 := Aside0.mk (Kd.N_drew HO_8.out)
       replace HO_1200003 := Aside0.mk (Kd.R_drew HO_1200003.out)
       replace HO_1200005 := Aside0.mk (Kd.N_drew HO_1200005.out)
       replace HO_1200006 := Aside0.mk (Kd.R_drew HO_1200006.out)
       replace HL1208_0 := Aside0.mk (Kd.V_drew HL1208_0.out)
       replace BK1199 := Aside0.mk (blk_drew BK1199.out)
       replace HR1208_0 := Aside0.mk (Kd.C_drew HR1208_0.out)
       replace HB := Aside0.mk (below_drew1 HB.out)
       have p1210 : 0 ≤ (x11_1 : Int) := of_x
       have q1210 : x11_1 < (t1205.length : Int) := of_x
       obtain ⟨ad1210, A1210_0, c1210_0, e1210, hx1210_0, hl1210_0, hi1210_0⟩ := at_L7 (Kd.N_reads' HO_8.out).2.2 x11_1 p1210 q1210
       obtain rfl : ad1208 = ad1210 := (by injection e1210)
       obtain ⟨ce1210, hce1210, hMe1210, hcc1210⟩ := Kd.N_get HO_8.out [] x11_1 p1210 (by first | exact q1210 | exact of_x | (have e_ := (Kd.N_reads' HO_8.out).1; omega))
       obtain ⟨ua1210_0, uc1210_0, rfl, ul1210_0, ge1210_0⟩ := Kd.FK_slice_open hMe1210
       have hv1210_0 := hcc1210 0 _ rfl
       rw [Nat.add_zero, show ((Kd.slice 3 (Kd.int .i64))).sz = 1 from rfl, Nat.mul_one] at hv1210_0
       replace hv1210_0 := Option.some.inj (hv1210_0.symm.trans hx1210_0)
       injection hv1210_0 with hva_ hvn_ hvc_
       rw [hva_] at ge1210_0
       rw [hvc_] at ul1210_0
       have HL1210_0 := Aside0.mk (show Kd.V (Kd.int .i64) 3 _ w.heap.size _ _ (rd_L7 t1205 x11_1) from Kd.V_mk ul1210_0 ge1210_0)
       clear hva_ hvn_ hvc_ ge1210_0 ul1210_0 hcc1210 hce1210
       have HR1210_0 := Aside0.mk hi1210_0
       have HC1210_0 := Aside0.mk hl1210_0
       clear hi1210_0 hl1210_0
       replace p1210 := eq_true p1210
       replace q1210 := eq_true q1210
       refine start_ (n := 14) (S := fun w' => w'.cell? ⟨gb1199, 0, none⟩ = some (.int .i64 t1185) ∧ w'.cell? ⟨gb1199, 1, none⟩ = some (.int .i64 t1186) ∧ w'.cell? ⟨gb1199, 2, none⟩ = some (.int .i64 t1187) ∧ w'.cell? ⟨gb1199, 3, none⟩ = some (.slice Ao17 t1188.length co17) ∧ w'.cell? ⟨gb1199, 4, none⟩ = some (.int .i64 t1191) ∧ w'.cell? ⟨gb1199, 5, none⟩ = some (.slice Ao18 t1192.length co18) ∧ w'.cell? ⟨gb1199, 6, none⟩ = some (.slice Ao19 t1195.length co19) ∧ w'.cell? (ad1208.add (x11_1).toNat) = some (.slice A1210_0 (rd_L7 t1205 x11_1).length c1210_0)) (ds := []) #[false, false, false, false, false, false, false, false, false, false, false, false, false, false] (by kernel_rfl) rfl rfl ⟨(blk_cell BK1199.out 0).trans rfl, (blk_cell BK1199.out 1).trans rfl, (blk_cell BK1199.out 2).trans rfl, (blk_cell BK1199.out 3).trans rfl, (blk_cell BK1199.out 4).trans rfl, (blk_cell BK1199.out 5).trans rfl, (blk_cell BK1199.out 6).trans rfl, hx1210_0⟩ (fun hHeld => ?_); refine with_tabW swarflaw07_ShipMost.tab12 swarflaw07_ShipMost.bits12 (fun HT_ HW_ => ?_)
       generalize w32.drew = w33 at HO_5 HO_8 HO_1200003 HO_1200005 HO_1200006 HL1208_0 BK1199 HR1208_0 HB HL1210_0 HR1210_0 hx1210_0 hHeld ⊢
       refine pure_ (i := 1) (N := some 52) (v := ?_) (a' := ?_) (bz 14 2) rfl rfl (any_of HT_.out (by kernel_rfl)) (fun _ _ _ h => h) (Or.inl ⟨by rfl, ?_⟩) ?_ ?_
       rotate_left
       ·
        intro w'
        go_simp
        with_reducible rfl
       rotate_left
       ·
        simp only [Act.put, put_x, i64_w, i32_w]
        rfl
       refine pure_ (i := 2) (N := some 53) (v := ?_) (a' := ?_) (bz 14 6) rfl rfl (any_of HT_.out (by kernel_rfl)) (fun _ _ _ h => h) (Or.inl ⟨by rfl, ?_⟩) ?_ ?_
       rotate_left
       ·
        intro w'
        go_simp
        with_reducible rfl
       rotate_left
       ·
        simp only [Act.put, put_x, i64_w, i32_w]
        rfl
       refine pure_ (i := 3) (N := some 54) (v := ?_) (a' := ?_) (bz 14 14) rfl rfl (any_of HT_.out (by kernel_rfl)) (fun _ _ _ h => h) (Or.inl ⟨by rfl, ?_⟩) ?_ ?_
       rotate_left
       ·
        intro w'
        go_simp
        with_reducible rfl
       rotate_left
       ·
        simp only [Act.put, put_x, i64_w, i32_w]
        rfl
       refine take_ (i := 0) (N := some 51) (v := ?_) (a' := ?_) (bz 14 15) rfl rfl (take_ofW HT_.out HW_.out (by kernel_rfl)) (fun _ _ _ h => h) (Or.inl ⟨by rfl, ?_⟩) hHeld ?_ ?_
       rotate_left
       ·
        rintro w' ⟨s0, s1, s2, s3, s4, s5, s6, s7⟩
        go_simp
        with_reducible rfl
       rotate_left
       ·
        simp only [Act.put, put_x, i64_w, i32_w]
        rfl
       refine take_ (i := 4) (N := some 55) (v := ?_) (a' := ?_) (bz 14 31) rfl rfl (take_ofW HT_.out HW_.out (by kernel_rfl)) (fun _ _ _ h => h) (Or.inl ⟨by rfl, ?_⟩) hHeld ?_ ?_
       rotate_left
       ·
        rintro w' ⟨s0, s1, s2, s3, s4, s5, s6, s7⟩
        go_simp
        with_reducible rfl
       rotate_left
       ·
        simp only [Act.put, put_x, i64_w, i32_w]
        rfl
       refine join_ (σ := Nat) 3 (bz 14 2047) (fun s_ => [(56, .tuple #[.bool t1211, .agg #[.int .i64 t1212, .int .i64 t1213], .int .i64 t1214]), (13, .pointer (some ⟨s_, 0, none⟩)), (50, .tuple #[.bool t1211, .agg #[.int .i64 t1212, .int .i64 t1213], .int .i64 t1214]), (57, .bool t1211), (58, .agg #[.int .i64 t1212, .int .i64 t1213]), (59, .int .i64 t1214)]) (fun s_ w' => (w'.cell? ⟨gb1199, 0, none⟩ = some (.int .i64 t1185) ∧ w'.cell? ⟨gb1199, 1, none⟩ = some (.int .i64 t1186) ∧ w'.cell? ⟨gb1199, 2, none⟩ = some (.int .i64 t1187) ∧ w'.cell? ⟨gb1199, 3, none⟩ = some (.slice Ao17 t1188.length co17) ∧ w'.cell? ⟨gb1199, 4, none⟩ = some (.int .i64 t1191) ∧ w'.cell? ⟨gb1199, 5, none⟩ = some (.slice Ao18 t1192.length co18) ∧ w'.cell? ⟨gb1199, 6, none⟩ = some (.slice Ao19 t1195.length co19) ∧ w'.cell? (ad1208.add (x11_1).toNat) = some (.slice A1210_0 (rd_L7 t1205 x11_1).length c1210_0)) ∧ (Kd.V (Kd.int .i64) 3 w' w.heap.size (fun k_ => some k_ ≠ (.slice Ao17 t1188.length co17 : Value).ownBlock ∧ some k_ ≠ (.slice Ao18 t1192.length co18 : Value).ownBlock ∧ some k_ ≠ (.slice Ao19 t1195.length co19 : Value).ownBlock ∧ some k_ ≠ (v1201 : Value).ownBlock ∧ some k_ ≠ (.slice (some ad1208) t1205.length co30 : Value).ownBlock ∧ k_ ≠ gb1199 ∧ k_ ≠ s_) (.slice A1208_0 (rd_L7 t1205 x11_1).length c1208_0) (rd_L7 t1205 x11_1)) ∧ (Kd.V (Kd.int .i64) 3 w' w.heap.size (fun k_ => some k_ ≠ (.slice Ao17 t1188.length co17 : Value).ownBlock ∧ some k_ ≠ (.slice Ao18 t1192.length co18 : Value).ownBlock ∧ some k_ ≠ (.slice Ao19 t1195.length co19 : Value).ownBlock ∧ some k_ ≠ (v1201 : Value).ownBlock ∧ some k_ ≠ (.slice (some ad1208) t1205.length co30 : Value).ownBlock ∧ k_ ≠ gb1199 ∧ k_ ≠ s_) (.slice A1210_0 (rd_L7 t1205 x11_1).length c1210_0) (rd_L7 t1205 x11_1)) ∧ (Kd.R k85 85 w' w.heap.size (fun _ => True) (.slice Ao17 t1188.length co17) t1188) ∧ (Kd.N k59 59 w' w.heap.size (fun k_ => some k_ ≠ (.slice Ao17 t1188.length co17 : Value).ownBlock ∧ some k_ ≠ (.slice Ao19 t1195.length co19 : Value).ownBlock ∧ some k_ ≠ (v1201 : Value).ownBlock ∧ some k_ ≠ (.slice (some ad1208) t1205.length co30 : Value).ownBlock ∧ k_ ≠ gb1199 ∧ k_ ≠ s_) (.slice Ao18 t1192.length co18) t1192) ∧ (Kd.R k79 79 w' w.heap.size (fun _ => True) (.slice Ao19 t1195.length co19) t1195) ∧ (Kd.R (Kd.int .i64) 3 w' w.heap.size (fun _ => True) v1201 t1200) ∧ (Kd.N (Kd.slice 3 (Kd.int .i64)) 27 w' w.heap.size (fun k_ => some k_ ≠ (.slice Ao17 t1188.length co17 : Value).ownBlock ∧ some k_ ≠ (.slice Ao18 t1192.length co18 : Value).ownBlock ∧ some k_ ≠ (.slice Ao19 t1195.length co19 : Value).ownBlock ∧ some k_ ≠ (v1201 : Value).ownBlock ∧ k_ ≠ gb1199 ∧ k_ ≠ s_) (.slice (some ad1208) t1205.length co30) t1205) ∧ (w'.heap[gb1199]? = some (.cells #[.int .i64 t1185, .int .i64 t1186, .int .i64 t1187, .slice Ao17 t1188.length co17, .int .i64 t1191, .slice Ao18 t1192.length co18, .slice Ao19 t1195.length co19] 26 (0, 0))) ∧ (w'.heap[s_]? = some (.cells #[.int .i64 0, .int .i64 0] 56 (0, 0))) ∧ (w.heap.size ≤ s_) ∧ (w.heap.size ≤ s_) ∧ (gb1199 ≠ s_) ∧ (s_ ≠ gb1199) ∧ (Below w.heap.size w w')) ?_ ?_
       rotate_left
       ·
        intro hCont
        refine two_ (i := 5) (j := 10) (Ni := some 56) (Nj := some 13) (bz 14 63) #[true, true, true, true, true, false, false, false, false, false, true, false, false, false] rfl rfl rfl rfl (two_of HT_.out (by kernel_rfl)) (by decide) (by decide) (fun K hK => ?_) (fun K hK => ?_)
        ·
         skip
         refine goes_ Try.func37 (by kernel_rfl) rfl #[.agg #[.int .i64 t1185, .int .i64 t1186, .int .i64 t1187, .slice Ao17 t1188.length co17, .int .i64 t1191, .slice Ao18 t1192.length co18, .slice Ao19 t1195.length co19], .slice A1210_0 (rd_L7 t1205 x11_1).length c1210_0] (by rfl) rfl rfl (by (try simp only [List.map_toArray, List.map_cons, List.map_nil]); first | done | rfl | (simp only [List.length_drop, List.length_take]; rfl)) ?_
         with_reducible refine (ship_Level.calls k1 t1185 t1186 t1187 _ _ t1188 t1191 _ _ t1192 _ _ t1195 _ _ (rd_L7 t1205 x11_1) t1211 t1212 t1213 t1214 _ ?side1 ?side2 ?side3 ?side4 ?side5 ?side6 ?side7 ?side8 A27.out).mono ?_
         (case side1 => exact Kd.C_y (Kd.R_reads' HO_1200003.out).2.2)
         (case side2 => exact (Kd.R_reads' HO_1200003.out).2.1)
         (case side3 => exact Kd.C_y (Kd.N_reads' HO_1200005.out).2.2)
         (case side4 => exact (Kd.N_reads' HO_1200005.out).2.1)
         (case side5 => exact Kd.C_y (Kd.R_reads' HO_1200006.out).2.2)
         (case side6 => exact (Kd.R_reads' HO_1200006.out).2.1)
         (case side7 => repeat (first | exact (by repeat (first | (with_reducible exact HR1210_0.out) | (with_reducible refine Kd.C_alloc ?_ _) | (with_reducible refine Kd.C_drewN ?_ _) | (with_reducible refine Kd.C_drew ?_) | exact HR1210_0.out)) | (with_reducible refine Kd.C_alloc ?_ _) | (with_reducible refine Kd.C_drewN ?_ _) | (with_reducible refine Kd.C_drew ?_)))
         (case side8 => exact HC1210_0.out)
         rintro e w34 ⟨rfl, hb⟩
         have HS7_ := (hb.cell (World.block_lt_of_cell? _ _ (hHeld.2.2.2.2.2.2.2))).trans (hHeld.2.2.2.2.2.2.2)
         refine ⟨_, rfl, ?_⟩
         replace HO_5 := Aside0.mk (Kd.R_below (Kd.R_x HO_5.out) hb)
         replace HO_8 := Aside0.mk (Kd.N_below (Kd.N_x HO_8.out) hb)
         replace HO_1200003 := Aside0.mk (Kd.R_below (Kd.R_x HO_1200003.out) hb)
         replace HO_1200005 := Aside0.mk (Kd.N_below (Kd.N_x HO_1200005.out) hb)
         replace HO_1200006 := Aside0.mk (Kd.R_below (Kd.R_x HO_1200006.out) hb)
         replace HL1208_0 := Aside0.mk (Kd.V_below (Kd.V_x HL1208_0.out) hb)
         replace HL1210_0 := Aside0.mk (Kd.V_below (Kd.V_x HL1210_0.out) hb)
         replace BK1199 := Aside0.mk (blk_below (blk_x BK1199.out) hb)
         replace HR1208_0 := Aside0.mk (Kd.C_below (by repeat (first | (with_reducible exact HR1208_0.out) | (with_reducible refine Kd.C_alloc ?_ _) | (with_reducible refine Kd.C_drewN ?_ _) | (with_reducible refine Kd.C_drew ?_) | exact HR1208_0.out)) hb)
         replace HR1210_0 := Aside0.mk (Kd.C_below (by repeat (first | (with_reducible exact HR1210_0.out) | (with_reducible refine Kd.C_alloc ?_ _) | (with_reducible refine Kd.C_drewN ?_ _) | (with_reducible refine Kd.C_drew ?_) | exact HR1210_0.out)) hb)
         replace HB := bl_x HB hb
         (try clear hb)
         (try clear hb2)
         (try clear hk)
         (try clear hi)
         refine hK.out _ _ ⟨(blk_cell BK1199.out 0).trans rfl, (blk_cell BK1199.out 1).trans rfl, (blk_cell BK1199.out 2).trans rfl, (blk_cell BK1199.out 3).trans rfl, (blk_cell BK1199.out 4).trans rfl, (blk_cell BK1199.out 5).trans rfl, (blk_cell BK1199.out 6).trans rfl, HS7_⟩ (fun hHeld => ?_)
         clear hK K
         refine norm_ (a' := ?_) ?_ ?_
         rotate_left
         ·
          show Act.put _ (some 56) _ = _
          simp only [Act.put, put_x, i64_w, i32_w]
          rfl
         refine pure_ (i := 6) (N := some 50) (v := ?_) (a' := ?_) (bz 14 127) rfl rfl (any_of HT_.out (by kernel_rfl)) (fun _ _ _ h => h) (Or.inl ⟨by rfl, ?_⟩) ?_ ?_
         rotate_left
         ·
          intro w'
          go_simp
          with_reducible rfl
         rotate_left
         ·
          simp only [Act.put, put_x, i64_w, i32_w]
          rfl
         refine pure_ (i := 7) (N := some 57) (v := ?_) (a' := ?_) (bz 14 255) rfl rfl (any_of HT_.out (by kernel_rfl)) (fun _ _ _ h => h) (Or.inl ⟨by rfl, ?_⟩) ?_ ?_
         rotate_left
         ·
          intro w'
          go_simp
          with_reducible rfl
         rotate_left
         ·
          simp only [Act.put, put_x, i64_w, i32_w]
          rfl
         refine pure_ (i := 8) (N := some 58) (v := ?_) (a' := ?_) (bz 14 511) rfl rfl (any_of HT_.out (by kernel_rfl)) (fun _ _ _ h => h) (Or.inl ⟨by rfl, ?_⟩) ?_ ?_
         rotate_left
         ·
          intro w'
          go_simp
          with_reducible rfl
         rotate_left
         ·
          simp only [Act.put, put_x, i64_w, i32_w]
          rfl
         refine pure_ (i := 9) (N := some 59) (v := ?_) (a' := ?_) (bz 14 1023) rfl rfl (any_of HT_.out (by kernel_rfl)) (fun _ _ _ h => h) (Or.inl ⟨by rfl, ?_⟩) ?_ ?_
         rotate_left
         ·
          intro w'
          go_simp
          with_reducible rfl
         rotate_left
         ·
          simp only [Act.put, put_x, i64_w, i32_w]
          rfl
         refine one_ (i := 10) (N := some 13) (bz 14 2047) rfl rfl (one_of HT_.out (by kernel_rfl)) (by decide) (fun K hK => ?_)
         refine box_step ?hg (N := 13) ?hd (cs := #[.int .i64 0, .int .i64 0]) (t := 56) ?hr ?_; (case hd => rfl); (case hg => rfl); (case hr => first | (go_simp; done) | (go_simp; rfl))
         intro gb1215 hg w35 hbox hb
         have HS7_ := (hb.cell (World.block_lt_of_cell? _ _ (hHeld.2.2.2.2.2.2.2))).trans (hHeld.2.2.2.2.2.2.2)
         replace HO_5 := Aside0.mk (Kd.R_below (Kd.R_x HO_5.out) hb)
         replace HO_8 := Aside0.mk (Kd.N_below (Kd.N_elderB (Kd.N_x HO_8.out) gb1215 (Nat.le_of_eq hg.symm)) hb)
         replace HO_1200003 := Aside0.mk (Kd.R_below (Kd.R_x HO_1200003.out) hb)
         replace HO_1200005 := Aside0.mk (Kd.N_below (Kd.N_elderB (Kd.N_x HO_1200005.out) gb1215 (Nat.le_of_eq hg.symm)) hb)
         replace HO_1200006 := Aside0.mk (Kd.R_below (Kd.R_x HO_1200006.out) hb)
         replace HL1208_0 := Aside0.mk (Kd.V_below (Kd.V_elderB (Kd.V_x HL1208_0.out) gb1215 (Nat.le_of_eq hg.symm)) hb)
         replace HL1210_0 := Aside0.mk (Kd.V_below (Kd.V_elderB (Kd.V_x HL1210_0.out) gb1215 (Nat.le_of_eq hg.symm)) hb)
         replace HR1208_0 := Aside0.mk (Kd.C_below (by repeat (first | (with_reducible exact HR1208_0.out) | (with_reducible refine Kd.C_alloc ?_ _) | (with_reducible refine Kd.C_drewN ?_ _) | (with_reducible refine Kd.C_drew ?_) | exact HR1208_0.out)) hb)
         replace HR1210_0 := Aside0.mk (Kd.C_below (by repeat (first | (with_reducible exact HR1210_0.out) | (with_reducible refine Kd.C_alloc ?_ _) | (with_reducible refine Kd.C_drewN ?_ _) | (with_reducible refine Kd.C_drew ?_) | exact HR1210_0.out)) hb)
         have BK1215 := Aside0.mk (hbox)
         have GW1215 := Aside0.mk ((by rw [hg]; exact (below_size (by exact below_y HB.out)) : w.heap.size ≤ gb1215))
         have GE1215 := Aside0.mk ((by rw [hg]; exact (below_size (by exact below_y HB.out)) : w.heap.size ≤ gb1215))
         replace HB := bl_x HB hb
         have NB1199_1215 := Aside0.mk ((by rw [hg]; exact Nat.ne_of_lt (blk_lt (g := gb1199) (o := .cells #[.int .i64 t1185, .int .i64 t1186, .int .i64 t1187, .slice Ao17 t1188.length co17, .int .i64 t1191, .slice Ao18 t1192.length co18, .slice Ao19 t1195.length co19] 26 (0, 0)) (blk_x BK1199.out)) : gb1199 ≠ gb1215))
         have NB1215_1199 := Aside0.mk ((by rw [hg]; exact Nat.ne_of_gt (blk_lt (g := gb1199) (o := .cells #[.int .i64 t1185, .int .i64 t1186, .int .i64 t1187, .slice Ao17 t1188.length co17, .int .i64 t1191, .slice Ao18 t1192.length co18, .slice Ao19 t1195.length co19] 26 (0, 0)) (blk_x BK1199.out)) : gb1215 ≠ gb1199))
         replace BK1199 := Aside0.mk (blk_below (blk_x BK1199.out) hb)
         clear hb hbox hg
         refine hK.out _ _ ⟨(blk_cell BK1199.out 0).trans rfl, (blk_cell BK1199.out 1).trans rfl, (blk_cell BK1199.out 2).trans rfl, (blk_cell BK1199.out 3).trans rfl, (blk_cell BK1199.out 4).trans rfl, (blk_cell BK1199.out 5).trans rfl, (blk_cell BK1199.out 6).trans rfl, HS7_⟩ (fun hHeld => ?_)
         clear hK K
         refine norm_ (a' := ?_) ?_ ?_
         rotate_left
         ·
          show Act.put _ (some 13) _ = _
          simp only [Act.put, put_x, i64_w, i32_w]
          rfl
         exact norm_ (by simp only [putAll, Act.put, put_x]) (hCont (gb1215) _ ⟨hHeld, (by (with_reducible repeat (first | apply Kd.V_alloc | apply Kd.V_drewN | apply Kd.V_drew)); exact Kd.V_mono HL1208_0.out (fun _ hk => ⟨hk.1.1.2.1, ⟨hk.1.1.2.2.1, ⟨hk.1.1.2.2.2.1, ⟨hk.1.1.1, ⟨hk.1.2, ⟨hk.1.1.2.2.2.2, hk.2⟩⟩⟩⟩⟩⟩)), (by (with_reducible repeat (first | apply Kd.V_alloc | apply Kd.V_drewN | apply Kd.V_drew)); exact Kd.V_mono HL1210_0.out (fun _ hk => ⟨hk.1.1.2.1, ⟨hk.1.1.2.2.1, ⟨hk.1.1.2.2.2.1, ⟨hk.1.1.1, ⟨hk.1.2, ⟨hk.1.1.2.2.2.2, hk.2⟩⟩⟩⟩⟩⟩)), (Kd.R_x HO_1200003.out), (by (with_reducible repeat (first | apply Kd.N_alloc | apply Kd.N_drewN | apply Kd.N_drew)); exact Kd.N_mono HO_1200005.out (fun _ hk => ⟨hk.1.2.2.1, ⟨hk.1.2.2.2.1, ⟨hk.1.1, ⟨hk.1.2.1, ⟨hk.1.2.2.2.2, hk.2⟩⟩⟩⟩⟩)), (Kd.R_x HO_1200006.out), (Kd.R_x HO_5.out), (by (with_reducible repeat (first | apply Kd.N_alloc | apply Kd.N_drewN | apply Kd.N_drew)); exact Kd.N_mono HO_8.out (fun _ hk => ⟨hk.1.2.1, ⟨hk.1.2.2.1, ⟨hk.1.2.2.2.1, ⟨hk.1.1, ⟨hk.1.2.2.2.2, hk.2⟩⟩⟩⟩⟩)), (blk_x BK1199.out), (blk_x BK1215.out), GW1215.out, GE1215.out, NB1199_1215.out, NB1215_1199.out, (by exact below_y HB.out)⟩)
        ·
         skip
         refine box_step ?hg (N := 13) ?hd (cs := #[.int .i64 0, .int .i64 0]) (t := 56) ?hr ?_; (case hd => rfl); (case hg => rfl); (case hr => first | (go_simp; done) | (go_simp; rfl))
         intro gb1215 hg w34 hbox hb
         have HS7_ := (hb.cell (World.block_lt_of_cell? _ _ (hHeld.2.2.2.2.2.2.2))).trans (hHeld.2.2.2.2.2.2.2)
         replace HO_5 := Aside0.mk (Kd.R_below (Kd.R_x HO_5.out) hb)
         replace HO_8 := Aside0.mk (Kd.N_below (Kd.N_elderB (Kd.N_x HO_8.out) gb1215 (Nat.le_of_eq hg.symm)) hb)
         replace HO_1200003 := Aside0.mk (Kd.R_below (Kd.R_x HO_1200003.out) hb)
         replace HO_1200005 := Aside0.mk (Kd.N_below (Kd.N_elderB (Kd.N_x HO_1200005.out) gb1215 (Nat.le_of_eq hg.symm)) hb)
         replace HO_1200006 := Aside0.mk (Kd.R_below (Kd.R_x HO_1200006.out) hb)
         replace HL1208_0 := Aside0.mk (Kd.V_below (Kd.V_elderB (Kd.V_x HL1208_0.out) gb1215 (Nat.le_of_eq hg.symm)) hb)
         replace HL1210_0 := Aside0.mk (Kd.V_below (Kd.V_elderB (Kd.V_x HL1210_0.out) gb1215 (Nat.le_of_eq hg.symm)) hb)
         replace HR1208_0 := Aside0.mk (Kd.C_below (by repeat (first | (with_reducible exact HR1208_0.out) | (with_reducible refine Kd.C_alloc ?_ _) | (with_reducible refine Kd.C_drewN ?_ _) | (with_reducible refine Kd.C_drew ?_) | exact HR1208_0.out)) hb)
         replace HR1210_0 := Aside0.mk (Kd.C_below (by repeat (first | (with_reducible exact HR1210_0.out) | (with_reducible refine Kd.C_alloc ?_ _) | (with_reducible refine Kd.C_drewN ?_ _) | (with_reducible refine Kd.C_drew ?_) | exact HR1210_0.out)) hb)
         have BK1215 := Aside0.mk (hbox)
         have GW1215 := Aside0.mk ((by rw [hg]; exact (below_size (by exact below_y HB.out)) : w.heap.size ≤ gb1215))
         have GE1215 := Aside0.mk ((by rw [hg]; exact (below_size (by exact below_y HB.out)) : w.heap.size ≤ gb1215))
         replace HB := bl_x HB hb
         have NB1199_1215 := Aside0.mk ((by rw [hg]; exact Nat.ne_of_lt (blk_lt (g := gb1199) (o := .cells #[.int .i64 t1185, .int .i64 t1186, .int .i64 t1187, .slice Ao17 t1188.length co17, .int .i64 t1191, .slice Ao18 t1192.length co18, .slice Ao19 t1195.length co19] 26 (0, 0)) (blk_x BK1199.out)) : gb1199 ≠ gb1215))
         have NB1215_1199 := Aside0.mk ((by rw [hg]; exact Nat.ne_of_gt (blk_lt (g := gb1199) (o := .cells #[.int .i64 t1185, .int .i64 t1186, .int .i64 t1187, .slice Ao17 t1188.length co17, .int .i64 t1191, .slice Ao18 t1192.length co18, .slice Ao19 t1195.length co19] 26 (0, 0)) (blk_x BK1199.out)) : gb1215 ≠ gb1199))
         replace BK1199 := Aside0.mk (blk_below (blk_x BK1199.out) hb)
         clear hb hbox hg
         refine hK.out _ _ ⟨(blk_cell BK1199.out 0).trans rfl, (blk_cell BK1199.out 1).trans rfl, (blk_cell BK1199.out 2).trans rfl, (blk_cell BK1199.out 3).trans rfl, (blk_cell BK1199.out 4).trans rfl, (blk_cell BK1199.out 5).trans rfl, (blk_cell BK1199.out 6).trans rfl, HS7_⟩ (fun hHeld => ?_)
         clear hK K
         refine norm_ (a' := ?_) ?_ ?_
         rotate_left
         ·
          show Act.put _ (some 13) _ = _
          simp only [Act.put, put_x, i64_w, i32_w]
          rfl
         refine one_ (i := 5) (N := some 56) (bz 14 1087) rfl rfl (one_of HT_.out (by kernel_rfl)) (by decide) (fun K hK => ?_)
         refine goes_ Try.func37 (by kernel_rfl) rfl #[.agg #[.int .i64 t1185, .int .i64 t1186, .int .i64 t1187, .slice Ao17 t1188.length co17, .int .i64 t1191, .slice Ao18 t1192.length co18, .slice Ao19 t1195.length co19], .slice A1210_0 (rd_L7 t1205 x11_1).length c1210_0] (by rfl) rfl rfl (by (try simp only [List.map_toArray, List.map_cons, List.map_nil]); first | done | rfl | (simp only [List.length_drop, List.length_take]; rfl)) ?_
         with_reducible refine (ship_Level.calls k1 t1185 t1186 t1187 _ _ t1188 t1191 _ _ t1192 _ _ t1195 _ _ (rd_L7 t1205 x11_1) t1211 t1212 t1213 t1214 _ ?side1 ?side2 ?side3 ?side4 ?side5 ?side6 ?side7 ?side8 A27.out).mono ?_
         (case side1 => exact Kd.C_y (Kd.R_reads' HO_1200003.out).2.2)
         (case side2 => exact (Kd.R_reads' HO_1200003.out).2.1)
         (case side3 => exact Kd.C_y (Kd.N_reads' HO_1200005.out).2.2)
         (case side4 => exact (Kd.N_reads' HO_1200005.out).2.1)
         (case side5 => exact Kd.C_y (Kd.R_reads' HO_1200006.out).2.2)
         (case side6 => exact (Kd.R_reads' HO_1200006.out).2.1)
         (case side7 => repeat (first | exact (by repeat (first | (with_reducible exact HR1210_0.out) | (with_reducible refine Kd.C_alloc ?_ _) | (with_reducible refine Kd.C_drewN ?_ _) | (with_reducible refine Kd.C_drew ?_) | exact HR1210_0.out)) | (with_reducible refine Kd.C_alloc ?_ _) | (with_reducible refine Kd.C_drewN ?_ _) | (with_reducible refine Kd.C_drew ?_)))
         (case side8 => exact HC1210_0.out)
         rintro e w35 ⟨rfl, hb⟩
         have HS7_ := (hb.cell (World.block_lt_of_cell? _ _ (hHeld.2.2.2.2.2.2.2))).trans (hHeld.2.2.2.2.2.2.2)
         refine ⟨_, rfl, ?_⟩
         replace HO_5 := Aside0.mk (Kd.R_below (Kd.R_x HO_5.out) hb)
         replace HO_8 := Aside0.mk (Kd.N_below (Kd.N_x HO_8.out) hb)
         replace HO_1200003 := Aside0.mk (Kd.R_below (Kd.R_x HO_1200003.out) hb)
         replace HO_1200005 := Aside0.mk (Kd.N_below (Kd.N_x HO_1200005.out) hb)
         replace HO_1200006 := Aside0.mk (Kd.R_below (Kd.R_x HO_1200006.out) hb)
         replace HL1208_0 := Aside0.mk (Kd.V_below (Kd.V_x HL1208_0.out) hb)
         replace HL1210_0 := Aside0.mk (Kd.V_below (Kd.V_x HL1210_0.out) hb)
         replace BK1199 := Aside0.mk (blk_below (blk_x BK1199.out) hb)
         replace HR1208_0 := Aside0.mk (Kd.C_below (by repeat (first | (with_reducible exact HR1208_0.out) | (with_reducible refine Kd.C_alloc ?_ _) | (with_reducible refine Kd.C_drewN ?_ _) | (with_reducible refine Kd.C_drew ?_) | exact HR1208_0.out)) hb)
         replace HR1210_0 := Aside0.mk (Kd.C_below (by repeat (first | (with_reducible exact HR1210_0.out) | (with_reducible refine Kd.C_alloc ?_ _) | (with_reducible refine Kd.C_drewN ?_ _) | (with_reducible refine Kd.C_drew ?_) | exact HR1210_0.out)) hb)
         replace BK1215 := Aside0.mk (blk_below (blk_x BK1215.out) hb)
         replace HB := bl_x HB hb
         (try clear hb)
         (try clear hb2)
         (try clear hk)
         (try clear hi)
         refine hK.out _ _ ⟨(blk_cell BK1199.out 0).trans rfl, (blk_cell BK1199.out 1).trans rfl, (blk_cell BK1199.out 2).trans rfl, (blk_cell BK1199.out 3).trans rfl, (blk_cell BK1199.out 4).trans rfl, (blk_cell BK1199.out 5).trans rfl, (blk_cell BK1199.out 6).trans rfl, HS7_⟩ (fun hHeld => ?_)
         clear hK K
         refine norm_ (a' := ?_) ?_ ?_
         rotate_left
         ·
          show Act.put _ (some 56) _ = _
          simp only [Act.put, put_x, i64_w, i32_w]
          rfl
         refine pure_ (i := 6) (N := some 50) (v := ?_) (a' := ?_) (bz 14 1151) rfl rfl (any_of HT_.out (by kernel_rfl)) (fun _ _ _ h => h) (Or.inl ⟨by rfl, ?_⟩) ?_ ?_
         rotate_left
         ·
          intro w'
          go_simp
          with_reducible rfl
         rotate_left
         ·
          simp only [Act.put, put_x, i64_w, i32_w]
          rfl
         refine pure_ (i := 7) (N := some 57) (v := ?_) (a' := ?_) (bz 14 1279) rfl rfl (any_of HT_.out (by kernel_rfl)) (fun _ _ _ h => h) (Or.inl ⟨by rfl, ?_⟩) ?_ ?_
         rotate_left
         ·
          intro w'
          go_simp
          with_reducible rfl
         rotate_left
         ·
          simp only [Act.put, put_x, i64_w, i32_w]
          rfl
         refine pure_ (i := 8) (N := some 58) (v := ?_) (a' := ?_) (bz 14 1535) rfl rfl (any_of HT_.out (by kernel_rfl)) (fun _ _ _ h => h) (Or.inl ⟨by rfl, ?_⟩) ?_ ?_
         rotate_left
         ·
          intro w'
          go_simp
          with_reducible rfl
         rotate_left
         ·
          simp only [Act.put, put_x, i64_w, i32_w]
          rfl
         refine pure_ (i := 9) (N := some 59) (v := ?_) (a' := ?_) (bz 14 2047) rfl rfl (any_of HT_.out (by kernel_rfl)) (fun _ _ _ h => h) (Or.inl ⟨by rfl, ?_⟩) ?_ ?_
         rotate_left
         ·
          intro w'
          go_simp
          with_reducible rfl
         rotate_left
         ·
          simp only [Act.put, put_x, i64_w, i32_w]
          rfl
         exact norm_ (by simp only [putAll, Act.put, put_x]) (hCont (gb1215) _ ⟨hHeld, (by (with_reducible repeat (first | apply Kd.V_alloc | apply Kd.V_drewN | apply Kd.V_drew)); exact Kd.V_mono HL1208_0.out (fun _ hk => ⟨hk.1.1.2.1, ⟨hk.1.1.2.2.1, ⟨hk.1.1.2.2.2.1, ⟨hk.1.1.1, ⟨hk.1.2, ⟨hk.1.1.2.2.2.2, hk.2⟩⟩⟩⟩⟩⟩)), (by (with_reducible repeat (first | apply Kd.V_alloc | apply Kd.V_drewN | apply Kd.V_drew)); exact Kd.V_mono HL1210_0.out (fun _ hk => ⟨hk.1.1.2.1, ⟨hk.1.1.2.2.1, ⟨hk.1.1.2.2.2.1, ⟨hk.1.1.1, ⟨hk.1.2, ⟨hk.1.1.2.2.2.2, hk.2⟩⟩⟩⟩⟩⟩)), (Kd.R_x HO_1200003.out), (by (with_reducible repeat (first | apply Kd.N_alloc | apply Kd.N_drewN | apply Kd.N_drew)); exact Kd.N_mono HO_1200005.out (fun _ hk => ⟨hk.1.2.2.1, ⟨hk.1.2.2.2.1, ⟨hk.1.1, ⟨hk.1.2.1, ⟨hk.1.2.2.2.2, hk.2⟩⟩⟩⟩⟩)), (Kd.R_x HO_1200006.out), (Kd.R_x HO_5.out), (by (with_reducible repeat (first | apply Kd.N_alloc | apply Kd.N_drewN | apply Kd.N_drew)); exact Kd.N_mono HO_8.out (fun _ hk => ⟨hk.1.2.1, ⟨hk.1.2.2.1, ⟨hk.1.2.2.2.1, ⟨hk.1.1, ⟨hk.1.2.2.2.2, hk.2⟩⟩⟩⟩⟩)), (blk_x BK1199.out), (blk_x BK1215.out), GW1215.out, GE1215.out, NB1199_1215.out, NB1215_1199.out, (by exact below_y HB.out)⟩)
       rintro gb1215 w36 ⟨hS_, h0_, h1_, h2_, h3_, h4_, h5_, h6_, h7_, h8_, h9_, h10_, h11_, h12_, h13_⟩
       have n0_ : Aside0 (Kd.V (Kd.int .i64) 3 w36 w.heap.size (fun k_ => some k_ ≠ (.slice Ao17 t1188.length co17 : Value).ownBlock ∧ some k_ ≠ (.slice Ao18 t1192.length co18 : Value).ownBlock ∧ some k_ ≠ (.slice Ao19 t1195.length co19 : Value).ownBlock ∧ some k_ ≠ (v1201 : Value).ownBlock ∧ some k_ ≠ (.slice (some ad1208) t1205.length co30 : Value).ownBlock ∧ k_ ≠ gb1199 ∧ k_ ≠ gb1215) (.slice A1208_0 (rd_L7 t1205 x11_1).length c1208_0) (rd_L7 t1205 x11_1)) := ⟨h0_⟩
       have n1_ : Aside0 (Kd.V (Kd.int .i64) 3 w36 w.heap.size (fun k_ => some k_ ≠ (.slice Ao17 t1188.length co17 : Value).ownBlock ∧ some k_ ≠ (.slice Ao18 t1192.length co18 : Value).ownBlock ∧ some k_ ≠ (.slice Ao19 t1195.length co19 : Value).ownBlock ∧ some k_ ≠ (v1201 : Value).ownBlock ∧ some k_ ≠ (.slice (some ad1208) t1205.length co30 : Value).ownBlock ∧ k_ ≠ gb1199 ∧ k_ ≠ gb1215) (.slice A1210_0 (rd_L7 t1205 x11_1).length c1210_0) (rd_L7 t1205 x11_1)) := ⟨h1_⟩
       have n2_ : Aside0 (Kd.R k85 85 w36 w.heap.size (fun _ => True) (.slice Ao17 t1188.length co17) t1188) := ⟨h2_⟩
       have n3_ : Aside0 (Kd.N k59 59 w36 w.heap.size (fun k_ => some k_ ≠ (.slice Ao17 t1188.length co17 : Value).ownBlock ∧ some k_ ≠ (.slice Ao19 t1195.length co19 : Value).ownBlock ∧ some k_ ≠ (v1201 : Value).ownBlock ∧ some k_ ≠ (.slice (some ad1208) t1205.length co30 : Value).ownBlock ∧ k_ ≠ gb1199 ∧ k_ ≠ gb1215) (.slice Ao18 t1192.length co18) t1192) := ⟨h3_⟩
       have n4_ : Aside0 (Kd.R k79 79 w36 w.heap.size (fun _ => True) (.slice Ao19 t1195.length co19) t1195) := ⟨h4_⟩
       have n5_ : Aside0 (Kd.R (Kd.int .i64) 3 w36 w.heap.size (fun _ => True) v1201 t1200) := ⟨h5_⟩
       have n6_ : Aside0 (Kd.N (Kd.slice 3 (Kd.int .i64)) 27 w36 w.heap.size (fun k_ => some k_ ≠ (.slice Ao17 t1188.length co17 : Value).ownBlock ∧ some k_ ≠ (.slice Ao18 t1192.length co18 : Value).ownBlock ∧ some k_ ≠ (.slice Ao19 t1195.length co19 : Value).ownBlock ∧ some k_ ≠ (v1201 : Value).ownBlock ∧ k_ ≠ gb1199 ∧ k_ ≠ gb1215) (.slice (some ad1208) t1205.length co30) t1205) := ⟨h6_⟩
       have n7_ : Aside0 (w36.heap[gb1199]? = some (.cells #[.int .i64 t1185, .int .i64 t1186, .int .i64 t1187, .slice Ao17 t1188.length co17, .int .i64 t1191, .slice Ao18 t1192.length co18, .slice Ao19 t1195.length co19] 26 (0, 0))) := ⟨h7_⟩
       have n8_ : Aside0 (w36.heap[gb1215]? = some (.cells #[.int .i64 0, .int .i64 0] 56 (0, 0))) := ⟨h8_⟩
       have n9_ : Aside0 (w.heap.size ≤ gb1215) := ⟨h9_⟩
       have n10_ : Aside0 (w.heap.size ≤ gb1215) := ⟨h10_⟩
       have n11_ : Aside0 (gb1199 ≠ gb1215) := ⟨h11_⟩
       have n12_ : Aside0 (gb1215 ≠ gb1199) := ⟨h12_⟩
       have n13_ : Aside0 (Below w.heap.size w w36) := ⟨h13_⟩
       clear HO_5 HO_8 HO_1200003 HO_1200005 HO_1200006 HL1208_0 BK1199 HR1208_0 HB h0_ h1_ h2_ h3_ h4_ h5_ h6_ h7_ h8_ h9_ h10_ h11_ h12_ h13_
       have HL1208_0 := n0_
       have HL1210_0 := n1_
       have HO_1200003 := n2_
       have HO_1200005 := n3_
       have HO_1200006 := n4_
       have HO_5 := n5_
       have HO_8 := n6_
       have BK1199 := n7_
       have BK1215 := n8_
       have GW1215 := n9_
       have GE1215 := n10_
       have NB1199_1215 := n11_
       have NB1215_1199 := n12_
       have HB := n13_
       clear n0_ n1_ n2_ n3_ n4_ n5_ n6_ n7_ n8_ n9_ n10_ n11_ n12_ n13_
       have hHeld : w36.cell? ⟨gb1199, 0, none⟩ = some (.int .i64 t1185) ∧ w36.cell? ⟨gb1199, 1, none⟩ = some (.int .i64 t1186) ∧ w36.cell? ⟨gb1199, 2, none⟩ = some (.int .i64 t1187) ∧ w36.cell? ⟨gb1199, 3, none⟩ = some (.slice Ao17 t1188.length co17) ∧ w36.cell? ⟨gb1199, 4, none⟩ = some (.int .i64 t1191) ∧ w36.cell? ⟨gb1199, 5, none⟩ = some (.slice Ao18 t1192.length co18) ∧ w36.cell? ⟨gb1199, 6, none⟩ = some (.slice Ao19 t1195.length co19) ∧ w36.cell? (ad1208.add (x11_1).toNat) = some (.slice A1210_0 (rd_L7 t1205 x11_1).length c1210_0) := hS_
       refine norm_ (a' := ?_) ?_ ?_
       rotate_left
       ·
        simp only [putAll, Act.put, put_x]
        rfl
       refine pure_ (i := 11) (N := some 12) (v := ?_) (a' := ?_) (bz 14 4095) rfl rfl (any_of HT_.out (by kernel_rfl)) (fun _ _ _ h => h) (Or.inl ⟨by rfl, ?_⟩) ?_ ?_
       rotate_left
       ·
        intro w'
        go_simp
        with_reducible rfl
       rotate_left
       ·
        simp only [Act.put, put_x, i64_w, i32_w]
        rfl
       refine one_ (i := 12) (N := none) (bz 14 8191) rfl rfl (one_of HT_.out (by kernel_rfl)) (by decide) (fun K hK => ?_)
       have hs37 : w36.cell? ⟨gb1215, 0, none⟩ = some (.int .i64 0) := (blk_cell BK1215.out 0).trans rfl
       have hfs37 := blk_frozen BK1215.out 0
       have hns37_0 := NB1199_1215.out
       have hms37_0 := NB1215_1199.out
       have hs38 : w36.cell? ⟨gb1215, 1, none⟩ = some (.int .i64 0) := (blk_cell BK1215.out 1).trans rfl
       have hfs38 := blk_frozen BK1215.out 1
       have hns38_0 := NB1199_1215.out
       have hms38_0 := NB1215_1199.out
       refine skip_ (w1 := ?_) (by rfl) rfl ?_ ?_
       rotate_left
       ·
        go_simp
        rfl
       refine hK.out _ _ ⟨((cell_far (p := ⟨gb1215, _, none⟩) NB1199_1215.out _).trans (((cell_far (p := ⟨gb1215, _, none⟩) NB1199_1215.out _).trans (hHeld.1)))), ((cell_far (p := ⟨gb1215, _, none⟩) NB1199_1215.out _).trans (((cell_far (p := ⟨gb1215, _, none⟩) NB1199_1215.out _).trans (hHeld.2.1)))), ((cell_far (p := ⟨gb1215, _, none⟩) NB1199_1215.out _).trans (((cell_far (p := ⟨gb1215, _, none⟩) NB1199_1215.out _).trans (hHeld.2.2.1)))), ((cell_far (p := ⟨gb1215, _, none⟩) NB1199_1215.out _).trans (((cell_far (p := ⟨gb1215, _, none⟩) NB1199_1215.out _).trans (hHeld.2.2.2.1)))), ((cell_far (p := ⟨gb1215, _, none⟩) NB1199_1215.out _).trans (((cell_far (p := ⟨gb1215, _, none⟩) NB1199_1215.out _).trans (hHeld.2.2.2.2.1)))), ((cell_far (p := ⟨gb1215, _, none⟩) NB1199_1215.out _).trans (((cell_far (p := ⟨gb1215, _, none⟩) NB1199_1215.out _).trans (hHeld.2.2.2.2.2.1)))), ((cell_far (p := ⟨gb1215, _, none⟩) NB1199_1215.out _).trans (((cell_far (p := ⟨gb1215, _, none⟩) NB1199_1215.out _).trans (hHeld.2.2.2.2.2.2.1)))), ((cell_far (p := ⟨gb1215, _, none⟩) (by first | exact Kd.own_blk (Kd.N_away HO_8.out (fun _ hk => hk.2.2.2.2.2)) | (rw [add_block]; exact Kd.own_blk (Kd.N_away HO_8.out (fun _ hk => hk.2.2.2.2.2))) | (show (Addr.add _ _).block ≠ _; rw [add_block]; exact Kd.own_blk (Kd.N_away HO_8.out (fun _ hk => hk.2.2.2.2.2))) | (dsimp only; exact Kd.own_blk (Kd.N_away HO_8.out (fun _ hk => hk.2.2.2.2.2)))) _).trans (((cell_far (p := ⟨gb1215, _, none⟩) (by first | exact Kd.own_blk (Kd.N_away HO_8.out (fun _ hk => hk.2.2.2.2.2)) | (rw [add_block]; exact Kd.own_blk (Kd.N_away HO_8.out (fun _ hk => hk.2.2.2.2.2))) | (show (Addr.add _ _).block ≠ _; rw [add_block]; exact Kd.own_blk (Kd.N_away HO_8.out (fun _ hk => hk.2.2.2.2.2))) | (dsimp only; exact Kd.own_blk (Kd.N_away HO_8.out (fun _ hk => hk.2.2.2.2.2)))) _).trans (hHeld.2.2.2.2.2.2.2))))⟩ (fun hHeld => ?_)
       clear hK K
       refine pure_ (i := 13) (N := some 14) (v := ?_) (a' := ?_) (bz 14 16383) rfl rfl (any_of HT_.out (by kernel_rfl)) (fun _ _ _ h => h) (Or.inl ⟨by rfl, ?_⟩) ?_ ?_
       rotate_left
       ·
        intro w'
        go_simp
        with_reducible rfl
       rotate_left
       ·
        simp only [Act.put, put_x, i64_w, i32_w]
        rfl
       refine done_ (done_of HT_.out (by kernel_rfl)) ?_
       try go_wp2
       have n0_ : Aside0 (Kd.R (Kd.int .i64) 3 ((w36.setCell ⟨gb1215, 0, none⟩ (.int .i64 t1212)).setCell ⟨gb1215, 1, none⟩ (.int .i64 t1213)) w.heap.size (fun _ => True) v1201 t1200) := ⟨by (with_reducible repeat (first | apply Kd.R_alloc | apply Kd.R_drewN | apply Kd.R_drew)); exact Kd.R_mono (Kd.R_far (p := ⟨gb1215, 1, none⟩) (Kd.R_far (p := ⟨gb1215, 0, none⟩) (Kd.R_types HO_5.out BK1215.out (by decide)) (fun _ hk => hk.2) (.int .i64 t1212)) (fun _ hk => hk.2) (.int .i64 t1213)) (fun _ hk => trivial)⟩
       have n1_ : Aside0 (Kd.N (Kd.slice 3 (Kd.int .i64)) 27 ((w36.setCell ⟨gb1215, 0, none⟩ (.int .i64 t1212)).setCell ⟨gb1215, 1, none⟩ (.int .i64 t1213)) w.heap.size (fun k_ => some k_ ≠ (v1201 : Value).ownBlock ∧ some k_ ≠ (.slice Ao17 t1188.length co17 : Value).ownBlock ∧ some k_ ≠ (.slice Ao18 t1192.length co18 : Value).ownBlock ∧ some k_ ≠ (.slice Ao19 t1195.length co19 : Value).ownBlock ∧ k_ ≠ gb1199 ∧ k_ ≠ gb1215) (.slice (some ad1208) t1205.length co30) t1205) := ⟨by (with_reducible repeat (first | apply Kd.N_alloc | apply Kd.N_drewN | apply Kd.N_drew)); exact Kd.N_mono (Kd.N_far (p := ⟨gb1215, 1, none⟩) (Kd.N_far (p := ⟨gb1215, 0, none⟩) (Kd.N_mono HO_8.out (fun k_ hk => (⟨hk, hk.2.2.2.2.2⟩ : _ ∧ k_ ≠ gb1215))) (fun _ hk => hk.2) (.int .i64 t1212)) (fun _ hk => hk.2) (.int .i64 t1213)) (fun _ hk => ⟨hk.1.2.2.2.1, ⟨hk.1.1, ⟨hk.1.2.1, ⟨hk.1.2.2.1, ⟨hk.1.2.2.2.2.1, hk.1.2.2.2.2.2⟩⟩⟩⟩⟩)⟩
       have n2_ : Aside0 (Kd.R k85 85 ((w36.setCell ⟨gb1215, 0, none⟩ (.int .i64 t1212)).setCell ⟨gb1215, 1, none⟩ (.int .i64 t1213)) w.heap.size (fun _ => True) (.slice Ao17 t1188.length co17) t1188) := ⟨by (with_reducible repeat (first | apply Kd.R_alloc | apply Kd.R_drewN | apply Kd.R_drew)); exact Kd.R_mono (Kd.R_far (p := ⟨gb1215, 1, none⟩) (Kd.R_far (p := ⟨gb1215, 0, none⟩) (Kd.R_types HO_1200003.out BK1215.out (by decide)) (fun _ hk => hk.2) (.int .i64 t1212)) (fun _ hk => hk.2) (.int .i64 t1213)) (fun _ hk => trivial)⟩
       have n3_ : Aside0 (Kd.N k59 59 ((w36.setCell ⟨gb1215, 0, none⟩ (.int .i64 t1212)).setCell ⟨gb1215, 1, none⟩ (.int .i64 t1213)) w.heap.size (fun k_ => some k_ ≠ (v1201 : Value).ownBlock ∧ some k_ ≠ (.slice (some ad1208) t1205.length co30 : Value).ownBlock ∧ some k_ ≠ (.slice Ao17 t1188.length co17 : Value).ownBlock ∧ some k_ ≠ (.slice Ao19 t1195.length co19 : Value).ownBlock ∧ k_ ≠ gb1199 ∧ k_ ≠ gb1215) (.slice Ao18 t1192.length co18) t1192) := ⟨by (with_reducible repeat (first | apply Kd.N_alloc | apply Kd.N_drewN | apply Kd.N_drew)); exact Kd.N_mono (Kd.N_far (p := ⟨gb1215, 1, none⟩) (Kd.N_far (p := ⟨gb1215, 0, none⟩) (Kd.N_mono HO_1200005.out (fun k_ hk => (⟨hk, hk.2.2.2.2.2⟩ : _ ∧ k_ ≠ gb1215))) (fun _ hk => hk.2) (.int .i64 t1212)) (fun _ hk => hk.2) (.int .i64 t1213)) (fun _ hk => ⟨hk.1.2.2.1, ⟨hk.1.2.2.2.1, ⟨hk.1.1, ⟨hk.1.2.1, ⟨hk.1.2.2.2.2.1, hk.1.2.2.2.2.2⟩⟩⟩⟩⟩)⟩
       have n4_ : Aside0 (Kd.R k79 79 ((w36.setCell ⟨gb1215, 0, none⟩ (.int .i64 t1212)).setCell ⟨gb1215, 1, none⟩ (.int .i64 t1213)) w.heap.size (fun _ => True) (.slice Ao19 t1195.length co19) t1195) := ⟨by (with_reducible repeat (first | apply Kd.R_alloc | apply Kd.R_drewN | apply Kd.R_drew)); exact Kd.R_mono (Kd.R_far (p := ⟨gb1215, 1, none⟩) (Kd.R_far (p := ⟨gb1215, 0, none⟩) (Kd.R_types HO_1200006.out BK1215.out (by decide)) (fun _ hk => hk.2) (.int .i64 t1212)) (fun _ hk => hk.2) (.int .i64 t1213)) (fun _ hk => trivial)⟩
       have n5_ : Aside0 (Kd.V (Kd.int .i64) 3 ((w36.setCell ⟨gb1215, 0, none⟩ (.int .i64 t1212)).setCell ⟨gb1215, 1, none⟩ (.int .i64 t1213)) w.heap.size (fun k_ => some k_ ≠ (v1201 : Value).ownBlock ∧ some k_ ≠ (.slice (some ad1208) t1205.length co30 : Value).ownBlock ∧ some k_ ≠ (.slice Ao17 t1188.length co17 : Value).ownBlock ∧ some k_ ≠ (.slice Ao18 t1192.length co18 : Value).ownBlock ∧ some k_ ≠ (.slice Ao19 t1195.length co19 : Value).ownBlock ∧ k_ ≠ gb1199 ∧ k_ ≠ gb1215) (.slice A1208_0 (rd_L7 t1205 x11_1).length c1208_0) (rd_L7 t1205 x11_1)) := ⟨by (with_reducible repeat (first | apply Kd.V_alloc | apply Kd.V_drewN | apply Kd.V_drew)); exact Kd.V_mono (Kd.V_far (p := ⟨gb1215, 1, none⟩) (Kd.V_far (p := ⟨gb1215, 0, none⟩) (Kd.V_mono HL1208_0.out (fun k_ hk => (⟨hk, hk.2.2.2.2.2.2⟩ : _ ∧ k_ ≠ gb1215))) (fun _ hk => hk.2) (.int .i64 t1212)) (fun _ hk => hk.2) (.int .i64 t1213)) (fun _ hk => ⟨hk.1.2.2.2.1, ⟨hk.1.2.2.2.2.1, ⟨hk.1.1, ⟨hk.1.2.1, ⟨hk.1.2.2.1, ⟨hk.1.2.2.2.2.2.1, hk.1.2.2.2.2.2.2⟩⟩⟩⟩⟩⟩)⟩
       have n6_ : Aside0 (Kd.V (Kd.int .i64) 3 ((w36.setCell ⟨gb1215, 0, none⟩ (.int .i64 t1212)).setCell ⟨gb1215, 1, none⟩ (.int .i64 t1213)) w.heap.size (fun k_ => some k_ ≠ (v1201 : Value).ownBlock ∧ some k_ ≠ (.slice (some ad1208) t1205.length co30 : Value).ownBlock ∧ some k_ ≠ (.slice Ao17 t1188.length co17 : Value).ownBlock ∧ some k_ ≠ (.slice Ao18 t1192.length co18 : Value).ownBlock ∧ some k_ ≠ (.slice Ao19 t1195.length co19 : Value).ownBlock ∧ k_ ≠ gb1199 ∧ k_ ≠ gb1215) (.slice A1210_0 (rd_L7 t1205 x11_1).length c1210_0) (rd_L7 t1205 x11_1)) := ⟨by (with_reducible repeat (first | apply Kd.V_alloc | apply Kd.V_drewN | apply Kd.V_drew)); exact Kd.V_mono (Kd.V_far (p := ⟨gb1215, 1, none⟩) (Kd.V_far (p := ⟨gb1215, 0, none⟩) (Kd.V_mono HL1210_0.out (fun k_ hk => (⟨hk, hk.2.2.2.2.2.2⟩ : _ ∧ k_ ≠ gb1215))) (fun _ hk => hk.2) (.int .i64 t1212)) (fun _ hk => hk.2) (.int .i64 t1213)) (fun _ hk => ⟨hk.1.2.2.2.1, ⟨hk.1.2.2.2.2.1, ⟨hk.1.1, ⟨hk.1.2.1, ⟨hk.1.2.2.1, ⟨hk.1.2.2.2.2.2.1, hk.1.2.2.2.2.2.2⟩⟩⟩⟩⟩⟩)⟩
       have n7_ : Aside0 (((w36.setCell ⟨gb1215, 0, none⟩ (.int .i64 t1212)).setCell ⟨gb1215, 1, none⟩ (.int .i64 t1213)).heap[gb1199]? = some (.cells #[.int .i64 t1185, .int .i64 t1186, .int .i64 t1187, .slice Ao17 t1188.length co17, .int .i64 t1191, .slice Ao18 t1192.length co18, .slice Ao19 t1195.length co19] 26 (0, 0))) := ⟨blk_w BK1199.out⟩
       have n8_ : Aside0 (((w36.setCell ⟨gb1215, 0, none⟩ (.int .i64 t1212)).setCell ⟨gb1215, 1, none⟩ (.int .i64 t1213)).heap[gb1215]? = some (.cells #[.int .i64 t1212, .int .i64 t1213] 56 (0, 0))) := ⟨by (with_reducible repeat (first | refine blk_drewN ?_ _ | refine blk_drew ?_ | refine blk_alloc ?_ _)); refine blk_put (cs := #[.int .i64 t1212, .int .i64 0]) ?_ 1 _ rfl; (with_reducible repeat (first | refine blk_drewN ?_ _ | refine blk_drew ?_ | refine blk_alloc ?_ _)); refine blk_put (cs := #[.int .i64 0, .int .i64 0]) ?_ 0 _ rfl; (with_reducible repeat (first | refine blk_drewN ?_ _ | refine blk_drew ?_ | refine blk_alloc ?_ _)); exact BK1215.out⟩
       have n9_ : Aside0 (Below w.heap.size w ((w36.setCell ⟨gb1215, 0, none⟩ (.int .i64 t1212)).setCell ⟨gb1215, 1, none⟩ (.int .i64 t1213))) := ⟨by exact below_y HB.out⟩
       (try clear HO_5)
       (try clear HO_8)
       (try clear HO_1200003)
       (try clear HO_1200005)
       (try clear HO_1200006)
       (try clear HL1208_0)
       (try clear HL1210_0)
       (try clear BK1199)
       (try clear BK1215)
       (try clear HB)
       generalize ((w36.setCell ⟨gb1215, 0, none⟩ (.int .i64 t1212)).setCell ⟨gb1215, 1, none⟩ (.int .i64 t1213)) = w39 at n0_ n1_ n2_ n3_ n4_ n5_ n6_ n7_ n8_ n9_ ⊢
       have HO_5 := n0_
       have HO_8 := n1_
       have HO_1200003 := n2_
       have HO_1200005 := n3_
       have HO_1200006 := n4_
       have HL1208_0 := n5_
       have HL1210_0 := n6_
       have BK1199 := n7_
       have BK1215 := n8_
       have HB := n9_
       clear n0_ n1_ n2_ n3_ n4_ n5_ n6_ n7_ n8_ n9_
       replace HO_5 := Aside0.mk (Kd.R_drew HO_5.out)
       replace HO_8 := Aside0.mk (Kd.N_drew HO_8.out)
       replace HO_1200003 := Aside0.mk (Kd.R_drew HO_1200003.out)
       replace HO_1200005 := Aside0.mk (Kd.N_drew HO_1200005.out)
       replace HO_1200006 := Aside0.mk (Kd.R_drew HO_1200006.out)
       replace HL1208_0 := Aside0.mk (Kd.V_drew HL1208_0.out)
       replace HL1210_0 := Aside0.mk (Kd.V_drew HL1210_0.out)
       replace BK1199 := Aside0.mk (blk_drew BK1199.out)
       replace BK1215 := Aside0.mk (blk_drew BK1215.out)
       replace HB := Aside0.mk (below_drew1 HB.out)
       have p1216 : 0 ≤ (x11_1 : Int) := of_x
       have q1216 : x11_1 < (t1205.length : Int) := of_x
       obtain ⟨ad1216, A1216_0, c1216_0, e1216, hx1216_0, hl1216_0, hi1216_0⟩ := at_L7 (Kd.N_reads' HO_8.out).2.2 x11_1 p1216 q1216
       obtain rfl : ad1208 = ad1216 := (by injection e1216)
       obtain ⟨ce1216, hce1216, hMe1216, hcc1216⟩ := Kd.N_get HO_8.out [] x11_1 p1216 (by first | exact q1216 | exact of_x | (have e_ := (Kd.N_reads' HO_8.out).1; omega))
       obtain ⟨ua1216_0, uc1216_0, rfl, ul1216_0, ge1216_0⟩ := Kd.FK_slice_open hMe1216
       have hv1216_0 := hcc1216 0 _ rfl
       rw [Nat.add_zero, show ((Kd.slice 3 (Kd.int .i64))).sz = 1 from rfl, Nat.mul_one] at hv1216_0
       replace hv1216_0 := Option.some.inj (hv1216_0.symm.trans hx1216_0)
       injection hv1216_0 with hva_ hvn_ hvc_
       rw [hva_] at ge1216_0
       rw [hvc_] at ul1216_0
       have HL1216_0 := Aside0.mk (show Kd.V (Kd.int .i64) 3 _ w.heap.size _ _ (rd_L7 t1205 x11_1) from Kd.V_mk ul1216_0 ge1216_0)
       clear hva_ hvn_ hvc_ ge1216_0 ul1216_0 hcc1216 hce1216
       have HR1216_0 := Aside0.mk hi1216_0
       have HC1216_0 := Aside0.mk hl1216_0
       clear hi1216_0 hl1216_0
       replace p1216 := eq_true p1216
       replace q1216 := eq_true q1216
       refine start_ (n := 13) (S := fun w' => w'.cell? ⟨gb1199, 0, none⟩ = some (.int .i64 t1185) ∧ w'.cell? ⟨gb1199, 1, none⟩ = some (.int .i64 t1186) ∧ w'.cell? ⟨gb1199, 2, none⟩ = some (.int .i64 t1187) ∧ w'.cell? ⟨gb1199, 3, none⟩ = some (.slice Ao17 t1188.length co17) ∧ w'.cell? ⟨gb1199, 4, none⟩ = some (.int .i64 t1191) ∧ w'.cell? ⟨gb1199, 5, none⟩ = some (.slice Ao18 t1192.length co18) ∧ w'.cell? ⟨gb1199, 6, none⟩ = some (.slice Ao19 t1195.length co19) ∧ w'.cell? (ad1208.add (x11_1).toNat) = some (.slice A1216_0 (rd_L7 t1205 x11_1).length c1216_0)) (ds := []) #[false, false, false, false, false, false, false, false, false, false, false, false, false] (by kernel_rfl) rfl rfl ⟨(blk_cell BK1199.out 0).trans rfl, (blk_cell BK1199.out 1).trans rfl, (blk_cell BK1199.out 2).trans rfl, (blk_cell BK1199.out 3).trans rfl, (blk_cell BK1199.out 4).trans rfl, (blk_cell BK1199.out 5).trans rfl, (blk_cell BK1199.out 6).trans rfl, hx1216_0⟩ (fun hHeld => ?_); refine with_tabW swarflaw07_ShipMost.tab13 swarflaw07_ShipMost.bits13 (fun HT_ HW_ => ?_)
       generalize w39.drew = w40 at HO_5 HO_8 HO_1200003 HO_1200005 HO_1200006 HL1208_0 HL1210_0 BK1199 BK1215 HB HL1216_0 HR1216_0 hx1216_0 hHeld ⊢
       refine pure_ (i := 1) (N := some 62) (v := ?_) (a' := ?_) (bz 13 2) rfl rfl (any_of HT_.out (by kernel_rfl)) (fun _ _ _ h => h) (Or.inl ⟨by rfl, ?_⟩) ?_ ?_
       rotate_left
       ·
        intro w'
        go_simp
        with_reducible rfl
       rotate_left
       ·
        simp only [Act.put, put_x, i64_w, i32_w]
        rfl
       refine pure_ (i := 2) (N := some 63) (v := ?_) (a' := ?_) (bz 13 6) rfl rfl (any_of HT_.out (by kernel_rfl)) (fun _ _ _ h => h) (Or.inl ⟨by rfl, ?_⟩) ?_ ?_
       rotate_left
       ·
        intro w'
        go_simp
        with_reducible rfl
       rotate_left
       ·
        simp only [Act.put, put_x, i64_w, i32_w]
        rfl
       refine pure_ (i := 3) (N := some 64) (v := ?_) (a' := ?_) (bz 13 14) rfl rfl (any_of HT_.out (by kernel_rfl)) (fun _ _ _ h => h) (Or.inl ⟨by rfl, ?_⟩) ?_ ?_
       rotate_left
       ·
        intro w'
        go_simp
        with_reducible rfl
       rotate_left
       ·
        simp only [Act.put, put_x, i64_w, i32_w]
        rfl
       refine take_ (i := 0) (N := some 61) (v := ?_) (a' := ?_) (bz 13 15) rfl rfl (take_ofW HT_.out HW_.out (by kernel_rfl)) (fun _ _ _ h => h) (Or.inl ⟨by rfl, ?_⟩) hHeld ?_ ?_
       rotate_left
       ·
        rintro w' ⟨s0, s1, s2, s3, s4, s5, s6, s7⟩
        go_simp
        with_reducible rfl
       rotate_left
       ·
        simp only [Act.put, put_x, i64_w, i32_w]
        rfl
       refine take_ (i := 4) (N := some 65) (v := ?_) (a' := ?_) (bz 13 31) rfl rfl (take_ofW HT_.out HW_.out (by kernel_rfl)) (fun _ _ _ h => h) (Or.inl ⟨by rfl, ?_⟩) hHeld ?_ ?_
       rotate_left
       ·
        rintro w' ⟨s0, s1, s2, s3, s4, s5, s6, s7⟩
        go_simp
        with_reducible rfl
       rotate_left
       ·
        simp only [Act.put, put_x, i64_w, i32_w]
        rfl
       refine one_ (i := 5) (N := some 66) (bz 13 63) rfl rfl (one_of HT_.out (by kernel_rfl)) (by decide) (fun K hK => ?_)
       refine goes_ Try.func22 (by kernel_rfl) rfl #[.agg #[.int .i64 t1185, .int .i64 t1186, .int .i64 t1187, .slice Ao17 t1188.length co17, .int .i64 t1191, .slice Ao18 t1192.length co18, .slice Ao19 t1195.length co19], .slice A1216_0 (rd_L7 t1205 x11_1).length c1216_0] (by rfl) rfl rfl (by (try simp only [List.map_toArray, List.map_cons, List.map_nil]); first | done | rfl | (simp only [List.length_drop, List.length_take]; rfl)) ?_
       with_reducible refine (ship_Sail.calls t1185 t1186 t1187 _ _ t1188 t1191 _ _ t1192 _ _ t1195 _ _ (rd_L7 t1205 x11_1) t1217 t1218 t1221 _ ?side1 ?side2 ?side3 ?side4 ?side5 ?side6 ?side7 ?side8 A28.out).mono ?_
       (case side1 => exact Kd.C_y (Kd.R_reads' HO_1200003.out).2.2)
       (case side2 => exact (Kd.R_reads' HO_1200003.out).2.1)
       (case side3 => exact Kd.C_y (Kd.N_reads' HO_1200005.out).2.2)
       (case side4 => exact (Kd.N_reads' HO_1200005.out).2.1)
       (case side5 => exact Kd.C_y (Kd.R_reads' HO_1200006.out).2.2)
       (case side6 => exact (Kd.R_reads' HO_1200006.out).2.1)
       (case side7 => repeat (first | exact (by repeat (first | (with_reducible exact HR1216_0.out) | (with_reducible refine Kd.C_alloc ?_ _) | (with_reducible refine Kd.C_drewN ?_ _) | (with_reducible refine Kd.C_drew ?_) | exact HR1216_0.out)) | (with_reducible refine Kd.C_alloc ?_ _) | (with_reducible refine Kd.C_drewN ?_ _) | (with_reducible refine Kd.C_drew ?_)))
       (case side8 => exact HC1216_0.out)
       rintro e w41 ⟨v1219, rfl, ho0, hb⟩
       have HS7_ := (hb.cell (World.block_lt_of_cell? _ _ (hHeld.2.2.2.2.2.2.2))).trans (hHeld.2.2.2.2.2.2.2)
       refine ⟨_, rfl, ?_⟩
       replace HO_5 := Aside0.mk (Kd.R_below (Kd.R_x HO_5.out) hb)
       replace HO_8 := Aside0.mk (Kd.N_elder' (Kd.N_x HO_8.out) (Kd.R_base ho0) hb)
       replace HO_1200003 := Aside0.mk (Kd.R_below (Kd.R_x HO_1200003.out) hb)
       replace HO_1200005 := Aside0.mk (Kd.N_elder' (Kd.N_x HO_1200005.out) (Kd.R_base ho0) hb)
       replace HO_1200006 := Aside0.mk (Kd.R_below (Kd.R_x HO_1200006.out) hb)
       replace HL1208_0 := Aside0.mk (Kd.V_elder' (Kd.V_x HL1208_0.out) (Kd.R_base ho0) hb)
       replace HL1210_0 := Aside0.mk (Kd.V_elder' (Kd.V_x HL1210_0.out) (Kd.R_base ho0) hb)
       replace HL1216_0 := Aside0.mk (Kd.V_elder' (Kd.V_x HL1216_0.out) (Kd.R_base ho0) hb)
       have HO1220 := Aside0.mk (Kd.R_lower (Kd.R_newB ho0 (g := gb1215) (o := .cells #[.int .i64 t1212, .int .i64 t1213] 56 (0, 0)) (blk_x BK1215.out)) (below_size (by exact below_y HB.out)))
       replace BK1199 := Aside0.mk (blk_below (blk_x BK1199.out) hb)
       replace BK1215 := Aside0.mk (blk_below (blk_x BK1215.out) hb)
       replace HR1216_0 := Aside0.mk (Kd.C_below (by repeat (first | (with_reducible exact HR1216_0.out) | (with_reducible refine Kd.C_alloc ?_ _) | (with_reducible refine Kd.C_drewN ?_ _) | (with_reducible refine Kd.C_drew ?_) | exact HR1216_0.out)) hb)
       replace HB := bl_x HB hb
       (try clear hb)
       (try clear hb2)
       (try clear hk)
       (try clear hi)
       (try clear ho0)
       refine hK.out _ _ ⟨(blk_cell BK1199.out 0).trans rfl, (blk_cell BK1199.out 1).trans rfl, (blk_cell BK1199.out 2).trans rfl, (blk_cell BK1199.out 3).trans rfl, (blk_cell BK1199.out 4).trans rfl, (blk_cell BK1199.out 5).trans rfl, (blk_cell BK1199.out 6).trans rfl, HS7_⟩ (fun hHeld => ?_)
       clear hK K
       refine norm_ (a' := ?_) ?_ ?_
       rotate_left
       ·
        show Act.put _ (some 66) _ = _
        simp only [Act.put, put_x, i64_w, i32_w]
        rfl
       refine pure_ (i := 6) (N := some 60) (v := ?_) (a' := ?_) (bz 13 127) rfl rfl (any_of HT_.out (by kernel_rfl)) (fun _ _ _ h => h) (Or.inl ⟨by rfl, ?_⟩) ?_ ?_
       rotate_left
       ·
        intro w'
        go_simp
        with_reducible rfl
       rotate_left
       ·
        simp only [Act.put, put_x, i64_w, i32_w]
        rfl
       refine pure_ (i := 7) (N := some 67) (v := ?_) (a' := ?_) (bz 13 255) rfl rfl (any_of HT_.out (by kernel_rfl)) (fun _ _ _ h => h) (Or.inl ⟨by rfl, ?_⟩) ?_ ?_
       rotate_left
       ·
        intro w'
        go_simp
        with_reducible rfl
       rotate_left
       ·
        simp only [Act.put, put_x, i64_w, i32_w]
        rfl
       refine pure_ (i := 8) (N := some 68) (v := ?_) (a' := ?_) (bz 13 511) rfl rfl (any_of HT_.out (by kernel_rfl)) (fun _ _ _ h => h) (Or.inl ⟨by rfl, ?_⟩) ?_ ?_
       rotate_left
       ·
        intro w'
        go_simp
        with_reducible rfl
       rotate_left
       ·
        simp only [Act.put, put_x, i64_w, i32_w]
        rfl
       refine pure_ (i := 9) (N := some 69) (v := ?_) (a' := ?_) (bz 13 1023) rfl rfl (any_of HT_.out (by kernel_rfl)) (fun _ _ _ h => h) (Or.inl ⟨by rfl, ?_⟩) ?_ ?_
       rotate_left
       ·
        intro w'
        go_simp
        with_reducible rfl
       rotate_left
       ·
        simp only [Act.put, put_x, i64_w, i32_w]
        rfl
       refine pure_ (i := 10) (N := some 15) (v := ?_) (a' := ?_) (bz 13 2047) rfl rfl (any_of HT_.out (by kernel_rfl)) (fun _ _ _ h => h) (Or.inl ⟨by rfl, ?_⟩) ?_ ?_
       rotate_left
       ·
        intro w'
        go_simp
        with_reducible rfl
       rotate_left
       ·
        simp only [Act.put, put_x, i64_w, i32_w]
        rfl
       refine pure_ (i := 11) (N := some 16) (v := ?_) (a' := ?_) (bz 13 4095) rfl rfl (any_of HT_.out (by kernel_rfl)) (fun _ _ _ h => h) (Or.inl ⟨by rfl, ?_⟩) ?_ ?_
       rotate_left
       ·
        intro w'
        go_simp
        with_reducible rfl
       rotate_left
       ·
        simp only [Act.put, put_x, i64_w, i32_w]
        rfl
       refine pure_ (i := 12) (N := some 17) (v := ?_) (a' := ?_) (bz 13 8191) rfl rfl (any_of HT_.out (by kernel_rfl)) (fun _ _ _ h => h) (Or.inl ⟨by rfl, ?_⟩) ?_ ?_
       rotate_left
       ·
        intro w'
        go_simp
        with_reducible rfl
       rotate_left
       ·
        simp only [Act.put, put_x, i64_w, i32_w]
        rfl
       refine done_ (done_of HT_.out (by kernel_rfl)) ?_
       go_upto_region 14 with (fail)
       go_cut [75] (fun v75 wc => ∃ (kq : Nat) (x75_28 : Bool), v75 = .bool x75_28 ∧ Aside0 (swarflaw07_ShipMost.j1 kq t1200 t1203 t1205 x9_1 x10_1 x11_1 t1211 t1217 x75_28 t1185 t1186 t1187 t1188 t1191 t1192 t1195 = some r) ∧ Aside0 (kq ≤ k1) ∧ Aside0 (Kd.R (Kd.int .i64) 3 wc w.heap.size (fun _ => True) v1201 t1200) ∧ Aside0 (Kd.N (Kd.slice 3 (Kd.int .i64)) 27 wc w.heap.size (fun k_ => some k_ ≠ (v1201 : Value).ownBlock ∧ some k_ ≠ ((.slice Ao17 t1188.length co17) : Value).ownBlock ∧ some k_ ≠ ((.slice Ao18 t1192.length co18) : Value).ownBlock ∧ some k_ ≠ ((.slice Ao19 t1195.length co19) : Value).ownBlock ∧ k_ ≠ gb1199 ∧ k_ ≠ gb1215) (.slice (some ad1208) t1205.length co30) t1205) ∧ Aside0 (Kd.R k85 85 wc w.heap.size (fun _ => True) (.slice Ao17 t1188.length co17) t1188) ∧ Aside0 (Kd.N k59 59 wc w.heap.size (fun k_ => some k_ ≠ (v1201 : Value).ownBlock ∧ some k_ ≠ ((.slice (some ad1208) t1205.length co30) : Value).ownBlock ∧ some k_ ≠ ((.slice Ao17 t1188.length co17) : Value).ownBlock ∧ some k_ ≠ ((.slice Ao19 t1195.length co19) : Value).ownBlock ∧ k_ ≠ gb1199 ∧ k_ ≠ gb1215) (.slice Ao18 t1192.length co18) t1192) ∧ Aside0 (Kd.R k79 79 wc w.heap.size (fun _ => True) (.slice Ao19 t1195.length co19) t1195) ∧ Aside0 (wc.heap[gb1199]? = some (.cells #[.int .i64 t1185, .int .i64 t1186, .int .i64 t1187, (.slice Ao17 t1188.length co17), .int .i64 t1191, (.slice Ao18 t1192.length co18), (.slice Ao19 t1195.length co19)] 26 (0, 0))) ∧ Aside0 (wc.heap[gb1215]? = some (.cells #[.int .i64 t1212, .int .i64 t1213] 56 (0, 0))) ∧ Aside0 (Kd.C (Kd.int .i64) wc A1216_0 (rd_L7 t1205 x11_1).length (rd_L7 t1205 x11_1)) ∧ Aside0 (Below w.heap.size w wc))
       case first =>
        have H := HC29.out
        clear HC29
        by_cases c42 : t1214 = 0
        ·
         rw [if_pos c42] at H
         have c42b0 : (t1214 == 0) = true := beq_iff_eq.mpr c42
         have c42b1 : (t1214 != 0) = false := bne_eq_false_iff_eq.mpr c42
         clear c42
         (first | rw [c42b0] | (simp only [i64_w, i32_w]; rw [c42b0]) | skip)
         have H' := Aside0.mk H
         clear H
         go_wp2
         go_meet
         case rel => exact ⟨_, ((t1221 != 0)), (by first | rfl | (simp; done) | (simp [*]; done)), H', ⟨by have := HK1.out; first | omega | exact Nat.le_refl _⟩, ⟨by (with_reducible repeat (first | apply Kd.R_alloc | apply Kd.R_drewN | apply Kd.R_drew)); exact HO_5.out⟩, ⟨by (with_reducible repeat (first | apply Kd.N_alloc | apply Kd.N_drewN | apply Kd.N_drew)); exact Kd.N_mono HO_8.out (fun _ hk => ⟨hk.1.1, ⟨hk.1.2.1, ⟨hk.1.2.2.1, ⟨hk.1.2.2.2.1, ⟨hk.1.2.2.2.2.1, hk.1.2.2.2.2.2⟩⟩⟩⟩⟩)⟩, ⟨by (with_reducible repeat (first | apply Kd.R_alloc | apply Kd.R_drewN | apply Kd.R_drew)); exact HO_1200003.out⟩, ⟨by (with_reducible repeat (first | apply Kd.N_alloc | apply Kd.N_drewN | apply Kd.N_drew)); exact Kd.N_mono HO_1200005.out (fun _ hk => ⟨hk.1.1, ⟨hk.1.2.1, ⟨hk.1.2.2.1, ⟨hk.1.2.2.2.1, ⟨hk.1.2.2.2.2.1, hk.1.2.2.2.2.2⟩⟩⟩⟩⟩)⟩, ⟨by (with_reducible repeat (first | apply Kd.R_alloc | apply Kd.R_drewN | apply Kd.R_drew)); exact HO_1200006.out⟩, ⟨blk_x BK1199.out⟩, ⟨blk_x BK1215.out⟩, ⟨by repeat (first | (with_reducible exact HR1216_0.out) | (with_reducible refine Kd.C_alloc ?_ _) | (with_reducible refine Kd.C_drewN ?_ _) | (with_reducible refine Kd.C_drew ?_) | exact HR1216_0.out)⟩, ⟨by exact below_y HB.out⟩⟩
        ·
         rw [if_neg c42] at H
         have c42b0 : (t1214 == 0) = false := beq_eq_false_iff_ne.mpr c42
         have c42b1 : (t1214 != 0) = true := bne_iff_ne.mpr c42
         (first | rw [c42b0] | (simp only [i64_w, i32_w]; rw [c42b0]) | skip)
         have H' := Aside0.mk H
         clear H
         go_wp2
         go_meet
         case rel => exact ⟨_, (true), (by first | rfl | (simp; done) | (simp [*]; done)), H', ⟨by have := HK1.out; first | omega | exact Nat.le_refl _⟩, ⟨by (with_reducible repeat (first | apply Kd.R_alloc | apply Kd.R_drewN | apply Kd.R_drew)); exact HO_5.out⟩, ⟨by (with_reducible repeat (first | apply Kd.N_alloc | apply Kd.N_drewN | apply Kd.N_drew)); exact Kd.N_mono HO_8.out (fun _ hk => ⟨hk.1.1, ⟨hk.1.2.1, ⟨hk.1.2.2.1, ⟨hk.1.2.2.2.1, ⟨hk.1.2.2.2.2.1, hk.1.2.2.2.2.2⟩⟩⟩⟩⟩)⟩, ⟨by (with_reducible repeat (first | apply Kd.R_alloc | apply Kd.R_drewN | apply Kd.R_drew)); exact HO_1200003.out⟩, ⟨by (with_reducible repeat (first | apply Kd.N_alloc | apply Kd.N_drewN | apply Kd.N_drew)); exact Kd.N_mono HO_1200005.out (fun _ hk => ⟨hk.1.1, ⟨hk.1.2.1, ⟨hk.1.2.2.1, ⟨hk.1.2.2.2.1, ⟨hk.1.2.2.2.2.1, hk.1.2.2.2.2.2⟩⟩⟩⟩⟩)⟩, ⟨by (with_reducible repeat (first | apply Kd.R_alloc | apply Kd.R_drewN | apply Kd.R_drew)); exact HO_1200006.out⟩, ⟨blk_x BK1199.out⟩, ⟨blk_x BK1215.out⟩, ⟨by repeat (first | (with_reducible exact HR1216_0.out) | (with_reducible refine Kd.C_alloc ?_ _) | (with_reducible refine Kd.C_drewN ?_ _) | (with_reducible refine Kd.C_drew ?_) | exact HR1216_0.out)⟩, ⟨by exact below_y HB.out⟩⟩
       case rest =>
        clear HC29
        obtain ⟨kq, x75_28, rfl, HA, HJ28, HO_5, HO_8, HO_1200003, HO_1200005, HO_1200006, BK1199, BK1215, HR1216_0, HB⟩ := hcut
        cases kq with
        | zero => exact absurd HA.out (by simp [swarflaw07_ShipMost.j1])
        | succ kj28 =>
         have H := HA.out
         clear HA
         simp only [swarflaw07_ShipMost.j1] at H
         by_cases c43 : x75_28 = true
         ·
          subst c43
          have H1 : (some false) = some r := by rw [if_pos rfl] at H; exact H
          clear H
          have H := H1
          clear H1
          exact absurd ((Option.some.inj H).trans hrt.out) (by decide)
         ·
          replace c43 := Bool.eq_false_iff.mpr c43
          subst c43
          have H1 : (swarflaw07_ShipMost.l1 kj28 t1200 t1203 t1205 x9_1 x10_1 x11_1 t1211 t1217 0 0 t1185 t1186 t1187 t1188 t1191 t1192 t1195) = some r := by rw [if_neg (show ¬ (false = true) by decide)] at H; exact H
          clear H
          have H := H1
          clear H1
          have H' := Aside0.mk H
          clear H
          go_wp2
          go_loopg [18, 19] kj28 (fun kq v18 v19 w' => ∃ (x18_3 : Int) (x19_3 : Int), v18 = .int .i64 x18_3 ∧ v19 = .int .i64 x19_3 ∧ Aside0 (swarflaw07_ShipMost.l1 kq t1200 t1203 t1205 x9_1 x10_1 x11_1 t1211 t1217 x18_3 x19_3 t1185 t1186 t1187 t1188 t1191 t1192 t1195 = some r) ∧ Aside0 (kq ≤ kj28) ∧ Aside0 (Kd.R (Kd.int .i64) 3 w' w.heap.size (fun _ => True) v1201 t1200) ∧ Aside0 (Kd.N (Kd.slice 3 (Kd.int .i64)) 27 w' w.heap.size (fun k_ => some k_ ≠ (v1201 : Value).ownBlock ∧ some k_ ≠ ((.slice Ao17 t1188.length co17) : Value).ownBlock ∧ some k_ ≠ ((.slice Ao18 t1192.length co18) : Value).ownBlock ∧ some k_ ≠ ((.slice Ao19 t1195.length co19) : Value).ownBlock ∧ k_ ≠ gb1199 ∧ k_ ≠ gb1215) (.slice (some ad1208) t1205.length co30) t1205) ∧ Aside0 (Kd.R k85 85 w' w.heap.size (fun _ => True) (.slice Ao17 t1188.length co17) t1188) ∧ Aside0 (Kd.N k59 59 w' w.heap.size (fun k_ => some k_ ≠ (v1201 : Value).ownBlock ∧ some k_ ≠ ((.slice (some ad1208) t1205.length co30) : Value).ownBlock ∧ some k_ ≠ ((.slice Ao17 t1188.length co17) : Value).ownBlock ∧ some k_ ≠ ((.slice Ao19 t1195.length co19) : Value).ownBlock ∧ k_ ≠ gb1199 ∧ k_ ≠ gb1215) (.slice Ao18 t1192.length co18) t1192) ∧ Aside0 (Kd.R k79 79 w' w.heap.size (fun _ => True) (.slice Ao19 t1195.length co19) t1195) ∧ Aside0 (w'.heap[gb1199]? = some (.cells #[.int .i64 t1185, .int .i64 t1186, .int .i64 t1187, (.slice Ao17 t1188.length co17), .int .i64 t1191, (.slice Ao18 t1192.length co18), (.slice Ao19 t1195.length co19)] 26 (0, 0))) ∧ Aside0 (w'.heap[gb1215]? = some (.cells #[.int .i64 t1212, .int .i64 t1213] 56 (0, 0))) ∧ Aside0 (Kd.C (Kd.int .i64) w' A1216_0 (rd_L7 t1205 x11_1).length (rd_L7 t1205 x11_1)) ∧ Aside0 (Below w.heap.size w w'))
          case atStart => exact ⟨(0), (0), (by first | rfl | (simp; done) | (simp [*]; done)), (by first | rfl | (simp; done) | (simp [*]; done)), H', ⟨Nat.le_refl _⟩, ⟨by (with_reducible repeat (first | apply Kd.R_alloc | apply Kd.R_drewN | apply Kd.R_drew)); exact HO_5.out⟩, ⟨by (with_reducible repeat (first | apply Kd.N_alloc | apply Kd.N_drewN | apply Kd.N_drew)); exact HO_8.out⟩, ⟨by (with_reducible repeat (first | apply Kd.R_alloc | apply Kd.R_drewN | apply Kd.R_drew)); exact HO_1200003.out⟩, ⟨by (with_reducible repeat (first | apply Kd.N_alloc | apply Kd.N_drewN | apply Kd.N_drew)); exact HO_1200005.out⟩, ⟨by (with_reducible repeat (first | apply Kd.R_alloc | apply Kd.R_drewN | apply Kd.R_drew)); exact HO_1200006.out⟩, ⟨blk_x BK1199.out⟩, ⟨blk_x BK1215.out⟩, ⟨by repeat (first | (with_reducible exact HR1216_0.out) | (with_reducible refine Kd.C_alloc ?_ _) | (with_reducible refine Kd.C_drewN ?_ _) | (with_reducible refine Kd.C_drew ?_) | exact HR1216_0.out)⟩, ⟨by exact below_y HB.out⟩⟩
          case round =>
           clear H'
           obtain ⟨x18_3, x19_3, rfl, rfl, HA, HK3, HO_5, HO_8, HO_1200003, HO_1200005, HO_1200006, BK1199, BK1215, HR1216_0, HB⟩ := hrel
           cases gk with
           | zero => exact absurd HA.out (by simp [swarflaw07_ShipMost.l1])
           | succ k3 =>
            have H := HA.out
            clear HA
            simp only [swarflaw07_ShipMost.l1] at H
            by_cases c44 : 0 ≤ x11_1
            ·
             rw [if_pos c44] at H
             have c44b0 : decide (0 ≤ x11_1) = true := decide_eq_true c44
             clear c44
             by_cases c45 : x11_1 < (t1205.length : Int)
             ·
              rw [if_pos c45] at H
              have c45b0 : decide (x11_1 < (t1205.length : Int)) = true := decide_eq_true c45
              clear c45
              by_cases c46 : x19_3 < ((rd_L7 t1205 x11_1).length : Int)
              ·
               rw [if_pos c46] at H
               have c46b0 : decide (x19_3 < ((rd_L7 t1205 x11_1).length : Int)) = true := decide_eq_true c46
               clear c46
               by_cases c47 : 0 ≤ x19_3
               ·
                rw [if_pos c47] at H
                have c47b0 : decide (0 ≤ x19_3) = true := decide_eq_true c47
                clear c47
                by_cases c48 : (rd (rd_L7 t1205 x11_1) x19_3) ≥ 0
                ·
                 rw [if_pos c48] at H
                 have c48b0 : decide (0 ≤ (rd (rd_L7 t1205 x11_1) x19_3)) = true := decide_eq_true c48
                 clear c48
                 by_cases c49 : x19_3 < (t1195.length : Int)
                 ·
                  rw [if_pos c49] at H
                  have c49b0 : decide (x19_3 < (t1195.length : Int)) = true := decide_eq_true c49
                  clear c49
                  have H' := Aside0.mk H
                  clear H
                  have p1222 : 0 ≤ (x11_1 : Int) := of_x
                  have q1222 : x11_1 < (t1205.length : Int) := of_x
                  obtain ⟨ad1222, A1222_0, c1222_0, e1222, hx1222_0, hl1222_0, hi1222_0⟩ := at_L7 (Kd.N_reads' HO_8.out).2.2 x11_1 p1222 q1222
                  obtain rfl : ad1208 = ad1222 := (by injection e1222)
                  obtain ⟨ce1222, hce1222, hMe1222, hcc1222⟩ := Kd.N_get HO_8.out [] x11_1 p1222 (by first | exact q1222 | exact of_x | (have e_ := (Kd.N_reads' HO_8.out).1; omega))
                  obtain ⟨ua1222_0, uc1222_0, rfl, ul1222_0, ge1222_0⟩ := Kd.FK_slice_open hMe1222
                  have hv1222_0 := hcc1222 0 _ rfl
                  rw [Nat.add_zero, show ((Kd.slice 3 (Kd.int .i64))).sz = 1 from rfl, Nat.mul_one] at hv1222_0
                  replace hv1222_0 := Option.some.inj (hv1222_0.symm.trans hx1222_0)
                  injection hv1222_0 with hva_ hvn_ hvc_
                  rw [hva_] at ge1222_0
                  rw [hvc_] at ul1222_0
                  have HL1222_0 := Aside0.mk (show Kd.V (Kd.int .i64) 3 _ w.heap.size _ _ (rd_L7 t1205 x11_1) from Kd.V_mk ul1222_0 ge1222_0)
                  clear hva_ hvn_ hvc_ ge1222_0 ul1222_0 hcc1222 hce1222
                  have HR1222_0 := Aside0.mk hi1222_0
                  have HC1222_0 := Aside0.mk hl1222_0
                  clear hi1222_0 hl1222_0
                  replace p1222 := eq_true p1222
                  replace q1222 := eq_true q1222
                  have p1223 : 0 ≤ (x11_1 : Int) := of_x
                  have q1223 : x11_1 < (t1205.length : Int) := of_x
                  obtain ⟨ad1223, A1223_0, c1223_0, e1223, hx1223_0, hl1223_0, hi1223_0⟩ := at_L7 (Kd.N_reads' HO_8.out).2.2 x11_1 p1223 q1223
                  obtain rfl : ad1208 = ad1223 := (by injection e1223)
                  obtain ⟨ce1223, hce1223, hMe1223, hcc1223⟩ := Kd.N_get HO_8.out [] x11_1 p1223 (by first | exact q1223 | exact of_x | (have e_ := (Kd.N_reads' HO_8.out).1; omega))
                  obtain ⟨ua1223_0, uc1223_0, rfl, ul1223_0, ge1223_0⟩ := Kd.FK_slice_open hMe1223
                  have hv1223_0 := hcc1223 0 _ rfl
                  rw [Nat.add_zero, show ((Kd.slice 3 (Kd.int .i64))).sz = 1 from rfl, Nat.mul_one] at hv1223_0
                  replace hv1223_0 := Option.some.inj (hv1223_0.symm.trans hx1223_0)
                  injection hv1223_0 with hva_ hvn_ hvc_
                  rw [hva_] at ge1223_0
                  rw [hvc_] at ul1223_0
                  have HL1223_0 := Aside0.mk (show Kd.V (Kd.int .i64) 3 _ w.heap.size _ _ (rd_L7 t1205 x11_1) from Kd.V_mk ul1223_0 ge1223_0)
                  clear hva_ hvn_ hvc_ ge1223_0 ul1223_0 hcc1223 hce1223
                  have HR1223_0 := Aside0.mk hi1223_0
                  have HC1223_0 := Aside0.mk hl1223_0
                  clear hi1223_0 hl1223_0
                  replace p1223 := eq_true p1223
                  replace q1223 := eq_true q1223
                  have ea_ := Option.some.inj (hx1222_0.symm.trans hx1223_0)
                  injection ea_ with ea_ en_ ec_
                  subst ea_
                  subst ec_
                  clear en_
                  have p1224 : 0 ≤ (x19_3 : Int) := of_x
                  have q1224 : x19_3 < ((rd_L7 t1205 x11_1).length : Int) := of_x
                  obtain ⟨ad1224, e1224, hx1224_0⟩ := Kd.at_int (by repeat (first | (with_reducible exact HR1223_0.out) | (with_reducible refine Kd.C_alloc ?_ _) | (with_reducible refine Kd.C_drewN ?_ _) | (with_reducible refine Kd.C_drew ?_) | exact HR1223_0.out)) x19_3 p1224 q1224
                  cases e1224
                  replace p1224 := eq_true p1224
                  replace q1224 := eq_true q1224
                  have hnb50 := NB1199_1215.out
                  have hnc50 := NB1215_1199.out
                  obtain ⟨_, _, _, _, _, _, _⟩ := cz7 BK1199
                  have hfz51_0 := blk_frozen BK1199.out
                  have p1225 : 0 ≤ (x19_3 : Int) := of_x
                  have q1225 : x19_3 < (t1195.length : Int) := of_x
                  obtain ⟨ad1225, e1225, hx1225_0, hx1225_1, hx1225_2⟩ := at_T79 (Kd.R_reads' HO_1200006.out).2.2 x19_3 p1225 q1225
                  cases e1225
                  replace p1225 := eq_true p1225
                  replace q1225 := eq_true q1225
                  go_wp2
                  go_roundg k3
                  case measure => have := HK1.out; have := HJ28.out; have := HK3.out; omega
                  case rel => exact ⟨(wrap64 (x18_3 + ((rd_T79 t1195 x19_3).f1))), (wrap64 (x19_3 + 1)), (by first | rfl | (simp; done) | (simp [*]; done)), (by first | rfl | (simp; done) | (simp [*]; done)), H', ⟨by have := HK1.out; have := HJ28.out; have := HK3.out; omega⟩, ⟨by (with_reducible repeat (first | apply Kd.R_alloc | apply Kd.R_drewN | apply Kd.R_drew)); exact HO_5.out⟩, ⟨by (with_reducible repeat (first | apply Kd.N_alloc | apply Kd.N_drewN | apply Kd.N_drew)); exact HO_8.out⟩, ⟨by (with_reducible repeat (first | apply Kd.R_alloc | apply Kd.R_drewN | apply Kd.R_drew)); exact HO_1200003.out⟩, ⟨by (with_reducible repeat (first | apply Kd.N_alloc | apply Kd.N_drewN | apply Kd.N_drew)); exact HO_1200005.out⟩, ⟨by (with_reducible repeat (first | apply Kd.R_alloc | apply Kd.R_drewN | apply Kd.R_drew)); exact HO_1200006.out⟩, ⟨blk_x BK1199.out⟩, ⟨blk_x BK1215.out⟩, ⟨by repeat (first | (with_reducible exact HR1216_0.out) | (with_reducible refine Kd.C_alloc ?_ _) | (with_reducible refine Kd.C_drewN ?_ _) | (with_reducible refine Kd.C_drew ?_) | exact HR1216_0.out)⟩, ⟨by exact below_y HB.out⟩⟩
                 ·
                  rw [if_neg c49] at H
                  exact absurd H (by simp)
                ·
                 rw [if_neg c48] at H
                 have c48b0 : decide (0 ≤ (rd (rd_L7 t1205 x11_1) x19_3)) = false := decide_eq_false c48
                 clear c48
                 have H' := Aside0.mk H
                 clear H
                 have p1222 : 0 ≤ (x11_1 : Int) := of_x
                 have q1222 : x11_1 < (t1205.length : Int) := of_x
                 obtain ⟨ad1222, A1222_0, c1222_0, e1222, hx1222_0, hl1222_0, hi1222_0⟩ := at_L7 (Kd.N_reads' HO_8.out).2.2 x11_1 p1222 q1222
                 obtain rfl : ad1208 = ad1222 := (by injection e1222)
                 obtain ⟨ce1222, hce1222, hMe1222, hcc1222⟩ := Kd.N_get HO_8.out [] x11_1 p1222 (by first | exact q1222 | exact of_x | (have e_ := (Kd.N_reads' HO_8.out).1; omega))
                 obtain ⟨ua1222_0, uc1222_0, rfl, ul1222_0, ge1222_0⟩ := Kd.FK_slice_open hMe1222
                 have hv1222_0 := hcc1222 0 _ rfl
                 rw [Nat.add_zero, show ((Kd.slice 3 (Kd.int .i64))).sz = 1 from rfl, Nat.mul_one] at hv1222_0
                 replace hv1222_0 := Option.some.inj (hv1222_0.symm.trans hx1222_0)
                 injection hv1222_0 with hva_ hvn_ hvc_
                 rw [hva_] at ge1222_0
                 rw [hvc_] at ul1222_0
                 have HL1222_0 := Aside0.mk (show Kd.V (Kd.int .i64) 3 _ w.heap.size _ _ (rd_L7 t1205 x11_1) from Kd.V_mk ul1222_0 ge1222_0)
                 clear hva_ hvn_ hvc_ ge1222_0 ul1222_0 hcc1222 hce1222
                 have HR1222_0 := Aside0.mk hi1222_0
                 have HC1222_0 := Aside0.mk hl1222_0
                 clear hi1222_0 hl1222_0
                 replace p1222 := eq_true p1222
                 replace q1222 := eq_true q1222
                 have p1223 : 0 ≤ (x11_1 : Int) := of_x
                 have q1223 : x11_1 < (t1205.length : Int) := of_x
                 obtain ⟨ad1223, A1223_0, c1223_0, e1223, hx1223_0, hl1223_0, hi1223_0⟩ := at_L7 (Kd.N_reads' HO_8.out).2.2 x11_1 p1223 q1223
                 obtain rfl : ad1208 = ad1223 := (by injection e1223)
                 obtain ⟨ce1223, hce1223, hMe1223, hcc1223⟩ := Kd.N_get HO_8.out [] x11_1 p1223 (by first | exact q1223 | exact of_x | (have e_ := (Kd.N_reads' HO_8.out).1; omega))
                 obtain ⟨ua1223_0, uc1223_0, rfl, ul1223_0, ge1223_0⟩ := Kd.FK_slice_open hMe1223
                 have hv1223_0 := hcc1223 0 _ rfl
                 rw [Nat.add_zero, show ((Kd.slice 3 (Kd.int .i64))).sz = 1 from rfl, Nat.mul_one] at hv1223_0
                 replace hv1223_0 := Option.some.inj (hv1223_0.symm.trans hx1223_0)
                 injection hv1223_0 with hva_ hvn_ hvc_
                 rw [hva_] at ge1223_0
                 rw [hvc_] at ul1223_0
                 have HL1223_0 := Aside0.mk (show Kd.V (Kd.int .i64) 3 _ w.heap.size _ _ (rd_L7 t1205 x11_1) from Kd.V_mk ul1223_0 ge1223_0)
                 clear hva_ hvn_ hvc_ ge1223_0 ul1223_0 hcc1223 hce1223
                 have HR1223_0 := Aside0.mk hi1223_0
                 have HC1223_0 := Aside0.mk hl1223_0
                 clear hi1223_0 hl1223_0
                 replace p1223 := eq_true p1223
                 replace q1223 := eq_true q1223
                 have ea_ := Option.some.inj (hx1222_0.symm.trans hx1223_0)
                 injection ea_ with ea_ en_ ec_
                 subst ea_
                 subst ec_
                 clear en_
                 have p1224 : 0 ≤ (x19_3 : Int) := of_x
                 have q1224 : x19_3 < ((rd_L7 t1205 x11_1).length : Int) := of_x
                 obtain ⟨ad1224, e1224, hx1224_0⟩ := Kd.at_int (by repeat (first | (with_reducible exact HR1223_0.out) | (with_reducible refine Kd.C_alloc ?_ _) | (with_reducible refine Kd.C_drewN ?_ _) | (with_reducible refine Kd.C_drew ?_) | exact HR1223_0.out)) x19_3 p1224 q1224
                 cases e1224
                 replace p1224 := eq_true p1224
                 replace q1224 := eq_true q1224
                 go_wp2
                 go_roundg k3
                 case measure => have := HK1.out; have := HJ28.out; have := HK3.out; omega
                 case rel => exact ⟨(x18_3), (wrap64 (x19_3 + 1)), (by first | rfl | (simp; done) | (simp [*]; done)), (by first | rfl | (simp; done) | (simp [*]; done)), H', ⟨by have := HK1.out; have := HJ28.out; have := HK3.out; omega⟩, ⟨by (with_reducible repeat (first | apply Kd.R_alloc | apply Kd.R_drewN | apply Kd.R_drew)); exact HO_5.out⟩, ⟨by (with_reducible repeat (first | apply Kd.N_alloc | apply Kd.N_drewN | apply Kd.N_drew)); exact HO_8.out⟩, ⟨by (with_reducible repeat (first | apply Kd.R_alloc | apply Kd.R_drewN | apply Kd.R_drew)); exact HO_1200003.out⟩, ⟨by (with_reducible repeat (first | apply Kd.N_alloc | apply Kd.N_drewN | apply Kd.N_drew)); exact HO_1200005.out⟩, ⟨by (with_reducible repeat (first | apply Kd.R_alloc | apply Kd.R_drewN | apply Kd.R_drew)); exact HO_1200006.out⟩, ⟨blk_x BK1199.out⟩, ⟨blk_x BK1215.out⟩, ⟨by repeat (first | (with_reducible exact HR1216_0.out) | (with_reducible refine Kd.C_alloc ?_ _) | (with_reducible refine Kd.C_drewN ?_ _) | (with_reducible refine Kd.C_drew ?_) | exact HR1216_0.out)⟩, ⟨by exact below_y HB.out⟩⟩
               ·
                rw [if_neg c47] at H
                exact absurd H (by simp)
              ·
               rw [if_neg c46] at H
               have c46b0 : decide (x19_3 < ((rd_L7 t1205 x11_1).length : Int)) = false := decide_eq_false c46
               clear c46
               by_cases c52 : t1211 = true
               ·
                subst c52
                have H1 : (if t1217 = 1 then (if x18_3 > x9_1 then (swarflaw07_ShipMost.l0 k3 t1200 t1203 t1205 x18_3 x11_1 (wrap64 (x11_1 + 1)) t1185 t1186 t1187 t1188 t1191 t1192 t1195) else (swarflaw07_ShipMost.l0 k3 t1200 t1203 t1205 x9_1 x10_1 (wrap64 (x11_1 + 1)) t1185 t1186 t1187 t1188 t1191 t1192 t1195)) else (swarflaw07_ShipMost.l0 k3 t1200 t1203 t1205 x9_1 x10_1 (wrap64 (x11_1 + 1)) t1185 t1186 t1187 t1188 t1191 t1192 t1195)) = some r := by rw [if_pos rfl] at H; exact H
                clear H
                have H := H1
                clear H1
                by_cases c53 : t1217 = 1
                ·
                 rw [if_pos c53] at H
                 have c53b0 : (t1217 == 1) = true := beq_iff_eq.mpr c53
                 have c53b1 : (t1217 != 1) = false := bne_eq_false_iff_eq.mpr c53
                 clear c53
                 by_cases c54 : x18_3 > x9_1
                 ·
                  rw [if_pos c54] at H
                  have c54b0 : decide (x9_1 < x18_3) = true := decide_eq_true c54
                  clear c54
                  have H' := Aside0.mk H
                  clear H
                  have p1222 : 0 ≤ (x11_1 : Int) := of_x
                  have q1222 : x11_1 < (t1205.length : Int) := of_x
                  obtain ⟨ad1222, A1222_0, c1222_0, e1222, hx1222_0, hl1222_0, hi1222_0⟩ := at_L7 (Kd.N_reads' HO_8.out).2.2 x11_1 p1222 q1222
                  obtain rfl : ad1208 = ad1222 := (by injection e1222)
                  obtain ⟨ce1222, hce1222, hMe1222, hcc1222⟩ := Kd.N_get HO_8.out [] x11_1 p1222 (by first | exact q1222 | exact of_x | (have e_ := (Kd.N_reads' HO_8.out).1; omega))
                  obtain ⟨ua1222_0, uc1222_0, rfl, ul1222_0, ge1222_0⟩ := Kd.FK_slice_open hMe1222
                  have hv1222_0 := hcc1222 0 _ rfl
                  rw [Nat.add_zero, show ((Kd.slice 3 (Kd.int .i64))).sz = 1 from rfl, Nat.mul_one] at hv1222_0
                  replace hv1222_0 := Option.some.inj (hv1222_0.symm.trans hx1222_0)
                  injection hv1222_0 with hva_ hvn_ hvc_
                  rw [hva_] at ge1222_0
                  rw [hvc_] at ul1222_0
                  have HL1222_0 := Aside0.mk (show Kd.V (Kd.int .i64) 3 _ w.heap.size _ _ (rd_L7 t1205 x11_1) from Kd.V_mk ul1222_0 ge1222_0)
                  clear hva_ hvn_ hvc_ ge1222_0 ul1222_0 hcc1222 hce1222
                  have HR1222_0 := Aside0.mk hi1222_0
                  have HC1222_0 := Aside0.mk hl1222_0
                  clear hi1222_0 hl1222_0
                  replace p1222 := eq_true p1222
                  replace q1222 := eq_true q1222
                  go_wp2
                  go_roundg k3
                  case measure => have := HK1.out; have := HJ28.out; have := HK3.out; omega
                  case rel => exact ⟨(x18_3), (x11_1), (wrap64 (x11_1 + 1)), (by first | rfl | (simp; done) | (simp [*]; done)), (by first | rfl | (simp; done) | (simp [*]; done)), (by first | rfl | (simp; done) | (simp [*]; done)), H', ⟨by have := HK1.out; have := HJ28.out; have := HK3.out; omega⟩, ⟨by (with_reducible repeat (first | apply Kd.R_alloc | apply Kd.R_drewN | apply Kd.R_drew)); exact HO_5.out⟩, ⟨by (with_reducible repeat (first | apply Kd.N_alloc | apply Kd.N_drewN | apply Kd.N_drew)); exact Kd.N_mono HO_8.out (fun _ hk => ⟨hk.1, ⟨hk.2.1, ⟨hk.2.2.1, ⟨hk.2.2.2.1, hk.2.2.2.2.1⟩⟩⟩⟩)⟩, ⟨by (with_reducible repeat (first | apply Kd.R_alloc | apply Kd.R_drewN | apply Kd.R_drew)); exact HO_1200003.out⟩, ⟨by (with_reducible repeat (first | apply Kd.N_alloc | apply Kd.N_drewN | apply Kd.N_drew)); exact Kd.N_mono HO_1200005.out (fun _ hk => ⟨hk.1, ⟨hk.2.1, ⟨hk.2.2.1, ⟨hk.2.2.2.1, hk.2.2.2.2.1⟩⟩⟩⟩)⟩, ⟨by (with_reducible repeat (first | apply Kd.R_alloc | apply Kd.R_drewN | apply Kd.R_drew)); exact HO_1200006.out⟩, ⟨blk_x BK1199.out⟩, ⟨by exact below_y HB.out⟩⟩
                 ·
                  rw [if_neg c54] at H
                  have c54b0 : decide (x9_1 < x18_3) = false := decide_eq_false c54
                  clear c54
                  have H' := Aside0.mk H
                  clear H
                  have p1222 : 0 ≤ (x11_1 : Int) := of_x
                  have q1222 : x11_1 < (t1205.length : Int) := of_x
                  obtain ⟨ad1222, A1222_0, c1222_0, e1222, hx1222_0, hl1222_0, hi1222_0⟩ := at_L7 (Kd.N_reads' HO_8.out).2.2 x11_1 p1222 q1222
                  obtain rfl : ad1208 = ad1222 := (by injection e1222)
                  obtain ⟨ce1222, hce1222, hMe1222, hcc1222⟩ := Kd.N_get HO_8.out [] x11_1 p1222 (by first | exact q1222 | exact of_x | (have e_ := (Kd.N_reads' HO_8.out).1; omega))
                  obtain ⟨ua1222_0, uc1222_0, rfl, ul1222_0, ge1222_0⟩ := Kd.FK_slice_open hMe1222
                  have hv1222_0 := hcc1222 0 _ rfl
                  rw [Nat.add_zero, show ((Kd.slice 3 (Kd.int .i64))).sz = 1 from rfl, Nat.mul_one] at hv1222_0
                  replace hv1222_0 := Option.some.inj (hv1222_0.symm.trans hx1222_0)
                  injection hv1222_0 with hva_ hvn_ hvc_
                  rw [hva_] at ge1222_0
                  rw [hvc_] at ul1222_0
                  have HL1222_0 := Aside0.mk (show Kd.V (Kd.int .i64) 3 _ w.heap.size _ _ (rd_L7 t1205 x11_1) from Kd.V_mk ul1222_0 ge1222_0)
                  clear hva_ hvn_ hvc_ ge1222_0 ul1222_0 hcc1222 hce1222
                  have HR1222_0 := Aside0.mk hi1222_0
                  have HC1222_0 := Aside0.mk hl1222_0
                  clear hi1222_0 hl1222_0
                  replace p1222 := eq_true p1222
                  replace q1222 := eq_true q1222
                  go_wp2
                  go_roundg k3
                  case measure => have := HK1.out; have := HJ28.out; have := HK3.out; omega
                  case rel => exact ⟨(x9_1), (x10_1), (wrap64 (x11_1 + 1)), (by first | rfl | (simp; done) | (simp [*]; done)), (by first | rfl | (simp; done) | (simp [*]; done)), (by first | rfl | (simp; done) | (simp [*]; done)), H', ⟨by have := HK1.out; have := HJ28.out; have := HK3.out; omega⟩, ⟨by (with_reducible repeat (first | apply Kd.R_alloc | apply Kd.R_drewN | apply Kd.R_drew)); exact HO_5.out⟩, ⟨by (with_reducible repeat (first | apply Kd.N_alloc | apply Kd.N_drewN | apply Kd.N_drew)); exact Kd.N_mono HO_8.out (fun _ hk => ⟨hk.1, ⟨hk.2.1, ⟨hk.2.2.1, ⟨hk.2.2.2.1, hk.2.2.2.2.1⟩⟩⟩⟩)⟩, ⟨by (with_reducible repeat (first | apply Kd.R_alloc | apply Kd.R_drewN | apply Kd.R_drew)); exact HO_1200003.out⟩, ⟨by (with_reducible repeat (first | apply Kd.N_alloc | apply Kd.N_drewN | apply Kd.N_drew)); exact Kd.N_mono HO_1200005.out (fun _ hk => ⟨hk.1, ⟨hk.2.1, ⟨hk.2.2.1, ⟨hk.2.2.2.1, hk.2.2.2.2.1⟩⟩⟩⟩)⟩, ⟨by (with_reducible repeat (first | apply Kd.R_alloc | apply Kd.R_drewN | apply Kd.R_drew)); exact HO_1200006.out⟩, ⟨blk_x BK1199.out⟩, ⟨by exact below_y HB.out⟩⟩
                ·
                 rw [if_neg c53] at H
                 have c53b0 : (t1217 == 1) = false := beq_eq_false_iff_ne.mpr c53
                 have c53b1 : (t1217 != 1) = true := bne_iff_ne.mpr c53
                 have H' := Aside0.mk H
                 clear H
                 have p1222 : 0 ≤ (x11_1 : Int) := of_x
                 have q1222 : x11_1 < (t1205.length : Int) := of_x
                 obtain ⟨ad1222, A1222_0, c1222_0, e1222, hx1222_0, hl1222_0, hi1222_0⟩ := at_L7 (Kd.N_reads' HO_8.out).2.2 x11_1 p1222 q1222
                 obtain rfl : ad1208 = ad1222 := (by injection e1222)
                 obtain ⟨ce1222, hce1222, hMe1222, hcc1222⟩ := Kd.N_get HO_8.out [] x11_1 p1222 (by first | exact q1222 | exact of_x | (have e_ := (Kd.N_reads' HO_8.out).1; omega))
                 obtain ⟨ua1222_0, uc1222_0, rfl, ul1222_0, ge1222_0⟩ := Kd.FK_slice_open hMe1222
                 have hv1222_0 := hcc1222 0 _ rfl
                 rw [Nat.add_zero, show ((Kd.slice 3 (Kd.int .i64))).sz = 1 from rfl, Nat.mul_one] at hv1222_0
                 replace hv1222_0 := Option.some.inj (hv1222_0.symm.trans hx1222_0)
                 injection hv1222_0 with hva_ hvn_ hvc_
                 rw [hva_] at ge1222_0
                 rw [hvc_] at ul1222_0
                 have HL1222_0 := Aside0.mk (show Kd.V (Kd.int .i64) 3 _ w.heap.size _ _ (rd_L7 t1205 x11_1) from Kd.V_mk ul1222_0 ge1222_0)
                 clear hva_ hvn_ hvc_ ge1222_0 ul1222_0 hcc1222 hce1222
                 have HR1222_0 := Aside0.mk hi1222_0
                 have HC1222_0 := Aside0.mk hl1222_0
                 clear hi1222_0 hl1222_0
                 replace p1222 := eq_true p1222
                 replace q1222 := eq_true q1222
                 go_wp2
                 go_roundg k3
                 case measure => have := HK1.out; have := HJ28.out; have := HK3.out; omega
                 case rel => exact ⟨(x9_1), (x10_1), (wrap64 (x11_1 + 1)), (by first | rfl | (simp; done) | (simp [*]; done)), (by first | rfl | (simp; done) | (simp [*]; done)), (by first | rfl | (simp; done) | (simp [*]; done)), H', ⟨by have := HK1.out; have := HJ28.out; have := HK3.out; omega⟩, ⟨by (with_reducible repeat (first | apply Kd.R_alloc | apply Kd.R_drewN | apply Kd.R_drew)); exact HO_5.out⟩, ⟨by (with_reducible repeat (first | apply Kd.N_alloc | apply Kd.N_drewN | apply Kd.N_drew)); exact Kd.N_mono HO_8.out (fun _ hk => ⟨hk.1, ⟨hk.2.1, ⟨hk.2.2.1, ⟨hk.2.2.2.1, hk.2.2.2.2.1⟩⟩⟩⟩)⟩, ⟨by (with_reducible repeat (first | apply Kd.R_alloc | apply Kd.R_drewN | apply Kd.R_drew)); exact HO_1200003.out⟩, ⟨by (with_reducible repeat (first | apply Kd.N_alloc | apply Kd.N_drewN | apply Kd.N_drew)); exact Kd.N_mono HO_1200005.out (fun _ hk => ⟨hk.1, ⟨hk.2.1, ⟨hk.2.2.1, ⟨hk.2.2.2.1, hk.2.2.2.2.1⟩⟩⟩⟩)⟩, ⟨by (with_reducible repeat (first | apply Kd.R_alloc | apply Kd.R_drewN | apply Kd.R_drew)); exact HO_1200006.out⟩, ⟨blk_x BK1199.out⟩, ⟨by exact below_y HB.out⟩⟩
               ·
                replace c52 := Bool.eq_false_iff.mpr c52
                subst c52
                have H1 : (swarflaw07_ShipMost.l0 k3 t1200 t1203 t1205 x9_1 x10_1 (wrap64 (x11_1 + 1)) t1185 t1186 t1187 t1188 t1191 t1192 t1195) = some r := by rw [if_neg (show ¬ (false = true) by decide)] at H; exact H
                clear H
                have H := H1
                clear H1
                have H' := Aside0.mk H
                clear H
                have p1222 : 0 ≤ (x11_1 : Int) := of_x
                have q1222 : x11_1 < (t1205.length : Int) := of_x
                obtain ⟨ad1222, A1222_0, c1222_0, e1222, hx1222_0, hl1222_0, hi1222_0⟩ := at_L7 (Kd.N_reads' HO_8.out).2.2 x11_1 p1222 q1222
                obtain rfl : ad1208 = ad1222 := (by injection e1222)
                obtain ⟨ce1222, hce1222, hMe1222, hcc1222⟩ := Kd.N_get HO_8.out [] x11_1 p1222 (by first | exact q1222 | exact of_x | (have e_ := (Kd.N_reads' HO_8.out).1; omega))
                obtain ⟨ua1222_0, uc1222_0, rfl, ul1222_0, ge1222_0⟩ := Kd.FK_slice_open hMe1222
                have hv1222_0 := hcc1222 0 _ rfl
                rw [Nat.add_zero, show ((Kd.slice 3 (Kd.int .i64))).sz = 1 from rfl, Nat.mul_one] at hv1222_0
                replace hv1222_0 := Option.some.inj (hv1222_0.symm.trans hx1222_0)
                injection hv1222_0 with hva_ hvn_ hvc_
                rw [hva_] at ge1222_0
                rw [hvc_] at ul1222_0
                have HL1222_0 := Aside0.mk (show Kd.V (Kd.int .i64) 3 _ w.heap.size _ _ (rd_L7 t1205 x11_1) from Kd.V_mk ul1222_0 ge1222_0)
                clear hva_ hvn_ hvc_ ge1222_0 ul1222_0 hcc1222 hce1222
                have HR1222_0 := Aside0.mk hi1222_0
                have HC1222_0 := Aside0.mk hl1222_0
                clear hi1222_0 hl1222_0
                replace p1222 := eq_true p1222
                replace q1222 := eq_true q1222
                go_wp2
                go_roundg k3
                case measure => have := HK1.out; have := HJ28.out; have := HK3.out; omega
                case rel => exact ⟨(x9_1), (x10_1), (wrap64 (x11_1 + 1)), (by first | rfl | (simp; done) | (simp [*]; done)), (by first | rfl | (simp; done) | (simp [*]; done)), (by first | rfl | (simp; done) | (simp [*]; done)), H', ⟨by have := HK1.out; have := HJ28.out; have := HK3.out; omega⟩, ⟨by (with_reducible repeat (first | apply Kd.R_alloc | apply Kd.R_drewN | apply Kd.R_drew)); exact HO_5.out⟩, ⟨by (with_reducible repeat (first | apply Kd.N_alloc | apply Kd.N_drewN | apply Kd.N_drew)); exact Kd.N_mono HO_8.out (fun _ hk => ⟨hk.1, ⟨hk.2.1, ⟨hk.2.2.1, ⟨hk.2.2.2.1, hk.2.2.2.2.1⟩⟩⟩⟩)⟩, ⟨by (with_reducible repeat (first | apply Kd.R_alloc | apply Kd.R_drewN | apply Kd.R_drew)); exact HO_1200003.out⟩, ⟨by (with_reducible repeat (first | apply Kd.N_alloc | apply Kd.N_drewN | apply Kd.N_drew)); exact Kd.N_mono HO_1200005.out (fun _ hk => ⟨hk.1, ⟨hk.2.1, ⟨hk.2.2.1, ⟨hk.2.2.2.1, hk.2.2.2.2.1⟩⟩⟩⟩)⟩, ⟨by (with_reducible repeat (first | apply Kd.R_alloc | apply Kd.R_drewN | apply Kd.R_drew)); exact HO_1200006.out⟩, ⟨blk_x BK1199.out⟩, ⟨by exact below_y HB.out⟩⟩
             ·
              rw [if_neg c45] at H
              exact absurd H (by simp)
            ·
             rw [if_neg c44] at H
             exact absurd H (by simp)
      ·
       rw [if_neg c26] at H
       have c26b0 : (t1209 == 0) = false := beq_eq_false_iff_ne.mpr c26
       have c26b1 : (t1209 != 0) = true := bne_iff_ne.mpr c26
       have H' := Aside0.mk H
       clear H
       obtain ⟨Ao55, co55, eo55⟩ := Kd.N_slice HO_8.out
       subst eo55
       try go_wp2
       replace HO_5 := Aside0.mk (Kd.R_drew HO_5.out)
       replace HO_8 := Aside0.mk (Kd.N_drew HO_8.out)
       replace HO_1200003 := Aside0.mk (Kd.R_drew HO_1200003.out)
       replace HO_1200005 := Aside0.mk (Kd.N_drew HO_1200005.out)
       replace HO_1200006 := Aside0.mk (Kd.R_drew HO_1200006.out)
       replace BK1199 := Aside0.mk (blk_drew BK1199.out)
       replace HB := Aside0.mk (below_drew1 HB.out)
       have p1208 : 0 ≤ (x11_1 : Int) := of_x
       have q1208 : x11_1 < (t1205.length : Int) := of_x
       obtain ⟨ad1208, A1208_0, c1208_0, e1208, hx1208_0, hl1208_0, hi1208_0⟩ := at_L7 (Kd.N_reads' HO_8.out).2.2 x11_1 p1208 q1208
       cases e1208
       obtain ⟨ce1208, hce1208, hMe1208, hcc1208⟩ := Kd.N_get HO_8.out [] x11_1 p1208 (by first | exact q1208 | exact of_x | (have e_ := (Kd.N_reads' HO_8.out).1; omega))
       obtain ⟨ua1208_0, uc1208_0, rfl, ul1208_0, ge1208_0⟩ := Kd.FK_slice_open hMe1208
       have hv1208_0 := hcc1208 0 _ rfl
       rw [Nat.add_zero, show ((Kd.slice 3 (Kd.int .i64))).sz = 1 from rfl, Nat.mul_one] at hv1208_0
       replace hv1208_0 := Option.some.inj (hv1208_0.symm.trans hx1208_0)
       injection hv1208_0 with hva_ hvn_ hvc_
       rw [hva_] at ge1208_0
       rw [hvc_] at ul1208_0
       have HL1208_0 := Aside0.mk (show Kd.V (Kd.int .i64) 3 _ w.heap.size _ _ (rd_L7 t1205 x11_1) from Kd.V_mk ul1208_0 ge1208_0)
       clear hva_ hvn_ hvc_ ge1208_0 ul1208_0 hcc1208 hce1208
       have HR1208_0 := Aside0.mk hi1208_0
       have HC1208_0 := Aside0.mk hl1208_0
       clear hi1208_0 hl1208_0
       replace p1208 := eq_true p1208
       replace q1208 := eq_true q1208
       refine start_ (n := 7) (S := fun w' => w'.cell? ⟨gb1199, 0, none⟩ = some (.int .i64 t1185) ∧ w'.cell? ⟨gb1199, 1, none⟩ = some (.int .i64 t1186) ∧ w'.cell? ⟨gb1199, 2, none⟩ = some (.int .i64 t1187) ∧ w'.cell? ⟨gb1199, 3, none⟩ = some (.slice Ao17 t1188.length co17) ∧ w'.cell? ⟨gb1199, 4, none⟩ = some (.int .i64 t1191) ∧ w'.cell? ⟨gb1199, 5, none⟩ = some (.slice Ao18 t1192.length co18) ∧ w'.cell? ⟨gb1199, 6, none⟩ = some (.slice Ao19 t1195.length co19) ∧ w'.cell? (ad1208.add (x11_1).toNat) = some (.slice A1208_0 (rd_L7 t1205 x11_1).length c1208_0)) (ds := []) #[false, false, false, false, false, false, false] (by kernel_rfl) rfl rfl ⟨(blk_cell BK1199.out 0).trans rfl, (blk_cell BK1199.out 1).trans rfl, (blk_cell BK1199.out 2).trans rfl, (blk_cell BK1199.out 3).trans rfl, (blk_cell BK1199.out 4).trans rfl, (blk_cell BK1199.out 5).trans rfl, (blk_cell BK1199.out 6).trans rfl, hx1208_0⟩ (fun hHeld => ?_)
       generalize wr.drew = w56 at HO_5 HO_8 HO_1200003 HO_1200005 HO_1200006 BK1199 HB HL1208_0 HR1208_0 hx1208_0 hHeld ⊢
       refine pure_ (i := 1) (N := some 44) (v := ?_) (a' := ?_) (bz 7 2) rfl rfl (by kernel_rfl) (fun _ _ _ h => h) (Or.inl ⟨by rfl, ?_⟩) ?_ ?_
       rotate_left
       ·
        intro w'
        go_simp
        with_reducible rfl
       rotate_left
       ·
        simp only [Act.put, put_x, i64_w, i32_w]
        rfl
       refine pure_ (i := 2) (N := some 45) (v := ?_) (a' := ?_) (bz 7 6) rfl rfl (by kernel_rfl) (fun _ _ _ h => h) (Or.inl ⟨by rfl, ?_⟩) ?_ ?_
       rotate_left
       ·
        intro w'
        go_simp
        with_reducible rfl
       rotate_left
       ·
        simp only [Act.put, put_x, i64_w, i32_w]
        rfl
       refine pure_ (i := 3) (N := some 46) (v := ?_) (a' := ?_) (bz 7 14) rfl rfl (by kernel_rfl) (fun _ _ _ h => h) (Or.inl ⟨by rfl, ?_⟩) ?_ ?_
       rotate_left
       ·
        intro w'
        go_simp
        with_reducible rfl
       rotate_left
       ·
        simp only [Act.put, put_x, i64_w, i32_w]
        rfl
       refine take_ (i := 0) (N := some 43) (v := ?_) (a' := ?_) (bz 7 15) rfl rfl (by kernel_rfl) (fun _ _ _ h => h) (Or.inl ⟨by rfl, ?_⟩) hHeld ?_ ?_
       rotate_left
       ·
        rintro w' ⟨s0, s1, s2, s3, s4, s5, s6, s7⟩
        go_simp
        with_reducible rfl
       rotate_left
       ·
        simp only [Act.put, put_x, i64_w, i32_w]
        rfl
       refine take_ (i := 4) (N := some 47) (v := ?_) (a' := ?_) (bz 7 31) rfl rfl (by kernel_rfl) (fun _ _ _ h => h) (Or.inl ⟨by rfl, ?_⟩) hHeld ?_ ?_
       rotate_left
       ·
        rintro w' ⟨s0, s1, s2, s3, s4, s5, s6, s7⟩
        go_simp
        with_reducible rfl
       rotate_left
       ·
        simp only [Act.put, put_x, i64_w, i32_w]
        rfl
       refine one_ (i := 5) (N := some 48) (bz 7 63) rfl rfl (by kernel_rfl) (by decide) (fun K hK => ?_)
       refine goes_ Try.func40 (by kernel_rfl) rfl #[.agg #[.int .i64 t1185, .int .i64 t1186, .int .i64 t1187, .slice Ao17 t1188.length co17, .int .i64 t1191, .slice Ao18 t1192.length co18, .slice Ao19 t1195.length co19], .slice A1208_0 (rd_L7 t1205 x11_1).length c1208_0] (by rfl) rfl rfl (by (try simp only [List.map_toArray, List.map_cons, List.map_nil]); first | done | rfl | (simp only [List.length_drop, List.length_take]; rfl)) ?_
       with_reducible refine (ship_CheckStowage.calls k1 t1185 t1186 t1187 _ _ t1188 t1191 _ _ t1192 _ _ t1195 _ _ (rd_L7 t1205 x11_1) t1209 _ ?side1 ?side2 ?side3 ?side4 ?side5 ?side6 ?side7 ?side8 A25.out).mono ?_
       (case side1 => exact Kd.C_y (Kd.R_reads' HO_1200003.out).2.2)
       (case side2 => exact (Kd.R_reads' HO_1200003.out).2.1)
       (case side3 => exact Kd.C_y (Kd.N_reads' HO_1200005.out).2.2)
       (case side4 => exact (Kd.N_reads' HO_1200005.out).2.1)
       (case side5 => exact Kd.C_y (Kd.R_reads' HO_1200006.out).2.2)
       (case side6 => exact (Kd.R_reads' HO_1200006.out).2.1)
       (case side7 => repeat (first | exact (by repeat (first | (with_reducible exact HR1208_0.out) | (with_reducible refine Kd.C_alloc ?_ _) | (with_reducible refine Kd.C_drewN ?_ _) | (with_reducible refine Kd.C_drew ?_) | exact HR1208_0.out)) | (with_reducible refine Kd.C_alloc ?_ _) | (with_reducible refine Kd.C_drewN ?_ _) | (with_reducible refine Kd.C_drew ?_)))
       (case side8 => exact HC1208_0.out)
       rintro e w57 ⟨rfl, hb⟩
       have HS7_ := (hb.cell (World.block_lt_of_cell? _ _ (hHeld.2.2.2.2.2.2.2))).trans (hHeld.2.2.2.2.2.2.2)
       refine ⟨_, rfl, ?_⟩
       replace HO_5 := Aside0.mk (Kd.R_below (Kd.R_x HO_5.out) hb)
       replace HO_8 := Aside0.mk (Kd.N_below (Kd.N_x HO_8.out) hb)
       replace HO_1200003 := Aside0.mk (Kd.R_below (Kd.R_x HO_1200003.out) hb)
       replace HO_1200005 := Aside0.mk (Kd.N_below (Kd.N_x HO_1200005.out) hb)
       replace HO_1200006 := Aside0.mk (Kd.R_below (Kd.R_x HO_1200006.out) hb)
       replace HL1208_0 := Aside0.mk (Kd.V_below (Kd.V_x HL1208_0.out) hb)
       replace BK1199 := Aside0.mk (blk_below (blk_x BK1199.out) hb)
       replace HR1208_0 := Aside0.mk (Kd.C_below (by repeat (first | (with_reducible exact HR1208_0.out) | (with_reducible refine Kd.C_alloc ?_ _) | (with_reducible refine Kd.C_drewN ?_ _) | (with_reducible refine Kd.C_drew ?_) | exact HR1208_0.out)) hb)
       replace HB := bl_x HB hb
       (try clear hb)
       (try clear hb2)
       (try clear hk)
       (try clear hi)
       refine hK.out _ _ ⟨(blk_cell BK1199.out 0).trans rfl, (blk_cell BK1199.out 1).trans rfl, (blk_cell BK1199.out 2).trans rfl, (blk_cell BK1199.out 3).trans rfl, (blk_cell BK1199.out 4).trans rfl, (blk_cell BK1199.out 5).trans rfl, (blk_cell BK1199.out 6).trans rfl, HS7_⟩ (fun hHeld => ?_)
       clear hK K
       refine norm_ (a' := ?_) ?_ ?_
       rotate_left
       ·
        show Act.put _ (some 48) _ = _
        simp only [Act.put, put_x, i64_w, i32_w]
        rfl
       refine pure_ (i := 6) (N := some 49) (v := ?_) (a' := ?_) (bz 7 127) rfl rfl (by kernel_rfl) (fun _ _ _ h => h) (Or.inl ⟨by rfl, ?_⟩) ?_ ?_
       rotate_left
       ·
        intro w'
        go_simp
        with_reducible rfl
       rotate_left
       ·
        simp only [Act.put, put_x, i64_w, i32_w]
        rfl
       refine done_ (by kernel_rfl) ?_
       try go_wp2
       go_roundg k1
       case measure => have := HK1.out; omega
       case rel => exact ⟨(x9_1), (x10_1), (wrap64 (x11_1 + 1)), (by first | rfl | (simp; done) | (simp [*]; done)), (by first | rfl | (simp; done) | (simp [*]; done)), (by first | rfl | (simp; done) | (simp [*]; done)), H', ⟨by have := HK1.out; omega⟩, ⟨by (with_reducible repeat (first | apply Kd.R_alloc | apply Kd.R_drewN | apply Kd.R_drew)); exact HO_5.out⟩, ⟨by (with_reducible repeat (first | apply Kd.N_alloc | apply Kd.N_drewN | apply Kd.N_drew)); exact HO_8.out⟩, ⟨by (with_reducible repeat (first | apply Kd.R_alloc | apply Kd.R_drewN | apply Kd.R_drew)); exact HO_1200003.out⟩, ⟨by (with_reducible repeat (first | apply Kd.N_alloc | apply Kd.N_drewN | apply Kd.N_drew)); exact HO_1200005.out⟩, ⟨by (with_reducible repeat (first | apply Kd.R_alloc | apply Kd.R_drewN | apply Kd.R_drew)); exact HO_1200006.out⟩, ⟨blk_x BK1199.out⟩, ⟨by exact below_y HB.out⟩⟩
     ·
      rw [if_neg c24] at H
      exact absurd H (by simp)
    ·
     rw [if_neg c23] at H
     have c23b0 : decide (x11_1 < (t1205.length : Int)) = false := decide_eq_false c23
     clear c23
     by_cases c58 : x10_1 < 0
     ·
      rw [if_pos c58] at H
      have c58b0 : decide (x10_1 < 0) = true := decide_eq_true c58
      clear c58
      by_cases c59 : t1203 = (-1)
      ·
       rw [if_pos c59] at H
       have c59b0 : (t1203 == (-1)) = true := beq_iff_eq.mpr c59
       have c59b1 : (t1203 != (-1)) = false := bne_eq_false_iff_eq.mpr c59
       clear c59
       by_cases c60 : (t1200.length : Int) = 0
       ·
        rw [if_pos c60] at H
        have c60b0 : ((t1200.length : Int) == 0) = true := beq_iff_eq.mpr c60
        have c60b1 : ((t1200.length : Int) != 0) = false := bne_eq_false_iff_eq.mpr c60
        clear c60
        replace H := Option.bind_eq_some_iff.mp H
        obtain ⟨t1226, A610, H⟩ := H
        replace H : (some t1226) = some r := H
        have A61 := Aside0.mk A610
        clear A610
        obtain rfl := Option.some.inj H
        obtain ⟨Ao62, co62, eo62⟩ := Kd.N_slice HO_8.out
        subst eo62
        obtain ⟨Ao63, co63, eo63⟩ := Kd.R_slice HO_5.out
        subst eo63
        go_wp2_with (first | (go_at_call 15; (with_reducible refine (swarflaw07_awake.calls k1  t1226 _ A61.out).mono ?_); rintro e w64 ⟨rfl, hb⟩; replace HO_5 := Aside0.mk (Kd.R_below (Kd.R_x HO_5.out) hb); replace HO_8 := Aside0.mk (Kd.N_below (Kd.N_x HO_8.out) hb); replace HO_1200003 := Aside0.mk (Kd.R_below (Kd.R_x HO_1200003.out) hb); replace HO_1200005 := Aside0.mk (Kd.N_below (Kd.N_x HO_1200005.out) hb); replace HO_1200006 := Aside0.mk (Kd.R_below (Kd.R_x HO_1200006.out) hb); replace BK1199 := Aside0.mk (blk_below (blk_x BK1199.out) hb); replace HB := bl_x HB hb; (try clear hb); (try clear hk); (try clear hi)))
        go_ret
        exact ⟨by first | rfl | (simp [errW_none, errW_some] <;> rfl) | (simp [*, errW_none, errW_some] <;> rfl), by exact below_y HB.out⟩
       ·
        rw [if_neg c60] at H
        have c60b0 : ((t1200.length : Int) == 0) = false := beq_eq_false_iff_ne.mpr c60
        have c60b1 : ((t1200.length : Int) != 0) = true := bne_iff_ne.mpr c60
        have c60b2 : ¬ (t1200 = []) := fun h_ => c60 (by rw [h_]; rfl)
        exact absurd ((Option.some.inj H).trans hrt.out) (by decide)
      ·
       rw [if_neg c59] at H
       have c59b0 : (t1203 == (-1)) = false := beq_eq_false_iff_ne.mpr c59
       have c59b1 : (t1203 != (-1)) = true := bne_iff_ne.mpr c59
       exact absurd ((Option.some.inj H).trans hrt.out) (by decide)
     ·
      rw [if_neg c58] at H
      have c58b0 : decide (x10_1 < 0) = false := decide_eq_false c58
      clear c58
      by_cases c68 : t1203 = x9_1
      ·
       rw [if_pos c68] at H
       have c68b0 : (t1203 == x9_1) = true := beq_iff_eq.mpr c68
       have c68b1 : (t1203 != x9_1) = false := bne_eq_false_iff_eq.mpr c68
       clear c68
       by_cases c69 : 0 ≤ x10_1
       ·
        rw [if_pos c69] at H
        have c69b0 : decide (0 ≤ x10_1) = true := decide_eq_true c69
        clear c69
        by_cases c70 : x10_1 < (t1205.length : Int)
        ·
         rw [if_pos c70] at H
         have c70b0 : decide (x10_1 < (t1205.length : Int)) = true := decide_eq_true c70
         clear c70
         replace H := Option.bind_eq_some_iff.mp H
         obtain ⟨t1228, A710, H⟩ := H
         try dsimp only at H
         have A71 := Aside0.mk A710
         clear A710
         by_cases c72 : t1228 = true
         ·
          subst c72
          have H1 : ((swarflaw07_awake.f k1).bind fun t1229 => (some t1229)) = some r := by rw [if_pos rfl] at H; exact H
          clear H
          have H := H1
          clear H1
          replace H := Option.bind_eq_some_iff.mp H
          obtain ⟨t1229, A730, H⟩ := H
          replace H : (some t1229) = some r := H
          have A73 := Aside0.mk A730
          clear A730
          obtain rfl := Option.some.inj H
          obtain ⟨Ao74, co74, eo74⟩ := Kd.N_slice HO_8.out
          subst eo74
          have p1227 : 0 ≤ (x10_1 : Int) := of_x
          have q1227 : x10_1 < (t1205.length : Int) := of_x
          obtain ⟨ad1227, A1227_0, c1227_0, e1227, hx1227_0, hl1227_0, hi1227_0⟩ := at_L7 (Kd.N_reads' HO_8.out).2.2 x10_1 p1227 q1227
          cases e1227
          obtain ⟨ce1227, hce1227, hMe1227, hcc1227⟩ := Kd.N_get HO_8.out [] x10_1 p1227 (by first | exact q1227 | exact of_x | (have e_ := (Kd.N_reads' HO_8.out).1; omega))
          obtain ⟨ua1227_0, uc1227_0, rfl, ul1227_0, ge1227_0⟩ := Kd.FK_slice_open hMe1227
          have hv1227_0 := hcc1227 0 _ rfl
          rw [Nat.add_zero, show ((Kd.slice 3 (Kd.int .i64))).sz = 1 from rfl, Nat.mul_one] at hv1227_0
          replace hv1227_0 := Option.some.inj (hv1227_0.symm.trans hx1227_0)
          injection hv1227_0 with hva_ hvn_ hvc_
          rw [hva_] at ge1227_0
          rw [hvc_] at ul1227_0
          have HL1227_0 := Aside0.mk (show Kd.V (Kd.int .i64) 3 _ w.heap.size _ _ (rd_L7 t1205 x10_1) from Kd.V_mk ul1227_0 ge1227_0)
          clear hva_ hvn_ hvc_ ge1227_0 ul1227_0 hcc1227 hce1227
          have HR1227_0 := Aside0.mk hi1227_0
          have HC1227_0 := Aside0.mk hl1227_0
          clear hi1227_0 hl1227_0
          replace p1227 := eq_true p1227
          replace q1227 := eq_true q1227
          obtain ⟨Ao75, co75, eo75⟩ := Kd.R_slice HO_5.out
          subst eo75
          go_wp2_with (first | (go_at_call 26; (with_reducible refine (swarfkit_EqualInts.calls k1 _ _ t1200 _ _ (rd_L7 t1205 x10_1) true _ ?side1 ?side2 ?side3 ?side4 A71.out).mono ?_); (case side1 => exact Kd.C_y (Kd.R_reads' HO_5.out).2.2); (case side2 => exact (Kd.R_reads' HO_5.out).2.1); (case side3 => repeat (first | exact (by repeat (first | (with_reducible exact HR1227_0.out) | (with_reducible refine Kd.C_alloc ?_ _) | (with_reducible refine Kd.C_drewN ?_ _) | (with_reducible refine Kd.C_drew ?_) | exact HR1227_0.out)) | (with_reducible refine Kd.C_alloc ?_ _) | (with_reducible refine Kd.C_drewN ?_ _) | (with_reducible refine Kd.C_drew ?_))); (case side4 => exact HC1227_0.out); rintro e w' ⟨rfl, ⟨nd, rfl⟩⟩) | (go_at_call 15; (with_reducible refine (swarflaw07_awake.calls k1  t1229 _ A73.out).mono ?_); rintro e w76 ⟨rfl, hb⟩; replace HO_5 := Aside0.mk (Kd.R_below (Kd.R_x HO_5.out) hb); replace HO_8 := Aside0.mk (Kd.N_below (Kd.N_x HO_8.out) hb); replace HO_1200003 := Aside0.mk (Kd.R_below (Kd.R_x HO_1200003.out) hb); replace HO_1200005 := Aside0.mk (Kd.N_below (Kd.N_x HO_1200005.out) hb); replace HO_1200006 := Aside0.mk (Kd.R_below (Kd.R_x HO_1200006.out) hb); replace HL1227_0 := Aside0.mk (Kd.V_below (Kd.V_x HL1227_0.out) hb); replace BK1199 := Aside0.mk (blk_below (blk_x BK1199.out) hb); replace HR1227_0 := Aside0.mk (Kd.C_below (by repeat (first | (with_reducible exact HR1227_0.out) | (with_reducible refine Kd.C_alloc ?_ _) | (with_reducible refine Kd.C_drewN ?_ _) | (with_reducible refine Kd.C_drew ?_) | exact HR1227_0.out)) hb); replace HB := bl_x HB hb; (try clear hb); (try clear hk); (try clear hi)))
          go_ret
          exact ⟨by first | rfl | (simp [errW_none, errW_some] <;> rfl) | (simp [*, errW_none, errW_some] <;> rfl), by exact below_y HB.out⟩
         ·
          replace c72 := Bool.eq_false_iff.mpr c72
          subst c72
          have H1 : (some false) = some r := by rw [if_neg (show ¬ (false = true) by decide)] at H; exact H
          clear H
          have H := H1
          clear H1
          exact absurd ((Option.some.inj H).trans hrt.out) (by decide)
        ·
         rw [if_neg c70] at H
         exact absurd H (by simp)
       ·
        rw [if_neg c69] at H
        exact absurd H (by simp)
      ·
       rw [if_neg c68] at H
       have c68b0 : (t1203 == x9_1) = false := beq_eq_false_iff_ne.mpr c68
       have c68b1 : (t1203 != x9_1) = true := bne_iff_ne.mpr c68
       exact absurd ((Option.some.inj H).trans hrt.out) (by decide)
 ·
  rw [if_neg c6] at H
  have c6b0 : (t1204 == 0) = false := beq_eq_false_iff_ne.mpr c6
  have c6b1 : (t1204 != 0) = true := bne_iff_ne.mpr c6
  exact absurd ((Option.some.inj H).trans hrt.out) (by decide)
def swarflaw07_ShipMost.Pure : Prop := ∀ (l0 : List Int), l0.length ≤ maxLen → l0.length * 8 ≤ 140737488351232 → (∀ x ∈ l0, (Lit.int .i64 x).wf = true) → ∃ k, swarflaw07_ShipMost.f k l0 = some true
theorem swarflaw07_ShipMost.walk (P : swarflaw07_ShipMost.Pure) (a0 : Option Addr) (len0 cap0 : Nat) (z0 : List Int) (w : World) (w0 : (a0 = none ∧ len0 = 0 ∧ cap0 = 0 ∧ z0 = []) ∨ ∃ x, a0 = some x ∧ len0 ≤ cap0 ∧ cap0 ≤ maxLen ∧ z0.length = cap0 ∧ (∀ i, i < z0.length → w.cell? (x.add i) = some (.int .i64 (z0.getD i 0))) ∧ ∀ n ∈ z0, (Lit.int .i64 n).wf = true) (y0 : len0 * 8 ≤ 140737488351232) :
  Calls Try.prog 11 #[.slice a0 len0 cap0] w fun e w' => e = .returned (.bool true) ∧ Below w.heap.size w w' := by
 obtain ⟨l0, rfl, hr0, hm0, hw0, hc0⟩ := ReadsInt.ofRowC w0
 obtain ⟨k, h⟩ := P l0 hm0 y0 hw0
 refine (swarflaw07_ShipMost.calls k _ _ l0 true ⟨rfl⟩ w (Kd.C_of_reads (d := (0 : Int)) (h1 := fun _ => rfl) hr0) hc0 h).mono ?_
 rintro e w' ⟨rfl, hd⟩
 exact ⟨rfl, hd⟩
end Go.Proofs.Ytodmemndaaiolaa.PC7
namespace Go.Proofs.Ytodmemndaaiolaa.PC7
set_option linter.unusedVariables false
set_option linter.unusedSimpArgs false
open Go.RowKit Go.Proofs.YtodmemndaaiolaaW.PrintWords Go.Proofs.YtodmemndaaiolaaW.PrintLast Go.Proofs.YtodmemndaaiolaaW.PrintMore
theorem lighter_refl : ∀ s : List Int, Lighter s s
  | [] => trivial
  | a :: s => ⟨.inl rfl, lighter_refl s⟩
theorem sailO_eq {H S L' : Nat} {T L U R V : Int} {holds : List S85} {sills : List S59} {lots : List S79} (h : VoyOK H S L' T L U R holds V sills lots) (hT : T ≤ 1000) (q : Q4) (soon : Bool) : sailO U V sills q soon = sailL (sills.map (plainS soon)) V (needsW U q soon) :=
  sailW_eq hT soon _ sills h.si V h.leaves.1 (by have := h.leaves; omega)
theorem anyS_l2 (L U R V : Int) (holds : List S85) (sills : List S59) (lots : List S79) (s : List Int) (hs : s.length = lots.length) (hsl : s.length ≤ 1000) (h : Nat) (hn : Int)
    (hk : Res (fun k => ship_checkStowage.l1 k s holds hn (wrap64 ((h : Int) + 1)) L U R holds V sills lots) (fun _ => True)) (d : Nat) :
    ∀ (i : Nat) (c : Int), i + d = s.length → Res (fun k => ship_checkStowage.l2 k s (h : Int) c holds hn (h : Int) s (s.length : Int) (i : Int) L U R holds V sills lots) (fun _ => True) := by
  induction d with
  | zero =>
    intro i c hi
    refine Res.succ ?_
    simp (disch := omega) only [ship_checkStowage.l2, if_neg]
    by_cases hc : c < 0
    · simp only [if_pos hc]; exact Res.now trivial
    · simp only [if_neg hc]; exact hk
  | succ d ih =>
    intro i c hi
    refine Res.succ ?_
    simp (disch := omega) only [ship_checkStowage.l2, if_pos, rdI, rd79]
    rw [wrapS (by omega)]
    by_cases e : s.getD i 0 = (h : Int)
    · simp only [if_pos e]; exact ih (i + 1) _ (by omega)
    · simp only [if_neg e]; exact ih (i + 1) _ (by omega)
theorem anyS_l1 (L U R V : Int) (holds : List S85) (sills : List S59) (lots : List S79) (hh : holds.length ≤ 1000) (s : List Int) (hs : s.length = lots.length) (hsl : s.length ≤ 1000) (d : Nat) :
    ∀ i : Nat, i + d = holds.length → Res (fun k => ship_checkStowage.l1 k s holds (holds.length : Int) (i : Int) L U R holds V sills lots) (fun _ => True) := by
  induction d with
  | zero =>
    intro i hi
    refine Res.succ ?_
    simp (disch := omega) only [ship_checkStowage.l1, if_neg]
    exact Res.now trivial
  | succ d ih =>
    intro i hi
    refine Res.succ ?_
    simp (disch := omega) only [ship_checkStowage.l1, if_pos, rd85]
    refine anyS_l2 L U R V holds sills lots s hs hsl i _ ?_ s.length 0 _ (by omega)
    rw [wrapS (by omega)]
    exact ih (i + 1) (by omega)
theorem anyS_l0 (L U R V : Int) (holds : List S85) (sills : List S59) (lots : List S79) (hh : holds.length ≤ 1000) (s : List Int) (hs : s.length = lots.length) (hsl : s.length ≤ 1000) (hr : ∀ y, y ∈ s → -1 ≤ y ∧ y < (holds.length : Int)) (d : Nat) :
    ∀ i : Nat, i + d = s.length → Res (fun k => ship_checkStowage.l0 k s s (s.length : Int) (i : Int) L U R holds V sills lots) (fun _ => True) := by
  induction d with
  | zero =>
    intro i hi
    refine Res.succ ?_
    simp (disch := omega) only [ship_checkStowage.l0, if_neg]
    exact anyS_l1 L U R V holds sills lots hh s hs hsl holds.length 0 (by omega)
  | succ d ih =>
    intro i hi
    obtain ⟨b1, b2⟩ := hr _ (getD_mem s i 0 (by omega))
    refine Res.succ ?_
    simp (disch := omega) only [ship_checkStowage.l0, if_pos, rdI]
    refine Res.take (in_t b1 (by rw [wrap64_id (by omega) (by omega)]; omega)) ?_
    simp only [if_true]
    rw [wrapS (by omega)]
    exact ih (i + 1) (by omega)
theorem apart_l0 (L U R V : Int) (holds : List S85) (sills : List S59) (lots : List S79) (s : List Int) (hs : s.length = lots.length) (hsl : s.length ≤ 1000) (hr : ∀ y, y ∈ s → -1 ≤ y ∧ y < (holds.length : Int)) (d : Nat) :
    ∀ (i : Nat) (a b : Int), i + d = s.length → Res (fun k => ship_apart.l0 k s (s.length : Int) (i : Int) L U R holds V sills lots a b) (fun _ => True) := by
  induction d with
  | zero =>
    intro i a b hi
    refine Res.succ ?_
    simp (disch := omega) only [ship_apart.l0, if_neg]
    exact Res.now trivial
  | succ d ih =>
    intro i a b hi
    obtain ⟨b1, b2⟩ := hr _ (getD_mem s i 0 (by omega))
    refine Res.succ ?_
    simp (disch := omega) only [ship_apart.l0, if_pos, rdI, rd79]
    rw [wrapS (by omega)]
    by_cases e : s.getD i 0 < 0
    · simp only [if_pos e]; exact ih (i + 1) _ _ (by omega)
    · simp (disch := omega) only [if_neg e, if_pos]; exact ih (i + 1) _ _ (by omega)
theorem level_res (L U R V : Int) (holds : List S85) (sills : List S59) (lots : List S79) (y z : Int) : Res (fun k => ship_level.f k L U R holds V sills lots y z) (fun _ => True) := by
  unfold ship_level.f
  have hg : Res (fun k => ship_greatest.f k z [wrap64 (-y)]) (fun _ => True) := by
    unfold ship_greatest.f
    refine Res.succ ?_
    simp (disch := decide) only [ship_greatest.l0, List.length_singleton, if_pos]
    rw [show wrap64 (0 + 1) = 1 from wrap64_id (n := 0 + 1) (by decide) (by decide)]
    refine Res.succ ?_
    simp (disch := decide) only [ship_greatest.l0, if_neg]
    exact ⟨_, Ev.now _, trivial⟩
  obtain ⟨r, h1, _⟩ := hg
  exact Res.bind h1 (Res.now trivial)
theorem tell {H S L' : Nat} {T L U R V : Int} {holds : List S85} {sills : List S59} {lots : List S79} (h : VoyOK H S L' T L U R holds V sills lots) (hH : H ≤ 3) (hS : S ≤ 4) (hL : L' ≤ 6) (hT : T ≤ 1000) {s : List Int} (hs : s.length = lots.length) (hr : ∀ y, y ∈ s → -1 ≤ y ∧ y < (holds.length : Int)) :
    ∃ e : Int, Ev (fun k => ship_CheckStowage.f k L U R holds V sills lots s) e ∧ (e ≠ 0 → goodO L U R holds V sills lots s = some false) ∧
      (e = 0 → ∃ (b : Bool) (x1 x2 v : Int) (o : List S56), Ev (fun k => ship_Level.f k L U R holds V sills lots s) (b, x1, x2, 0) ∧ ship_Sail.f L U R holds V sills lots s = some (v, o, 0) ∧ goodO L U R holds V sills lots s = some (b && decide (v = 1))) := by
  have hln := h.ln; have hhn := h.hn; have h1 := h.light
  have hw : wrap64 (1000 * L) = 1000 * L := wrap64_id (by omega) (by omega)
  have hq0 : QOK (10000000 + 1500000 * ((0 : Nat) : Int)) ⟨wrap64 (1000 * L), wrap64 (1000 * L), wrap64 (1000 * L), wrap64 (1000 * L)⟩ := by
    rw [hw]; exact ⟨⟨by show 0 ≤ 1000 * L; omega, Int.le_refl _⟩, ⟨by show 0 ≤ 1000 * L; omega, Int.le_refl _⟩, by show 1000 * L ≤ _; omega, by show 1000 * L ≤ _; omega⟩
  obtain ⟨_, Q, _, hQ, _, _, oQ⟩ := ladO_le hT holds lots h.ho h.lo (by omega) s s 0 _ _ (by omega) (lighter_refl s) hr hq0 hq0 ⟨Int.le_refl _, Int.le_refl _, Int.le_refl _, Int.le_refl _⟩
  have hQ' : ladenO L holds lots s = some Q := hQ
  obtain ⟨e, he, _⟩ : Res (fun k => ship_checkStowage.f k L U R holds V sills lots s) (fun _ => True) := by
    unfold ship_checkStowage.f
    simp (disch := omega) only [if_pos]
    exact anyS_l0 L U R V holds sills lots (by omega) s hs (by omega) hr s.length 0 (by omega)
  have hck := check_ev h hH hS hL hT
  have hC : Ev (fun k => ship_CheckStowage.f k L U R holds V sills lots s) e := by
    unfold ship_CheckStowage.f
    refine Ev.bind hck ?_
    simp only [if_true]
    exact Ev.tail he
  have hcs : chkS L U R holds V sills lots s = some e := limO_of he
  refine ⟨e, hC, fun hne => ?_, fun h0 => ?_⟩
  · unfold goodO
    refine Option.bind_eq_some_iff.2 ⟨e, hcs, ?_⟩
    rw [if_neg hne]
  · subst h0
    obtain ⟨⟨x1, x2⟩, hx, _⟩ := apart_l0 L U R V holds sills lots s hs (by omega) hr s.length 0 0 0 (by omega)
    have hx' : Ev (fun k => ship_apart.f k L U R holds V sills lots s) (x1, x2) := hx
    obtain ⟨b, hb, _⟩ := level_res L U R V holds sills lots x1 x2
    have hu : 0 ≤ U ∧ U ≤ 5000 := by have := h.under; omega
    have hv := h.leaves
    have hno : lensOK sills := ⟨by have := h.sn; omega, fun x hx => by obtain ⟨_, _, _, _, a5, _⟩ := h.si x hx; omega⟩
    have n1 := needsW_eq oQ hu true
    have n2 := needsW_eq oQ hu false
    simp only [if_true, Bool.false_eq_true, if_false] at n1 n2
    have b0 := oQ.b0; have b1 := oQ.b1
    have hle : (sailO U V sills Q false).length ≤ (sailO U V sills Q true).length := by
      rw [sailO_eq h hT, sailO_eq h hT]
      exact (sailL_le _ _ V V _ _ (better_soon sills h.si) (sillsOK_of h.si false) (sillsOK_of h.si true) hv.1 (Int.le_refl _) (by omega)).1
    have hbd : (sailO U V sills Q false).length ≤ sills.length := sailW_len _ _ _ _
    refine ⟨b, x1, x2, verdictE sills.length (sailO U V sills Q true) (sailO U V sills Q false), overE (sailO U V sills Q true) (sailO U V sills Q false), ?_, ?_, ?_⟩
    · unfold ship_Level.f
      refine Ev.bind hC ?_
      simp only [if_true]
      refine Ev.bind hx' (Ev.bind hb ?_)
      exact Ev.now _
    · unfold ship_Sail.f
      refine Option.bind_eq_some_iff.2 ⟨_, limO_of hC, ?_⟩
      rw [if_pos rfl, if_pos ⟨by omega, hno⟩]
      refine Option.bind_eq_some_iff.2 ⟨_, hQ', ?_⟩
      unfold sailR
      rw [if_pos hle]
    · unfold goodO
      refine Option.bind_eq_some_iff.2 ⟨0, hcs, ?_⟩
      rw [if_pos rfl]
      refine Option.bind_eq_some_iff.2 ⟨(x1, x2), limO_of hx', ?_⟩
      refine Option.bind_eq_some_iff.2 ⟨b, limO_of hb, ?_⟩
      cases b with
      | false => rfl
      | true =>
        rw [if_pos rfl]
        refine Option.bind_eq_some_iff.2 ⟨Q, hQ', ?_⟩
        unfold verdictE
        by_cases c : (sailO U V sills Q false).length = sills.length
        · rw [if_pos c, decide_eq_false (by omega)]; rfl
        · rw [if_neg c, decide_eq_true (show (sailO U V sills Q false).length < sills.length by omega)]
          by_cases c2 : (sailO U V sills Q true).length < sills.length
          · rw [if_pos c2]; rfl
          · rw [if_neg c2]; rfl
theorem best_ok {H S L' : Nat} {T L U R V : Int} {holds : List S85} {sills : List S59} {lots : List S79} (h : VoyOK H S L' T L U R holds V sills lots) (hH : H ≤ 3) (hS : S ≤ 4) (hL : L' ≤ 6) (hT : T ≤ 1000) :
    ship_Best.f L U R holds V sills lots = some ((bestOf (goodB L U R holds V sills lots) (fun t => worthGo lots 0 t 0) (stowsL holds.length lots.length) ([], -1)).1, (bestOf (goodB L U R holds V sills lots) (fun t => worthGo lots 0 t 0) (stowsL holds.length lots.length) ([], -1)).2, 0) := by
  have hln := h.ln; have hhn := h.hn
  have hno : lensOK sills := ⟨by have := h.sn; omega, fun x hx => by obtain ⟨_, _, _, _, a5, _⟩ := h.si x hx; omega⟩
  unfold ship_Best.f
  refine Option.bind_eq_some_iff.2 ⟨0, limO_of (check_ev h hH hS hL hT), ?_⟩
  have hall : ∀ t, t ∈ stowsL holds.length lots.length → (goodO L U R holds V sills lots t).isSome = true := fun t ht => by
    obtain ⟨h1, h2⟩ := stowsL_mem _ _ t ht
    obtain ⟨e, _, g1, g2⟩ := tell h hH hS hL hT h1 h2
    by_cases e0 : e = 0
    · obtain ⟨_, _, _, _, _, _, _, hg⟩ := g2 e0
      rw [hg]; rfl
    · rw [g1 e0]; rfl
  rw [if_pos rfl, if_pos ⟨by omega, by omega, hno, hall⟩]
end Go.Proofs.Ytodmemndaaiolaa.PC7
namespace Go.Proofs.Ytodmemndaaiolaa.Pure
set_option linter.unusedVariables false
set_option linter.unusedSimpArgs false
open Go.RowKit Go.Proofs.Ytodmemndaaiolaa.PC7 Go.Proofs.YtodmemndaaiolaaW.PrintWords Go.Proofs.YtodmemndaaiolaaW.PrintLast Go.Proofs.YtodmemndaaiolaaW.PrintMore
theorem flat_len {α β : Type} (f : Nat → α → β) (L : List α) : ∀ j, ((List.range j).flatMap fun c => L.map (f c)).length = j * L.length
  | 0 => by simp
  | j + 1 => by
    rw [List.range_succ, List.flatMap_append, List.length_append, flat_len f L j, List.flatMap_singleton, List.length_map, Nat.succ_mul]
theorem stows_len (H : Nat) : ∀ n, (stowsL H n).length = (H + 1) ^ n
  | 0 => rfl
  | n + 1 => by
    have := flat_len (fun (d : Nat) (t : List Int) => ((d : Int) - 1) :: t) (stowsL H n) (H + 1)
    rw [show stowsL H (n + 1) = (List.range (H + 1)).flatMap fun (d : Nat) => (stowsL H n).map fun t => ((d : Int) - 1) :: t from rfl, this, stows_len H n, Nat.pow_succ, Nat.mul_comm]
theorem refStows_ev (L U R V : Int) (holds : List S85) (sills : List S59) (lots : List S79) (hh : holds.length ≤ 1000) (hl : lots.length ≤ 1000) (hb : (holds.length + 1) ^ lots.length ≤ 100000) :
    ∀ (n : Nat) (pre : List Int), pre.length + n = lots.length → Ev (fun k => swarfref07_Stowages.f k L U R holds V sills lots pre) ((stowsL holds.length n).map (pre ++ ·)) := by
  intro n
  induction n with
  | zero =>
    intro pre hp
    refine Ev.succ ?_
    simp (disch := omega) only [swarfref07_Stowages.f, if_pos]
    have e : ((stowsL holds.length 0).map (pre ++ ·)) = [pre] := by simp [stowsL]
    rw [e]
    exact Ev.now _
  | succ n ih =>
    intro pre hp
    have hpow : (holds.length + 1) ^ (n + 1) ≤ 100000 := Nat.le_trans (Nat.pow_le_pow_right (by omega) (by omega)) hb
    have key : ∀ (d j : Nat), j + d = holds.length + 1 → Ev (fun k => swarfref07_Stowages.l0 k pre ((List.range j).flatMap fun (c : Nat) => (stowsL holds.length n).map fun t => pre ++ ((c : Int) - 1) :: t) ((j : Int) - 1) L U R holds V sills lots)
        ((List.range (holds.length + 1)).flatMap fun (c : Nat) => (stowsL holds.length n).map fun t => pre ++ ((c : Int) - 1) :: t) := by
      intro d
      induction d with
      | zero =>
        intro j hj
        obtain rfl : j = holds.length + 1 := by omega
        refine Ev.succ ?_
        simp (disch := omega) only [swarfref07_Stowages.l0, if_neg]
        exact Ev.now _
      | succ d ihd =>
        intro j hj
        have hlen := flat_len (fun (c : Nat) (t : List Int) => pre ++ ((c : Int) - 1) :: t) (stowsL holds.length n) j
        have hsl := stows_len holds.length n
        have hjb : j * (stowsL holds.length n).length ≤ 100000 := by
          rw [hsl]
          refine Nat.le_trans (Nat.mul_le_mul_right _ (show j ≤ holds.length + 1 by omega)) ?_
          rw [← Nat.pow_succ']
          exact hpow
        have hs2 : (stowsL holds.length n).length ≤ 100000 := by
          rw [hsl]
          exact Nat.le_trans (Nat.pow_le_pow_right (by omega) (by omega)) hpow
        have ih2 := ih (pre ++ [(j : Int) - 1]) (by simp; omega)
        have hnext := ihd (j + 1) (by omega)
        refine Ev.succ ?_
        simp (disch := omega) only [swarfref07_Stowages.l0, if_pos, Option.bind_some, List.nil_append, List.length_nil]
        have hpl : pre.length + [(j : Int) - 1].length < 17592186044416 := by simp; omega
        simp only [if_pos hpl]
        refine Ev.bind ih2 ?_
        have hol : ((List.range j).flatMap fun (c : Nat) => (stowsL holds.length n).map fun t => pre ++ ((c : Int) - 1) :: t).length + ((stowsL holds.length n).map ((pre ++ [(j : Int) - 1]) ++ ·)).length < 5864062014805 := by
          rw [hlen, List.length_map]; omega
        simp only [if_pos hol]
        have hw : wrap64 ((j : Int) - 1 + 1) = ((j + 1 : Nat) : Int) - 1 := by rw [wrap64_id (by omega) (by omega)]; omega
        have he : ((List.range j).flatMap fun (c : Nat) => (stowsL holds.length n).map fun t => pre ++ ((c : Int) - 1) :: t) ++ (stowsL holds.length n).map ((pre ++ [(j : Int) - 1]) ++ ·) = (List.range (j + 1)).flatMap fun (c : Nat) => (stowsL holds.length n).map fun t => pre ++ ((c : Int) - 1) :: t := by
          rw [List.range_succ, List.flatMap_append, List.flatMap_singleton]
          simp
        rw [hw, he]
        exact hnext
    have hk := key (holds.length + 1) 0 (by omega)
    refine Ev.succ ?_
    simp (disch := omega) only [swarfref07_Stowages.f, if_neg]
    have e2 : ((stowsL holds.length (n + 1)).map (pre ++ ·)) = ((List.range (holds.length + 1)).flatMap fun (c : Nat) => (stowsL holds.length n).map fun t => pre ++ ((c : Int) - 1) :: t) := by
      simp only [stowsL, List.map_flatMap, List.map_map]
      rfl
    rw [e2]
    exact hk
theorem rdL7 (l : List (List Int)) (k : Nat) : rd_L7 l (k : Int) = l.getD k [] := by simp [rd_L7]
theorem equalInts_l0 (l : List Int) (hl : l.length ≤ 1000000) (d : Nat) : ∀ i : Nat, i + d = l.length → Ev (fun k => swarfkit_EqualInts.l0 k l l true (i : Int)) true := by
  induction d with
  | zero =>
    intro i hi
    refine Ev.succ ?_
    simp (disch := omega) only [swarfkit_EqualInts.l0, if_true, if_neg]
    exact Ev.now _
  | succ d ih =>
    intro i hi
    refine Ev.succ ?_
    simp (disch := omega) only [swarfkit_EqualInts.l0, if_true, if_pos, beq_self_eq_true]
    rw [wrapS (by omega)]
    exact ih (i + 1) (by omega)
theorem equalInts_ev (l : List Int) (hl : l.length ≤ 1000000) : Ev (fun k => swarfkit_EqualInts.f k l l) true := by
  unfold swarfkit_EqualInts.f
  rw [beq_self_eq_true]
  exact equalInts_l0 l hl l.length 0 (by omega)
theorem most_l1 (L U R V : Int) (holds : List S85) (sills : List S59) (lots : List S79) (best : List Int) (worth : Int) (T : List (List Int)) (most at_ : Int) (i : Nat) (hi : i < T.length) (b : Bool) (v : Int) (hlen : (T.getD i []).length = lots.length) (hl : lots.length ≤ 1000)
    (hk : Ev (fun k => if b = true then (if v = 1 then (if worthGo lots 0 (T.getD i []) 0 > most then swarflaw07_ShipMost.l0 k best worth T (worthGo lots 0 (T.getD i []) 0) (i : Int) (wrap64 ((i : Int) + 1)) L U R holds V sills lots else swarflaw07_ShipMost.l0 k best worth T most at_ (wrap64 ((i : Int) + 1)) L U R holds V sills lots) else swarflaw07_ShipMost.l0 k best worth T most at_ (wrap64 ((i : Int) + 1)) L U R holds V sills lots) else swarflaw07_ShipMost.l0 k best worth T most at_ (wrap64 ((i : Int) + 1)) L U R holds V sills lots) true) (d : Nat) :
    ∀ (j : Nat) (n : Int), j + d = lots.length → worthGo lots j ((T.getD i []).drop j) n = worthGo lots 0 (T.getD i []) 0 → Ev (fun k => swarflaw07_ShipMost.l1 k best worth T most at_ (i : Int) b v n (j : Int) L U R holds V sills lots) true := by
  induction d with
  | zero =>
    intro j n hj hw
    rw [List.drop_of_length_le (by omega)] at hw
    simp only [worthGo] at hw
    subst hw
    refine Ev.succ ?_
    simp (disch := omega) only [swarflaw07_ShipMost.l1, if_pos, if_neg, rdL7]
    exact hk
  | succ d ih =>
    intro j n hj hw
    have hlt : j < (T.getD i []).length := by omega
    rw [List.drop_eq_getElem_cons hlt, ← getD_get (T.getD i []) j 0 hlt] at hw
    simp only [worthGo] at hw
    refine Ev.succ ?_
    simp (disch := omega) only [swarflaw07_ShipMost.l1, if_pos, rdL7, rdI, rd79]
    rw [wrapS (by omega)]
    by_cases h0 : (T.getD i []).getD j 0 ≥ 0
    · rw [if_pos (by omega)] at hw
      simp only [if_pos h0]
      exact ih (j + 1) _ (by omega) hw
    · rw [if_neg (by omega)] at hw
      simp only [if_neg h0]
      exact ih (j + 1) _ (by omega) hw
theorem most_l0 {T' : Int} {L U R V : Int} {holds : List S85} {sills : List S59} {lots : List S79} {H S M : Nat} (h : VoyOK H S M T' L U R holds V sills lots) (hH : H ≤ 3) (hS : S ≤ 4) (hM : M ≤ 6) (hT : T' ≤ 1000) (T : List (List Int)) (hTe : T = stowsL holds.length lots.length) (hTl : T.length ≤ 100000)
    (B : List Int × Int) (hB : B = bestOf (goodB L U R holds V sills lots) (fun t => worthGo lots 0 t 0) T ([], -1)) (d : Nat) :
    ∀ (i : Nat) (at_ : Int) (c : List Int × Int), i + d = T.length → c = bestOf (goodB L U R holds V sills lots) (fun t => worthGo lots 0 t 0) (T.take i) ([], -1) → (at_ = -1 ∧ c = ([], -1) ∨ ∃ a : Nat, at_ = (a : Int) ∧ a < i ∧ T.getD a [] = c.1) →
      Ev (fun k => swarflaw07_ShipMost.l0 k B.1 B.2 T c.2 at_ (i : Int) L U R holds V sills lots) true := by
  have hln := h.ln
  induction d with
  | zero =>
    intro i at_ c hi hc ha
    rw [show i = T.length by omega, List.take_length, ← hB] at hc
    refine Ev.succ ?_
    simp (disch := omega) only [swarflaw07_ShipMost.l0, if_neg]
    rcases ha with ⟨rfl, hc0⟩ | ⟨a, rfl, hai, hget⟩
    · rw [hc] at hc0
      rw [hc0]
      simp (disch := decide) only [if_pos, List.length_nil]
      exact Ev.tail awake_ev
    · rw [hc]
      simp (disch := omega) only [if_neg, if_pos, rdL7]
      rw [hget, hc]
      have hb1 : B.1.length ≤ 1000000 := by
        rw [← hc, ← hget]
        have hm : T.getD a [] ∈ stowsL holds.length lots.length := by rw [← hTe]; exact getD_mem T a [] (by omega)
        have := (stowsL_mem _ _ _ hm).1
        omega
      refine Ev.bind (equalInts_ev B.1 hb1) ?_
      simp only [if_true]
      exact Ev.tail awake_ev
  | succ d ih =>
    intro i at_ c hi hc ha
    have hit : i < T.length := by omega
    have hm : T.getD i [] ∈ stowsL holds.length lots.length := by rw [← hTe]; exact getD_mem T i [] hit
    obtain ⟨m1, m2⟩ := stowsL_mem _ _ _ hm
    obtain ⟨e, hce, g1, g2⟩ := tell h hH hS hM hT m1 m2
    have htk : T.take (i + 1) = T.take i ++ [T.getD i []] := by rw [List.take_succ_eq_append_getElem hit, getD_get _ _ _ hit]
    have hstep : bestOf (goodB L U R holds V sills lots) (fun t => worthGo lots 0 t 0) (T.take (i + 1)) ([], -1) = if goodB L U R holds V sills lots (T.getD i []) = true then (if c.2 < worthGo lots 0 (T.getD i []) 0 then (T.getD i [], worthGo lots 0 (T.getD i []) 0) else c) else c := by
      rw [htk, bestOf_snoc, ← hc]
    have hkeep : ∀ {a : Int}, (a = -1 ∧ c = ([], -1) ∨ ∃ b : Nat, a = (b : Int) ∧ b < i ∧ T.getD b [] = c.1) → (a = -1 ∧ c = ([], -1) ∨ ∃ b : Nat, a = (b : Int) ∧ b < i + 1 ∧ T.getD b [] = c.1) := fun hh => by
      rcases hh with hh | ⟨b, h1, h2, h3⟩
      · exact .inl hh
      · exact .inr ⟨b, h1, by omega, h3⟩
    refine Ev.succ ?_
    simp (disch := omega) only [swarflaw07_ShipMost.l0, if_pos, rdL7]
    refine Ev.bind hce ?_
    by_cases e0 : e = 0
    · obtain ⟨b, x1, x2, v, o, hlv, hsl, hg⟩ := g2 e0
      have hgb : goodB L U R holds V sills lots (T.getD i []) = (b && decide (v = 1)) := by unfold goodB; rw [hg]; rfl
      simp only [if_pos e0]
      refine Ev.bind hlv (Ev.take hsl ?_)
      simp only [if_true]
      refine Ev.succ ?_
      simp only [swarflaw07_ShipMost.j1, bne_self_eq_false, Bool.false_eq_true, if_false]
      refine most_l1 L U R V holds sills lots B.1 B.2 T c.2 at_ i hit b v m1 (by omega) ?_ lots.length 0 0 (by omega) (by rw [List.drop_zero])
      rw [wrapS (by omega)]
      by_cases hgt : b = true
      · simp only [if_pos hgt]
        by_cases hv1 : v = 1
        · simp only [if_pos hv1]
          have hgg : goodB L U R holds V sills lots (T.getD i []) = true := by rw [hgb, hgt, hv1]; rfl
          rw [if_pos hgg] at hstep
          by_cases hw : worthGo lots 0 (T.getD i []) 0 > c.2
          · simp only [if_pos hw]
            rw [if_pos (by omega)] at hstep
            exact ih (i + 1) (i : Int) (T.getD i [], worthGo lots 0 (T.getD i []) 0) (by omega) hstep.symm (.inr ⟨i, rfl, by omega, rfl⟩)
          · simp only [if_neg hw]
            rw [if_neg (by omega)] at hstep
            exact ih (i + 1) at_ c (by omega) hstep.symm (hkeep ha)
        · simp only [if_neg hv1]
          have hgg : goodB L U R holds V sills lots (T.getD i []) = false := by rw [hgb, decide_eq_false hv1]; simp
          rw [if_neg (by rw [hgg]; simp)] at hstep
          exact ih (i + 1) at_ c (by omega) hstep.symm (hkeep ha)
      · simp only [if_neg hgt]
        have hgg : goodB L U R holds V sills lots (T.getD i []) = false := by rw [hgb, Bool.eq_false_iff.2 hgt]; rfl
        rw [if_neg (by rw [hgg]; simp)] at hstep
        exact ih (i + 1) at_ c (by omega) hstep.symm (hkeep ha)
    · simp only [if_neg e0]
      have hgg : goodB L U R holds V sills lots (T.getD i []) = false := by unfold goodB; rw [g1 e0]; rfl
      rw [if_neg (by rw [hgg]; simp)] at hstep
      rw [wrapS (by omega)]
      exact ih (i + 1) at_ c (by omega) hstep.symm (hkeep ha)
theorem pow_small {a b : Nat} (ha : a ≤ 4) (hb : b ≤ 6) : a ^ b ≤ 100000 :=
  Nat.le_trans (Nat.pow_le_pow_left ha b) (Nat.le_trans (Nat.pow_le_pow_right (by decide) hb) (by decide))
theorem ShipMost : swarflaw07_ShipMost.Pure := by
  intro l0 _ hb8 _
  refine Ev.rounds (g := fun k => swarflaw07_ShipMost.f k l0) ?_
  unfold swarflaw07_ShipMost.f
  refine Ev.take (a := feedAll l0) (by unfold swarfkit_FeedOf.f; rw [if_pos (by omega)]) ?_
  obtain ⟨T, f1, e1, hT⟩ := either_ok (feedAll l0) [4, 30] (by simp) (show 2 ≤ 1000 by decide)
  have hTb : 1 ≤ T ∧ T ≤ 1000 := by
    rcases List.mem_cons.1 hT with rfl | hT
    · omega
    · rw [List.mem_singleton.1 hT]; omega
  refine Ev.take e1 ?_
  obtain ⟨⟨L, U, R, holds, V, sills, lots, f2⟩, e2, hv⟩ := voyageOf_res f1 2 2 4 T (by decide) (by decide) (by decide) (by decide) hTb.1 hTb.2
  refine Ev.bind (a := (L, U, R, holds, V, sills, lots, f2)) e2 ?_
  replace hv : VoyOK 2 2 4 T L U R holds V sills lots := hv
  have hbo := best_ok hv (by decide) (by decide) (by decide) hTb.2
  obtain ⟨B, hB⟩ : ∃ B, B = bestOf (goodB L U R holds V sills lots) (fun t => worthGo lots 0 t 0) (stowsL holds.length lots.length) ([], -1) := ⟨_, rfl⟩
  rw [← hB] at hbo
  refine Ev.take hbo ?_
  simp only [if_true]
  have hln := hv.ln; have hhn := hv.hn
  have hp := pow_small (show holds.length + 1 ≤ 4 by omega) (show lots.length ≤ 6 by omega)
  have hst := refStows_ev L U R V holds sills lots (by omega) (by omega) hp lots.length [] (by simp)
  have e3 : ((stowsL holds.length lots.length).map (([] : List Int) ++ ·)) = stowsL holds.length lots.length := by simp
  rw [e3] at hst
  refine Ev.bind hst ?_
  exact most_l0 hv (by decide) (by decide) (by decide) hTb.2 _ rfl (by rw [stows_len]; exact hp) B hB _ 0 (-1) ([], -1) (Nat.zero_add _) rfl (.inl ⟨rfl, rfl⟩)
end Go.Proofs.Ytodmemndaaiolaa.Pure
namespace Go.Proofs.YtodmemndaaiolaaW.PrintWords
open Go.ChangeShapes Go.WideShapes
theorem sized_ints {H : Type} {enc : TypeId × Value → H} {P : Program} {W : World} {base : Nat} {spare : Nat → Bool} {held : Bool} {t e : TypeId} {k : IntKind} {a : Option Addr} {len cap : Nat} {d : DataW H} {ps : List MemPlace} {ts : List TypeId} {ds : List (DataW H)} {j : Nat}
    (hsz : (DataW.weightsEach P ts ds).all (· ≤ reachBytes) = true) (ht : ts[j]? = some t) (hd : ds[j]? = some d) (hu : P.underlying t = some (.slice e)) (he : P.underlying e = some (.int k)) (hc : P.cellsOf e = 1) {B : Nat} (hB : P.bytesOf e = B)
    (h : DataW.Trod enc P W base spare held t (.slice a len cap) d ps) : len * B ≤ 140737488351232 := by
  obtain ⟨fuel, hf⟩ := h
  rcases open_ints hu he hc hf with ⟨hcs, _⟩ | ⟨x, l, c, zs, hcs, _, hl, _, hz, hx, _, _⟩
  · simp [Value.cells] at hcs
    obtain ⟨rfl, rfl, rfl⟩ := hcs
    simp
  · simp [Value.cells] at hcs
    obtain ⟨rfl, rfl, rfl⟩ := hcs
    obtain ⟨hx, _⟩ := Prod.mk.inj hx
    subst hx
    have z := sized_slice hsz ht hd hu
    rw [hB] at z
    have hl2 : len ≤ zs.length := by
      rw [hz]
      split
      · exact hl
      · exact Nat.le_refl _
    have h1 : (lits (H := H) k (zs.take len)).length + (lits (H := H) k (zs.drop len)).length = zs.length := by
      simp [lits]
      omega
    rw [h1] at z
    exact Nat.le_trans (Nat.mul_le_mul_right _ hl2) z
end Go.Proofs.YtodmemndaaiolaaW.PrintWords
namespace Go.Proofs.Ytodmemndaaiolaa.shipMost
open Go.ChangeShapes Go.WideShapes Go.ChangeAt Go.RowKit
open Go.ChangeMaps (open_string shut_string)
set_option linter.unusedVariables false
theorem own : ownKnob Try.prog.godebug = none := by kernel_rfl
theorem laidOut : laidOutB Try.prog = true := by kernel_rfl
def IsRow (k : IntKind) (w : World) (a : Option Addr) (len cap : Nat) (zs : List Int) : Prop :=
  (a = none ∧ len = 0 ∧ cap = 0 ∧ zs = []) ∨
  ∃ x, a = some x ∧ len ≤ cap ∧ cap ≤ maxLen ∧ zs.length = cap ∧ (∀ i, i < zs.length → w.cell? (x.add i) = some (.int k (zs.getD i 0))) ∧ ∀ n ∈ zs, (Lit.int k n).wf = true
set_option maxRecDepth 100000 in
theorem lifted (os : Os) (started : os.Started) (H : Type) (enc : TypeId × Value → H) :
    ReturnsInHanded {} Try.checked os 11 .any (Rows.shipMostSpec.pre6 enc Try.prog Try.f11 Rows.shipMostRow.domain false) (Rows.shipMostSpec.post enc Try.prog Try.f11 false true false false) := by
  refine returnsInHanded_of_change_sized (C := Try.checked) own started (by kernel_rfl) Try.func11
    (ChangeSpec.witness6 (enc := enc) (C := Try.checked) false ⟨#[], #[.slice none 0 0], []⟩ 8 (by kernel_rfl) (by kernel_rfl) (by kernel_rfl) (by kernel_rfl)) ?_
  intro W base args ds gs before hval0 hW hcnd hsz0 _
  have hsz : (DataW.weightsEach Try.prog (Try.f11.params.toList ++ Rows.shipMostSpec.plain.varTypes Try.prog) (ds ++ gs)).all (· ≤ reachBytes) = true := hsz0
  have hval : ∀ (j : Nat) t v, Try.f11.params[j]? = some t → args[j]? = some v → Value.okWide Try.prog W .any base t v := hval0
  have hW' := hW
  obtain ⟨p, q, hA0, hV, rfl, hfz, hnd⟩ := hW
  have hA : DataW.TrodAll enc Try.prog W 0 (fun _ => true) true Try.f11.params.toList args.toList ds p := hA0
  rw [Try.params11] at hA hval hsz
  obtain ⟨v0, vs0, d0, ds0, p0, q0, hargs, rfl, rfl, h0, r0⟩ := trodAll_cons hA
  obtain ⟨rfl, rfl, rfl⟩ := trodAll_nil r0
  obtain rfl : args = #[v0] := by cases args; simp_all
  obtain ⟨rfl, rfl⟩ := trodVars_none hV
  obtain ⟨a0, len0, cap0, rfl⟩ := okWide_slice Try.underlying27 (hval 0 27 v0 rfl rfl)
  have k0 := h0
  have lt0 : ∀ x ∈ p0, x.block < W.heap.size := by obtain ⟨m, hm⟩ := k0; exact DataW.trod_lt m _ _ _ hm
  obtain ⟨z0, w0⟩ : ∃ zs, IsRow .i64 W a0 len0 cap0 zs := by
    obtain ⟨fuel, hf⟩ := h0
    rcases open_ints Try.underlying27 Try.underlying3 (by kernel_rfl) hf with ⟨hcs, _⟩ | ⟨x, l, c, zs, hcs, _, hl, hm, hz, _, hcell, hwz⟩
    · simp [Value.cells] at hcs
      obtain ⟨rfl, rfl, rfl⟩ := hcs
      exact ⟨[], .inl ⟨rfl, rfl, rfl, rfl⟩⟩
    · simp [Value.cells] at hcs
      obtain ⟨rfl, rfl, rfl⟩ := hcs
      exact ⟨zs, .inr ⟨_, rfl, hl, hm, by simpa using hz, hcell, hwz⟩⟩
  have y0 : len0 * 8 ≤ 140737488351232 := Go.Proofs.YtodmemndaaiolaaW.PrintWords.sized_ints hsz (j := 0) (t := 27) rfl rfl Try.underlying27 Try.underlying3 (by kernel_rfl) (by kernel_rfl) h0
  clear hA0 hval0 hsz0 hsz
  refine (PC7.swarflaw07_ShipMost.walk Pure.ShipMost a0 len0 cap0 z0 W w0 y0).mono fun e W' ⟨he, bel⟩ => ?_
  subst he
  exact ⟨_, rfl, _, _, _, [], _, [], hW', trodAll_mk1 (shut_bool Try.underlying4 _), (trodAll_cons_mk (Below.trod laidOut (by kernel_rfl) (of_decide_eq_true (by kernel_rfl)) k0 bel lt0) trodAll_mk0), rfl, bel.frame _, fun h => by cases h⟩
theorem over : Rows.shipMostRow.holds Try.pinned (OpenSpec.ofChange Rows.shipMostSpec) :=
  OpenClaim.holds_of_wide 11 Try.f11 rfl rfl rfl rfl rfl rfl rfl ⟨rfl, rfl, rfl, rfl, rfl⟩ rfl rfl rfl rfl rfl (by kernel_rfl) Try.func11 (by kernel_rfl)
    (of_decide_eq_true (by kernel_rfl)) (by unfold Func.isWrapper; first | (rw [if_pos (by decide +kernel)]; kernel_rfl) | (rw [if_neg (by decide +kernel)]; exact ⟨rfl, rfl⟩))
    (fun os started H enc _ => lifted os started H enc)
theorem proved : Rows.ShipMostSaid := over
#print axioms proved
end Go.Proofs.Ytodmemndaaiolaa.shipMost
namespace Go.Proofs.Ytodmemndaaiolaa
theorem shipMost_holds : Rows.ShipMostSaid := shipMost.proved
end Go.Proofs.Ytodmemndaaiolaa
