/- Lemmas on the way to this: The order of Work keeps all rules, has all that is left to do and nothing else, and no order is quicker, nor as quick and comes before: for every list of numbers of the size that Go can hold. -/
import Derived.Test.YtkkmfcdikkiodaaCStripWorked1
import Derived.Test.YtkkmfcdikkiodaaCStripWorked2
import Derived.Deep.RegionLaw
namespace Go.Proofs.Ytkkmfcdikkiodaa.PC4
open Go.RowKit Go.Proofs.YtkkmfcdikkiodaaW.PrintWords Go.Proofs.YtkkmfcdikkiodaaW.PrintLast Go.Proofs.YtkkmfcdikkiodaaW.PrintMore
attribute [local go_sem] max2_int min2_int max_two min_two max_three min_three max_four min_four
set_option linter.unusedVariables false
set_option linter.unusedSimpArgs false
def swarfkit_Feed_Either.f (s0_0 : Int) (l1 : List Int) : Option (Int × Int) := if (l1.length : Int) = 0 then (some (0, s0_0)) else ((swarfkit_Feed_Below.f s0_0 (l1.length : Int)).bind fun bt196 => (if 0 ≤ bt196.1 then (if bt196.1 < (l1.length : Int) then (some (rd l1 bt196.1, bt196.2)) else (none)) else (none)))
set_option maxHeartbeats 8000000 in
set_option maxRecDepth 100000 in
theorem swarfkit_Feed_Either.calls (g : Nat) (s0_0 : Int) (A1 : Option Addr) (c1 : Nat) (l1 : List Int) (r1 : Int) (r2 : Int) (w0 w : World) (hI : IsS79 w0 w g s0_0) (hB : Below w0.heap.size w0 w) (hr1 : Kd.C (Kd.int .i64) w A1 l1.length l1) (hc1 : l1.length ≤ c1) (hf1 : ∀ ad, A1 = some ad → 0 < l1.length → ad.block ≠ g) (h : swarfkit_Feed_Either.f s0_0 l1 = some (r1, r2)) :
  Calls Try.prog 24 #[.pointer (some ⟨g, 0, none⟩), .slice A1 l1.length c1] w fun e w' => e = .returned (.int .i64 r1) ∧ IsS79 w0 w' g r2 ∧ Below w0.heap.size w0 w' ∧ KeepBut w w' g none := by
 have HR1 := Aside0.mk hr1
 have HC1 := Aside0.mk hc1
 clear hr1 hc1
 have HI0 := Aside0.mk hI
 have HK := Aside0.mk (KeepBut.refl w g none)
 have HL := Aside0.mk hB.size
 clear hI
 have HW0 := Aside0.mk hB.size
 have HB := Aside0.mk hB
 clear hB
 have H : (if (l1.length : Int) = 0 then (some (0, s0_0)) else ((swarfkit_Feed_Below.f s0_0 (l1.length : Int)).bind fun bt196 => (if 0 ≤ bt196.1 then (if bt196.1 < (l1.length : Int) then (some (rd l1 bt196.1, bt196.2)) else (none)) else (none)))) = some (r1, r2) := h
 clear h
 by_cases c3 : (l1.length : Int) = 0
 ·
  rw [if_pos c3] at H
  have c3b0 : ((l1.length : Int) == 0) = true := beq_iff_eq.mpr c3
  have c3b1 : ((l1.length : Int) != 0) = false := bne_eq_false_iff_eq.mpr c3
  clear c3
  simp only [Option.some.injEq, Prod.mk.injEq] at H
  obtain ⟨rfl, rfl⟩ := H
  go_enter Try.func24, Try.ntmps24
  go_wp2
  go_ret
  exact ⟨by first | rfl | (simp [errW_none, errW_some] <;> rfl) | (simp [*, errW_none, errW_some] <;> rfl), by repeat (first | (with_reducible first | exact HI0.out | apply IsS79.alloc | apply IsS79.drewN | apply IsS79.drew | apply IsS79.set_0) | exact HI0.out), by repeat (first | (with_reducible first | exact HB.out | apply below_alloc | apply pw_below_drewN | apply below_drew1 | refine below_set ?_ (IsS79.ge HI0.out)) | exact HB.out), by repeat (first | (with_reducible first | exact HK.out | apply KeepBut.set_ | apply keep_drewN | apply keep_drew | apply keep_alloc) | exact HK.out)⟩
 ·
  rw [if_neg c3] at H
  have c3b0 : ((l1.length : Int) == 0) = false := beq_eq_false_iff_ne.mpr c3
  have c3b1 : ((l1.length : Int) != 0) = true := bne_iff_ne.mpr c3
  have c3b2 : ¬ (l1 = []) := fun h_ => c3 (by rw [h_]; rfl)
  replace H := Option.bind_eq_some_iff.mp H
  obtain ⟨⟨t196, t197⟩, A40, H⟩ := H
  replace H : (if 0 ≤ t196 then (if t196 < (l1.length : Int) then (some (rd l1 t196, t197)) else (none)) else (none)) = some (r1, r2) := H
  have A4 := Aside0.mk A40
  clear A40
  by_cases c5 : 0 ≤ t196
  ·
   rw [if_pos c5] at H
   have c5b0 : decide (0 ≤ t196) = true := decide_eq_true c5
   clear c5
   by_cases c6 : t196 < (l1.length : Int)
   ·
    rw [if_pos c6] at H
    have c6b0 : decide (t196 < (l1.length : Int)) = true := decide_eq_true c6
    clear c6
    simp only [Option.some.injEq, Prod.mk.injEq] at H
    obtain ⟨rfl, rfl⟩ := H
    go_enter Try.func24, Try.ntmps24
    go_wp2_with (first | ((with_reducible refine gate_callee (f := 25) rfl ?_); refine goesL_ (some 12) rfl rfl Try.func25 (by kernel_rfl) rfl #[.pointer (some ⟨g, 0, none⟩), .int .i64 (l1.length : Int)] rfl (by (try simp only [List.map_toArray, List.map_cons, List.map_nil]); first | done | rfl | (simp only [List.length_drop, List.length_take]; rfl)) ?_; (with_reducible refine (swarfkit_Feed_Below.calls g s0_0 (l1.length : Int) t196 t197 w0 _ ?side1 ?side2 A4.out).mono ?_); (case side1 => repeat (first | (with_reducible first | exact HI0.out | apply IsS79.alloc | apply IsS79.drewN | apply IsS79.drew | apply IsS79.set_0) | exact HI0.out)); (case side2 => repeat (first | (with_reducible first | exact HB.out | apply below_alloc | apply pw_below_drewN | apply below_drew1 | refine below_set ?_ (IsS79.ge HI0.out)) | exact HB.out)); rintro e w7 ⟨rfl, hi, hb, hk⟩; refine ⟨_, rfl, ?_⟩; have n0_ := Aside0.mk (KeepBut.trans (by repeat (first | (with_reducible first | exact HK.out | apply KeepBut.set_ | apply keep_drewN | apply keep_drew | apply keep_alloc) | exact HK.out)) hk (.inl rfl)); have n1_ := Aside0.mk (hb); have n2_ := Aside0.mk (hi); clear HK; clear HB; clear HI0; have HK := n0_; have HB := n1_; have HI0 := n2_; clear n0_ n1_ n2_; (try clear hb); (try clear hb2); (try clear hk); (try clear hi); have p198 : 0 ≤ (t196 : Int) := of_decide_eq_true (by first | (with_reducible assumption) | assumption); have q198 : t196 < (l1.length : Int) := of_decide_eq_true (by first | (with_reducible assumption) | assumption); obtain ⟨ad198, e198, hx198_0⟩ := Kd.at_int HR1.out t196 p198 q198; cases e198; replace hx198_0 := keep_cell HK.out hx198_0 (by first | (rw [add_block]; exact hf1 _ rfl (by omega)) | exact hf1 _ rfl (by omega) | exact hf1 ad198 rfl (by omega)); replace p198 := eq_true p198; replace q198 := eq_true q198))
    go_ret
    exact ⟨by first | rfl | (simp [errW_none, errW_some] <;> rfl) | (simp [*, errW_none, errW_some] <;> rfl), by repeat (first | (with_reducible first | exact HI0.out | apply IsS79.alloc | apply IsS79.drewN | apply IsS79.drew | apply IsS79.set_0) | exact HI0.out), by repeat (first | (with_reducible first | exact HB.out | apply below_alloc | apply pw_below_drewN | apply below_drew1 | refine below_set ?_ (IsS79.ge HI0.out)) | exact HB.out), by repeat (first | (with_reducible first | exact HK.out | apply KeepBut.set_ | apply keep_drewN | apply keep_drew | apply keep_alloc) | exact HK.out)⟩
   ·
    rw [if_neg c6] at H
    exact absurd H (by simp)
  ·
   rw [if_neg c5] at H
   exact absurd H (by simp)
end Go.Proofs.Ytkkmfcdikkiodaa.PC4
namespace Go.Proofs.Ytkkmfcdikkiodaa.PC4
open Go.RowKit Go.Proofs.YtkkmfcdikkiodaaW.PrintWords Go.Proofs.YtkkmfcdikkiodaaW.PrintLast Go.Proofs.YtkkmfcdikkiodaaW.PrintMore
attribute [local go_sem] max2_int min2_int max_two min_two max_three min_three max_four min_four
set_option linter.unusedVariables false
set_option linter.unusedSimpArgs false
def swarfref04_Wrongs.l0 : Nat → List Bool → Int → Int → List (S50) → Int → List (S61) → Int → List Int → Option (Int)
 | 0, _, _, _, _, _, _, _, _ => none
 | k + 1, x1, x5, x6, x200000, x200001, x200002, x200003, x200004 => if x6 < (x200002.length : Int) then (if 0 ≤ x6 then (if 0 ≤ ((rd_T61 x200002 x6).f0) then (if ((rd_T61 x200002 x6).f0) < (x1.length : Int) then (if ((rdOf false x1 ((rd_T61 x200002 x6).f0)) != ((rd_T61 x200002 x6).f1)) = true then (swarfref04_Wrongs.l0 k x1 (wrap64 (x5 + 1)) (wrap64 (x6 + 1)) x200000 x200001 x200002 x200003 x200004) else (swarfref04_Wrongs.l0 k x1 x5 (wrap64 (x6 + 1)) x200000 x200001 x200002 x200003 x200004)) else (none)) else (none)) else (none)) else (some x5)
def swarfref04_Wrongs.f (k : Nat) (l0_0 : List (S50)) (a0_1 : Int) (l0_2 : List (S61)) (a0_3 : Int) (l0_4 : List Int) (l1 : List Bool) : Option (Int) := swarfref04_Wrongs.l0 k l1 0 0 l0_0 a0_1 l0_2 a0_3 l0_4
theorem swarfref04_Wrongs.mono_l : ∀ k, (∀ y0 y1 y2 y3 y4 y5 y6 y7, LeO (swarfref04_Wrongs.l0 k y0 y1 y2 y3 y4 y5 y6 y7) (swarfref04_Wrongs.l0 (k + 1) y0 y1 y2 y3 y4 y5 y6 y7))
 | 0 => fun _ _ _ _ _ _ _ _ r h => by simp [swarfref04_Wrongs.l0] at h
 | k + 1 => by
  have ih0 := swarfref04_Wrongs.mono_l k
  ·
   intro y0 y1 y2 y3 y4 y5 y6 y7
   unfold swarfref04_Wrongs.l0
   repeat' first
   | (with_reducible exact ih0 _ _ _ _ _ _ _ _)
   | (with_reducible exact LeO.refl _)
   | (with_reducible exact LeO.none _)
   | (with_reducible refine LeO.ite ?_ ?_)
   | (with_reducible refine LeO.bind ?_ (fun _ => ?_))
   | exact ih0 _ _ _ _ _ _ _ _
   | exact LeO.none _
   | refine LeO.ite ?_ ?_
   | refine LeO.bind ?_ (fun _ => ?_)
theorem swarfref04_Wrongs.mono : ∀ a0 a1 a2 a3 a4 a5 k, LeO (swarfref04_Wrongs.f k a0 a1 a2 a3 a4 a5) (swarfref04_Wrongs.f (k + 1) a0 a1 a2 a3 a4 a5) := by
 intro a0 a1 a2 a3 a4 a5 k
 have ih0 := swarfref04_Wrongs.mono_l k
 unfold swarfref04_Wrongs.f
 repeat' first
   | (with_reducible exact ih0 _ _ _ _ _ _ _ _)
   | (with_reducible exact LeO.refl _)
   | (with_reducible exact LeO.none _)
   | (with_reducible refine LeO.ite ?_ ?_)
   | (with_reducible refine LeO.bind ?_ (fun _ => ?_))
   | exact ih0 _ _ _ _ _ _ _ _
   | exact LeO.none _
   | refine LeO.ite ?_ ?_
   | refine LeO.bind ?_ (fun _ => ?_)
set_option maxHeartbeats 8000000 in
set_option maxRecDepth 100000 in
theorem swarfref04_Wrongs.calls (k : Nat) (A0_0 : Option Addr) (c0_0 : Nat) (l0_0 : List (S50)) (a0_1 : Int) (A0_2 : Option Addr) (c0_2 : Nat) (l0_2 : List (S61)) (a0_3 : Int) (A0_4 : Option Addr) (c0_4 : Nat) (l0_4 : List Int) (A1 : Option Addr) (c1 : Nat) (l1 : List Bool) (r : Int) (w : World) (hr0_0 : Kd.C k50 w A0_0 l0_0.length l0_0) (hc0_0 : l0_0.length ≤ c0_0) (hr0_2 : Kd.C k61 w A0_2 l0_2.length l0_2) (hc0_2 : l0_2.length ≤ c0_2) (hr0_4 : Kd.C (Kd.int .i64) w A0_4 l0_4.length l0_4) (hc0_4 : l0_4.length ≤ c0_4) (hr1 : Kd.C Kd.bool w A1 l1.length l1) (hc1 : l1.length ≤ c1) (h : swarfref04_Wrongs.f k l0_0 a0_1 l0_2 a0_3 l0_4 l1 = some r) :
  Calls Try.prog 28 #[.agg #[.slice A0_0 l0_0.length c0_0, .int .i64 a0_1, .slice A0_2 l0_2.length c0_2, .int .i64 a0_3, .slice A0_4 l0_4.length c0_4], .slice A1 l1.length c1] w fun e w' => e = .returned (.int .i64 r) ∧ Below w.heap.size w w' := by
 have hu26 := Try.underlying26
 have HR0_0 := Aside0.mk hr0_0
 have HC0_0 := Aside0.mk hc0_0
 clear hr0_0 hc0_0
 have HR0_2 := Aside0.mk hr0_2
 have HC0_2 := Aside0.mk hc0_2
 clear hr0_2 hc0_2
 have HR0_4 := Aside0.mk hr0_4
 have HC0_4 := Aside0.mk hc0_4
 clear hr0_4 hc0_4
 have HR1 := Aside0.mk hr1
 have HC1 := Aside0.mk hc1
 clear hr1 hc1
 have HB := Aside0.mk (Below.refl w.heap.size w)
 have H : (swarfref04_Wrongs.l0 k l1 0 0 l0_0 a0_1 l0_2 a0_3 l0_4) = some r := h
 clear h
 have H' := Aside0.mk H
 clear H
 go_enter Try.func28, Try.ntmps28
 go_wp2_with (first | ((with_reducible refine gate_dst (N := 2) rfl ?_); refine box_event ?hg (N := 2) ?hd (cs := #[.slice A0_0 l0_0.length c0_0, .int .i64 a0_1, .slice A0_2 l0_2.length c0_2, .int .i64 a0_3, .slice A0_4 l0_4.length c0_4]) (t := 26) ?hr ?_; (case hd => rfl); (case hg => rfl); (case hr => first | (go_simp; done) | (go_simp; rfl)); intro gb199 hg w3 hbox hb; have n0_ := Aside0.mk (below_step (below_x HB.out) hb); have n1_ := Aside0.mk (hbox); have n2_ := Aside0.mk ((by rw [hg]; exact (below_size (below_x HB.out)) : w.heap.size ≤ gb199)); have n3_ := Aside0.mk ((by rw [hg]; exact (below_size (below_x HB.out)) : w.heap.size ≤ gb199)); clear HB; have HB := n0_; have BK199 := n1_; have GW199 := n2_; have GE199 := n3_; clear n0_ n1_ n2_ n3_; clear hb hbox hg))
 repeat (go_quiet (first | ((with_reducible refine gate_dst (N := 2) rfl ?_); refine box_event ?hg (N := 2) ?hd (cs := #[.slice A0_0 l0_0.length c0_0, .int .i64 a0_1, .slice A0_2 l0_2.length c0_2, .int .i64 a0_3, .slice A0_4 l0_4.length c0_4]) (t := 26) ?hr ?_; (case hd => rfl); (case hg => rfl); (case hr => first | (go_simp; done) | (go_simp; rfl)); intro gb199 hg w3 hbox hb; have n0_ := Aside0.mk (below_step (below_x HB.out) hb); have n1_ := Aside0.mk (hbox); have n2_ := Aside0.mk ((by rw [hg]; exact (below_size (below_x HB.out)) : w.heap.size ≤ gb199)); have n3_ := Aside0.mk ((by rw [hg]; exact (below_size (below_x HB.out)) : w.heap.size ≤ gb199)); clear HB; have HB := n0_; have BK199 := n1_; have GW199 := n2_; have GE199 := n3_; clear n0_ n1_ n2_ n3_; clear hb hbox hg)); try go_wp2_with (first | ((with_reducible refine gate_dst (N := 2) rfl ?_); refine box_event ?hg (N := 2) ?hd (cs := #[.slice A0_0 l0_0.length c0_0, .int .i64 a0_1, .slice A0_2 l0_2.length c0_2, .int .i64 a0_3, .slice A0_4 l0_4.length c0_4]) (t := 26) ?hr ?_; (case hd => rfl); (case hg => rfl); (case hr => first | (go_simp; done) | (go_simp; rfl)); intro gb199 hg w3 hbox hb; have n0_ := Aside0.mk (below_step (below_x HB.out) hb); have n1_ := Aside0.mk (hbox); have n2_ := Aside0.mk ((by rw [hg]; exact (below_size (below_x HB.out)) : w.heap.size ≤ gb199)); have n3_ := Aside0.mk ((by rw [hg]; exact (below_size (below_x HB.out)) : w.heap.size ≤ gb199)); clear HB; have HB := n0_; have BK199 := n1_; have GW199 := n2_; have GE199 := n3_; clear n0_ n1_ n2_ n3_; clear hb hbox hg)))
 go_loopg [5, 6] k (fun kq v5 v6 w' => ∃ (x5_1 : Int) (x6_1 : Int), v5 = .int .i64 x5_1 ∧ v6 = .int .i64 x6_1 ∧ Aside0 (swarfref04_Wrongs.l0 kq l1 x5_1 x6_1 l0_0 a0_1 l0_2 a0_3 l0_4 = some r) ∧ Aside0 (kq ≤ k) ∧ Aside0 (w'.heap[gb199]? = some (.cells #[(.slice A0_0 l0_0.length c0_0), .int .i64 a0_1, (.slice A0_2 l0_2.length c0_2), .int .i64 a0_3, (.slice A0_4 l0_4.length c0_4)] 26 (0, 0))) ∧ Aside0 (Below w.heap.size w w'))
 case atStart => exact ⟨(0), (0), (by first | rfl | (simp; done) | (simp [*]; done)), (by first | rfl | (simp; done) | (simp [*]; done)), H', ⟨Nat.le_refl _⟩, ⟨by (with_reducible repeat (first | refine blk_drewN ?_ _ | refine blk_drew ?_ | refine blk_alloc ?_ _)); exact BK199.out⟩, ⟨by repeat (first | (with_reducible first | exact HB.out | apply below_alloc | apply pw_below_drewN | apply below_drew1 | refine below_set ?_ GE199.out) | exact HB.out)⟩⟩
 case round =>
  clear H'
  try clear c1
  try clear c2
  try clear p2
  obtain ⟨x5_1, x6_1, rfl, rfl, HA, HK1, BK199, HB⟩ := hrel
  cases gk with
  | zero => exact absurd HA.out (by simp [swarfref04_Wrongs.l0])
  | succ k1 =>
   have H := HA.out
   clear HA
   simp only [swarfref04_Wrongs.l0] at H
   by_cases c4 : x6_1 < (l0_2.length : Int)
   ·
    rw [if_pos c4] at H
    have c4b0 : decide (x6_1 < (l0_2.length : Int)) = true := decide_eq_true c4
    clear c4
    by_cases c5 : 0 ≤ x6_1
    ·
     rw [if_pos c5] at H
     have c5b0 : decide (0 ≤ x6_1) = true := decide_eq_true c5
     clear c5
     by_cases c6 : 0 ≤ ((rd_T61 l0_2 x6_1).f0)
     ·
      rw [if_pos c6] at H
      have c6b0 : decide (0 ≤ ((rd_T61 l0_2 x6_1).f0)) = true := decide_eq_true c6
      clear c6
      by_cases c7 : ((rd_T61 l0_2 x6_1).f0) < (l1.length : Int)
      ·
       rw [if_pos c7] at H
       have c7b0 : decide (((rd_T61 l0_2 x6_1).f0) < (l1.length : Int)) = true := decide_eq_true c7
       clear c7
       by_cases c8 : ((rdOf false l1 ((rd_T61 l0_2 x6_1).f0)) != ((rd_T61 l0_2 x6_1).f1)) = true
       ·
        rw [if_pos c8] at H
        have c8b0 : ((rdOf false l1 ((rd_T61 l0_2 x6_1).f0)) != ((rd_T61 l0_2 x6_1).f1)) = true := c8
        (try (have c8b1 : decide ((rdOf false l1 ((rd_T61 l0_2 x6_1).f0)) = ((rd_T61 l0_2 x6_1).f1)) = false := by simpa using c8))
        (try (have c8b2 : ((rdOf false l1 ((rd_T61 l0_2 x6_1).f0)) == ((rd_T61 l0_2 x6_1).f1)) = false := by simpa using c8))
        (try (have c8b3 : ¬ ((rdOf false l1 ((rd_T61 l0_2 x6_1).f0)) = ((rd_T61 l0_2 x6_1).f1)) := by simpa using c8))
        clear c8
        have H' := Aside0.mk H
        clear H
        have hcz9_0 : wr.cell? ⟨gb199, 0, none⟩ = some (.slice A0_0 l0_0.length c0_0) := (blk_cell BK199.out 0).trans rfl
        have hcz9_1 : wr.cell? ⟨gb199, 1, none⟩ = some (.int .i64 a0_1) := (blk_cell BK199.out 1).trans rfl
        have hcz9_2 : wr.cell? ⟨gb199, 2, none⟩ = some (.slice A0_2 l0_2.length c0_2) := (blk_cell BK199.out 2).trans rfl
        have hcz9_3 : wr.cell? ⟨gb199, 3, none⟩ = some (.int .i64 a0_3) := (blk_cell BK199.out 3).trans rfl
        have hcz9_4 : wr.cell? ⟨gb199, 4, none⟩ = some (.slice A0_4 l0_4.length c0_4) := (blk_cell BK199.out 4).trans rfl
        have hfz9_0 := blk_frozen BK199.out 0
        have hfz9_1 := blk_frozen BK199.out 1
        have hfz9_2 := blk_frozen BK199.out 2
        have hfz9_3 := blk_frozen BK199.out 3
        have hfz9_4 := blk_frozen BK199.out 4
        have p200 : 0 ≤ (x6_1 : Int) := of_decide_eq_true (by first | (with_reducible assumption) | assumption)
        have q200 : x6_1 < (l0_2.length : Int) := of_decide_eq_true (by first | (with_reducible assumption) | assumption)
        obtain ⟨ad200, e200, hx200_0, hx200_1⟩ := at_T61 HR0_2.out x6_1 p200 q200
        cases e200
        replace hx200_0 := (HB.out.cell (World.block_lt_of_cell? w _ hx200_0)).trans hx200_0
        replace hx200_1 := (HB.out.cell (World.block_lt_of_cell? w _ hx200_1)).trans hx200_1
        replace p200 := eq_true p200
        replace q200 := eq_true q200
        have p201 : 0 ≤ (((rd_T61 l0_2 x6_1).f0) : Int) := of_decide_eq_true (by first | (with_reducible assumption) | assumption)
        have q201 : ((rd_T61 l0_2 x6_1).f0) < (l1.length : Int) := of_decide_eq_true (by first | (with_reducible assumption) | assumption)
        obtain ⟨ad201, e201, hx201_0⟩ := Kd.at_bool HR1.out ((rd_T61 l0_2 x6_1).f0) p201 q201
        cases e201
        replace hx201_0 := (HB.out.cell (World.block_lt_of_cell? w _ hx201_0)).trans hx201_0
        replace p201 := eq_true p201
        replace q201 := eq_true q201
        have p202 : 0 ≤ (x6_1 : Int) := of_decide_eq_true (by first | (with_reducible assumption) | assumption)
        have q202 : x6_1 < (l0_2.length : Int) := of_decide_eq_true (by first | (with_reducible assumption) | assumption)
        obtain ⟨ad202, e202, hx202_0, hx202_1⟩ := at_T61 HR0_2.out x6_1 p202 q202
        obtain rfl : ad200 = ad202 := (by injection e202)
        replace hx202_0 := (HB.out.cell (World.block_lt_of_cell? w _ hx202_0)).trans hx202_0
        replace hx202_1 := (HB.out.cell (World.block_lt_of_cell? w _ hx202_1)).trans hx202_1
        replace p202 := eq_true p202
        replace q202 := eq_true q202
        go_wp2
        repeat (go_quiet (fail); try go_wp2)
        go_roundg k1
        case measure => have := HK1.out; omega
        case rel => exact ⟨(wrap64 (x5_1 + 1)), (wrap64 (x6_1 + 1)), (by first | rfl | (simp; done) | (simp [*]; done)), (by first | rfl | (simp; done) | (simp [*]; done)), H', ⟨by have := HK1.out; omega⟩, ⟨by (with_reducible repeat (first | refine blk_drewN ?_ _ | refine blk_drew ?_ | refine blk_alloc ?_ _)); exact BK199.out⟩, ⟨by repeat (first | (with_reducible first | exact HB.out | apply below_alloc | apply pw_below_drewN | apply below_drew1 | refine below_set ?_ GE199.out) | exact HB.out)⟩⟩
       ·
        rw [if_neg c8] at H
        have c8b0 : ((rdOf false l1 ((rd_T61 l0_2 x6_1).f0)) != ((rd_T61 l0_2 x6_1).f1)) = false := by simpa using c8
        (try (have c8b1 : decide ((rdOf false l1 ((rd_T61 l0_2 x6_1).f0)) = ((rd_T61 l0_2 x6_1).f1)) = true := by simpa using c8))
        (try (have c8b2 : ((rdOf false l1 ((rd_T61 l0_2 x6_1).f0)) == ((rd_T61 l0_2 x6_1).f1)) = true := by simpa using c8))
        clear c8
        have H' := Aside0.mk H
        clear H
        have hcz10_0 : wr.cell? ⟨gb199, 0, none⟩ = some (.slice A0_0 l0_0.length c0_0) := (blk_cell BK199.out 0).trans rfl
        have hcz10_1 : wr.cell? ⟨gb199, 1, none⟩ = some (.int .i64 a0_1) := (blk_cell BK199.out 1).trans rfl
        have hcz10_2 : wr.cell? ⟨gb199, 2, none⟩ = some (.slice A0_2 l0_2.length c0_2) := (blk_cell BK199.out 2).trans rfl
        have hcz10_3 : wr.cell? ⟨gb199, 3, none⟩ = some (.int .i64 a0_3) := (blk_cell BK199.out 3).trans rfl
        have hcz10_4 : wr.cell? ⟨gb199, 4, none⟩ = some (.slice A0_4 l0_4.length c0_4) := (blk_cell BK199.out 4).trans rfl
        have hfz10_0 := blk_frozen BK199.out 0
        have hfz10_1 := blk_frozen BK199.out 1
        have hfz10_2 := blk_frozen BK199.out 2
        have hfz10_3 := blk_frozen BK199.out 3
        have hfz10_4 := blk_frozen BK199.out 4
        have p200 : 0 ≤ (x6_1 : Int) := of_decide_eq_true (by first | (with_reducible assumption) | assumption)
        have q200 : x6_1 < (l0_2.length : Int) := of_decide_eq_true (by first | (with_reducible assumption) | assumption)
        obtain ⟨ad200, e200, hx200_0, hx200_1⟩ := at_T61 HR0_2.out x6_1 p200 q200
        cases e200
        replace hx200_0 := (HB.out.cell (World.block_lt_of_cell? w _ hx200_0)).trans hx200_0
        replace hx200_1 := (HB.out.cell (World.block_lt_of_cell? w _ hx200_1)).trans hx200_1
        replace p200 := eq_true p200
        replace q200 := eq_true q200
        have p201 : 0 ≤ (((rd_T61 l0_2 x6_1).f0) : Int) := of_decide_eq_true (by first | (with_reducible assumption) | assumption)
        have q201 : ((rd_T61 l0_2 x6_1).f0) < (l1.length : Int) := of_decide_eq_true (by first | (with_reducible assumption) | assumption)
        obtain ⟨ad201, e201, hx201_0⟩ := Kd.at_bool HR1.out ((rd_T61 l0_2 x6_1).f0) p201 q201
        cases e201
        replace hx201_0 := (HB.out.cell (World.block_lt_of_cell? w _ hx201_0)).trans hx201_0
        replace p201 := eq_true p201
        replace q201 := eq_true q201
        have p202 : 0 ≤ (x6_1 : Int) := of_decide_eq_true (by first | (with_reducible assumption) | assumption)
        have q202 : x6_1 < (l0_2.length : Int) := of_decide_eq_true (by first | (with_reducible assumption) | assumption)
        obtain ⟨ad202, e202, hx202_0, hx202_1⟩ := at_T61 HR0_2.out x6_1 p202 q202
        obtain rfl : ad200 = ad202 := (by injection e202)
        replace hx202_0 := (HB.out.cell (World.block_lt_of_cell? w _ hx202_0)).trans hx202_0
        replace hx202_1 := (HB.out.cell (World.block_lt_of_cell? w _ hx202_1)).trans hx202_1
        replace p202 := eq_true p202
        replace q202 := eq_true q202
        go_wp2
        repeat (go_quiet (fail); try go_wp2)
        go_roundg k1
        case measure => have := HK1.out; omega
        case rel => exact ⟨(x5_1), (wrap64 (x6_1 + 1)), (by first | rfl | (simp; done) | (simp [*]; done)), (by first | rfl | (simp; done) | (simp [*]; done)), H', ⟨by have := HK1.out; omega⟩, ⟨by (with_reducible repeat (first | refine blk_drewN ?_ _ | refine blk_drew ?_ | refine blk_alloc ?_ _)); exact BK199.out⟩, ⟨by repeat (first | (with_reducible first | exact HB.out | apply below_alloc | apply pw_below_drewN | apply below_drew1 | refine below_set ?_ GE199.out) | exact HB.out)⟩⟩
      ·
       rw [if_neg c7] at H
       exact absurd H (by simp)
     ·
      rw [if_neg c6] at H
      exact absurd H (by simp)
    ·
     rw [if_neg c5] at H
     exact absurd H (by simp)
   ·
    rw [if_neg c4] at H
    have c4b0 : decide (x6_1 < (l0_2.length : Int)) = false := decide_eq_false c4
    clear c4
    obtain rfl := Option.some.inj H
    have hcz11_0 : wr.cell? ⟨gb199, 0, none⟩ = some (.slice A0_0 l0_0.length c0_0) := (blk_cell BK199.out 0).trans rfl
    have hcz11_1 : wr.cell? ⟨gb199, 1, none⟩ = some (.int .i64 a0_1) := (blk_cell BK199.out 1).trans rfl
    have hcz11_2 : wr.cell? ⟨gb199, 2, none⟩ = some (.slice A0_2 l0_2.length c0_2) := (blk_cell BK199.out 2).trans rfl
    have hcz11_3 : wr.cell? ⟨gb199, 3, none⟩ = some (.int .i64 a0_3) := (blk_cell BK199.out 3).trans rfl
    have hcz11_4 : wr.cell? ⟨gb199, 4, none⟩ = some (.slice A0_4 l0_4.length c0_4) := (blk_cell BK199.out 4).trans rfl
    have hfz11_0 := blk_frozen BK199.out 0
    have hfz11_1 := blk_frozen BK199.out 1
    have hfz11_2 := blk_frozen BK199.out 2
    have hfz11_3 := blk_frozen BK199.out 3
    have hfz11_4 := blk_frozen BK199.out 4
    go_wp2
    repeat (go_quiet (fail); try go_wp2)
    go_ret
    exact ⟨by first | rfl | (simp [errW_none, errW_some] <;> rfl) | (simp [*, errW_none, errW_some] <;> rfl), by repeat (first | (with_reducible first | exact HB.out | apply below_alloc | apply pw_below_drewN | apply below_drew1 | refine below_set ?_ GE199.out) | exact HB.out)⟩
end Go.Proofs.Ytkkmfcdikkiodaa.PC4
namespace Go.Proofs.Ytkkmfcdikkiodaa.PC4
open Go.RowKit Go.Proofs.YtkkmfcdikkiodaaW.PrintWords Go.Proofs.YtkkmfcdikkiodaaW.PrintLast Go.Proofs.YtkkmfcdikkiodaaW.PrintMore
attribute [local go_sem] max2_int min2_int max_two min_two max_three min_three max_four min_four
set_option linter.unusedVariables false
set_option linter.unusedSimpArgs false
def swarfkit_Feed_Often.f (s0_0 : Int) (a1 : Int) (a2 : Int) : Option (Bool × Int) := (swarfkit_Feed_Below.f s0_0 a2).bind fun bt203 => (some (decide (bt203.1 < a1), bt203.2))
set_option maxHeartbeats 8000000 in
set_option maxRecDepth 100000 in
theorem swarfkit_Feed_Often.calls (g : Nat) (s0_0 : Int) (a1 : Int) (a2 : Int) (r1 : Bool) (r2 : Int) (w0 w : World) (hI : IsS79 w0 w g s0_0) (hB : Below w0.heap.size w0 w) (h : swarfkit_Feed_Often.f s0_0 a1 a2 = some (r1, r2)) :
  Calls Try.prog 35 #[.pointer (some ⟨g, 0, none⟩), .int .i64 a1, .int .i64 a2] w fun e w' => e = .returned (.bool r1) ∧ IsS79 w0 w' g r2 ∧ Below w0.heap.size w0 w' ∧ KeepBut w w' g none := by
 have HI0 := Aside0.mk hI
 have HK := Aside0.mk (KeepBut.refl w g none)
 have HL := Aside0.mk hB.size
 clear hI
 have HW0 := Aside0.mk hB.size
 have HB := Aside0.mk hB
 clear hB
 have H : ((swarfkit_Feed_Below.f s0_0 a2).bind fun bt203 => (some (decide (bt203.1 < a1), bt203.2))) = some (r1, r2) := h
 clear h
 replace H := Option.bind_eq_some_iff.mp H
 obtain ⟨⟨t203, t204⟩, A40, H⟩ := H
 replace H : (some (decide (t203 < a1), t204)) = some (r1, r2) := H
 have A4 := Aside0.mk A40
 clear A40
 simp only [Option.some.injEq, Prod.mk.injEq] at H
 obtain ⟨rfl, rfl⟩ := H
 go_enter Try.func35, Try.ntmps35
 go_wp2_with (first | ((with_reducible refine gate_callee (f := 25) rfl ?_); refine goesL_ (some 9) rfl rfl Try.func25 (by kernel_rfl) rfl #[.pointer (some ⟨g, 0, none⟩), .int .i64 a2] rfl (by (try simp only [List.map_toArray, List.map_cons, List.map_nil]); first | done | rfl | (simp only [List.length_drop, List.length_take]; rfl)) ?_; (with_reducible refine (swarfkit_Feed_Below.calls g s0_0 a2 t203 t204 w0 _ ?side1 ?side2 A4.out).mono ?_); (case side1 => repeat (first | (with_reducible first | exact HI0.out | apply IsS79.alloc | apply IsS79.drewN | apply IsS79.drew | apply IsS79.set_0) | exact HI0.out)); (case side2 => repeat (first | (with_reducible first | exact HB.out | apply below_alloc | apply pw_below_drewN | apply below_drew1 | refine below_set ?_ (IsS79.ge HI0.out)) | exact HB.out)); rintro e w5 ⟨rfl, hi, hb, hk⟩; refine ⟨_, rfl, ?_⟩; have n0_ := Aside0.mk (KeepBut.trans (by repeat (first | (with_reducible first | exact HK.out | apply KeepBut.set_ | apply keep_drewN | apply keep_drew | apply keep_alloc) | exact HK.out)) hk (.inl rfl)); have n1_ := Aside0.mk (hb); have n2_ := Aside0.mk (hi); clear HK; clear HB; clear HI0; have HK := n0_; have HB := n1_; have HI0 := n2_; clear n0_ n1_ n2_; (try clear hb); (try clear hb2); (try clear hk); (try clear hi)))
 go_ret
 exact ⟨by first | rfl | (simp [errW_none, errW_some] <;> rfl) | (simp [*, errW_none, errW_some] <;> rfl), by repeat (first | (with_reducible first | exact HI0.out | apply IsS79.alloc | apply IsS79.drewN | apply IsS79.drew | apply IsS79.set_0) | exact HI0.out), by repeat (first | (with_reducible first | exact HB.out | apply below_alloc | apply pw_below_drewN | apply below_drew1 | refine below_set ?_ (IsS79.ge HI0.out)) | exact HB.out), by repeat (first | (with_reducible first | exact HK.out | apply KeepBut.set_ | apply keep_drewN | apply keep_drew | apply keep_alloc) | exact HK.out)⟩
end Go.Proofs.Ytkkmfcdikkiodaa.PC4
namespace Go.Proofs.Ytkkmfcdikkiodaa.PC4
open Go.RowKit Go.Proofs.YtkkmfcdikkiodaaW.PrintWords Go.Proofs.YtkkmfcdikkiodaaW.PrintLast Go.Proofs.YtkkmfcdikkiodaaW.PrintMore
attribute [local go_sem] max2_int min2_int max_two min_two max_three min_three max_four min_four
set_option linter.unusedVariables false
set_option linter.unusedSimpArgs false
def swarfkit_Feed_Between.f (s0_0 : Int) (a1 : Int) (a2 : Int) : Option (Int × Int) := (swarfkit_Feed_Below.f s0_0 (wrap64 ((wrap64 (a2 - a1)) + 1))).bind fun bt205 => (some (wrap64 (a1 + bt205.1), bt205.2))
set_option maxHeartbeats 8000000 in
set_option maxRecDepth 100000 in
theorem swarfkit_Feed_Between.calls (g : Nat) (s0_0 : Int) (a1 : Int) (a2 : Int) (r1 : Int) (r2 : Int) (w0 w : World) (hI : IsS79 w0 w g s0_0) (hB : Below w0.heap.size w0 w) (h : swarfkit_Feed_Between.f s0_0 a1 a2 = some (r1, r2)) :
  Calls Try.prog 46 #[.pointer (some ⟨g, 0, none⟩), .int .i64 a1, .int .i64 a2] w fun e w' => e = .returned (.int .i64 r1) ∧ IsS79 w0 w' g r2 ∧ Below w0.heap.size w0 w' ∧ KeepBut w w' g none := by
 have HI0 := Aside0.mk hI
 have HK := Aside0.mk (KeepBut.refl w g none)
 have HL := Aside0.mk hB.size
 clear hI
 have HW0 := Aside0.mk hB.size
 have HB := Aside0.mk hB
 clear hB
 have H : ((swarfkit_Feed_Below.f s0_0 (wrap64 ((wrap64 (a2 - a1)) + 1))).bind fun bt205 => (some (wrap64 (a1 + bt205.1), bt205.2))) = some (r1, r2) := h
 clear h
 replace H := Option.bind_eq_some_iff.mp H
 obtain ⟨⟨t205, t206⟩, A40, H⟩ := H
 replace H : (some (wrap64 (a1 + t205), t206)) = some (r1, r2) := H
 have A4 := Aside0.mk A40
 clear A40
 simp only [Option.some.injEq, Prod.mk.injEq] at H
 obtain ⟨rfl, rfl⟩ := H
 go_enter Try.func46, Try.ntmps46
 go_wp2_with (first | ((with_reducible refine gate_callee (f := 25) rfl ?_); refine goesL_ (some 13) rfl rfl Try.func25 (by kernel_rfl) rfl #[.pointer (some ⟨g, 0, none⟩), .int .i64 (wrap64 ((wrap64 (a2 - a1)) + 1))] rfl (by (try simp only [List.map_toArray, List.map_cons, List.map_nil]); first | done | rfl | (simp only [List.length_drop, List.length_take]; rfl)) ?_; (with_reducible refine (swarfkit_Feed_Below.calls g s0_0 (wrap64 ((wrap64 (a2 - a1)) + 1)) t205 t206 w0 _ ?side1 ?side2 A4.out).mono ?_); (case side1 => repeat (first | (with_reducible first | exact HI0.out | apply IsS79.alloc | apply IsS79.drewN | apply IsS79.drew | apply IsS79.set_0) | exact HI0.out)); (case side2 => repeat (first | (with_reducible first | exact HB.out | apply below_alloc | apply pw_below_drewN | apply below_drew1 | refine below_set ?_ (IsS79.ge HI0.out)) | exact HB.out)); rintro e w5 ⟨rfl, hi, hb, hk⟩; refine ⟨_, rfl, ?_⟩; have n0_ := Aside0.mk (KeepBut.trans (by repeat (first | (with_reducible first | exact HK.out | apply KeepBut.set_ | apply keep_drewN | apply keep_drew | apply keep_alloc) | exact HK.out)) hk (.inl rfl)); have n1_ := Aside0.mk (hb); have n2_ := Aside0.mk (hi); clear HK; clear HB; clear HI0; have HK := n0_; have HB := n1_; have HI0 := n2_; clear n0_ n1_ n2_; (try clear hb); (try clear hb2); (try clear hk); (try clear hi)))
 go_ret
 exact ⟨by first | rfl | (simp [errW_none, errW_some] <;> rfl) | (simp [*, errW_none, errW_some] <;> rfl), by repeat (first | (with_reducible first | exact HI0.out | apply IsS79.alloc | apply IsS79.drewN | apply IsS79.drew | apply IsS79.set_0) | exact HI0.out), by repeat (first | (with_reducible first | exact HB.out | apply below_alloc | apply pw_below_drewN | apply below_drew1 | refine below_set ?_ (IsS79.ge HI0.out)) | exact HB.out), by repeat (first | (with_reducible first | exact HK.out | apply KeepBut.set_ | apply keep_drewN | apply keep_drew | apply keep_alloc) | exact HK.out)⟩
end Go.Proofs.Ytkkmfcdikkiodaa.PC4
namespace Go.Proofs.Ytkkmfcdikkiodaa.PC4
open Go.RowKit Go.Proofs.YtkkmfcdikkiodaaW.PrintWords Go.Proofs.YtkkmfcdikkiodaaW.PrintLast Go.Proofs.YtkkmfcdikkiodaaW.PrintMore
attribute [local go_sem] max2_int min2_int max_two min_two max_three min_three max_four min_four
set_option linter.unusedVariables false
set_option linter.unusedSimpArgs false
mutual
def swarfkit_CarOf.l0 : Nat → Int → List Bool → Int → Int → List (S50) → Int → Int → Option ((List (S50)) × Int × (List (S61)) × Int × List Int × List Bool × Int)
 | 0, _, _, _, _, _, _, _ => none
 | k + 1, x2, x9, x10, x1000, x209000, x209001, x209003 => if x10 > 0 then ((swarfkit_Feed_Often.f x1000 1 2).bind fun bt211 => ((swarfkit_Feed_Between.f bt211.2 1 3).bind fun bt213 => ((swarfkit_Feed_Below.f bt213.2 30).bind fun bt215 => ((swarfkit_Feed_Below.f bt215.2 30).bind fun bt217 => ((swarfkit_Feed_Either.f bt217.2 (([0, bt215.1, bt217.1] : List Int))).bind fun bt222 => (swarfkit_CarOf.l1 k x2 x9 x10 (x209000.length : Int) true 0 bt222.2 x209000 x209001 x209003 ([] : List Int) bt211.1 bt213.1 bt222.1)))))) else ((swarfkit_Feed_Below.f x1000 9).bind fun bt242 => ((swarfkit_Feed_Either.f bt242.2 (([0, bt242.1] : List Int))).bind fun bt247 => ((swarfkit_Feed_Below.f bt247.2 (wrap64 (x2 + 1))).bind fun bt249 => (swarfkit_CarOf.l2 k x9 bt249.1 bt249.2 x209000 bt247.1 ([] : List (S61)) x209003))))
def swarfkit_CarOf.l1 : Nat → Int → List Bool → Int → Int → Bool → Int → Int → List (S50) → Int → Int → List Int → Bool → Int → Int → Option ((List (S50)) × Int × (List (S61)) × Int × List Int × List Bool × Int)
 | 0, _, _, _, _, _, _, _, _, _, _, _, _, _, _ => none
 | k + 1, x2, x9, x10, x11, x13, x14, x1000, x209000, x209001, x209003, x225000, x225001, x225002, x225003 => if x14 < x11 then ((swarfkit_Feed_Often.f x1000 1 4).bind fun bt225 => (if bt225.1 = true then (if x225000.length < 17592186044416 then ((some (x225000 ++ [x14] : List Int)).bind fun y227 => (if x13 = true then (if 0 ≤ x14 then (if x14 < (x9.length : Int) then (swarfkit_CarOf.l1 k x2 x9 x10 x11 (rdOf false x9 x14) (wrap64 (x14 + 1)) bt225.2 x209000 x209001 x209003 y227 x225001 x225002 x225003) else (none)) else (none)) else (swarfkit_CarOf.l1 k x2 x9 x10 x11 false (wrap64 (x14 + 1)) bt225.2 x209000 x209001 x209003 y227 x225001 x225002 x225003))) else (none)) else (swarfkit_CarOf.l1 k x2 x9 x10 x11 x13 (wrap64 (x14 + 1)) bt225.2 x209000 x209001 x209003 x225000 x225001 x225002 x225003))) else (if x209000.length < 2932031007402 then ((some (x209000 ++ [(⟨x225000, x225001, x225002, x225003⟩ : S50)] : List (S50))).bind fun y231 => (if x13 = true then ((swarfkit_Feed_Often.f x1000 3 5).bind fun bt234 => (if x9.length < 140737488355328 then (swarfkit_CarOf.l0 k x2 (x9 ++ [bt234.1]) (wrap64 (x10 - 1)) bt234.2 y231 x209001 x209003) else (none))) else (if x9.length < 140737488355328 then (swarfkit_CarOf.l0 k x2 (x9 ++ [false]) (wrap64 (x10 - 1)) x1000 y231 x209001 x209003) else (none)))) else (none))
def swarfkit_CarOf.l2 : Nat → List Bool → Int → Int → List (S50) → Int → List (S61) → Int → Option ((List (S50)) × Int × (List (S61)) × Int × List Int × List Bool × Int)
 | 0, _, _, _, _, _, _, _ => none
 | k + 1, x9, x15, x1000, x209000, x209001, x209002, x209003 => if x15 > 0 then ((swarfkit_Feed_Below.f x1000 (x209000.length : Int)).bind fun bt251 => (if 0 ≤ bt251.1 then (if bt251.1 < (x9.length : Int) then ((swarfkit_Feed_Often.f bt251.2 1 6).bind fun bt254 => (if x209002.length < 8796093022208 then (swarfkit_CarOf.l2 k x9 (wrap64 (x15 - 1)) bt254.2 x209000 x209001 (x209002 ++ [(⟨bt251.1, ((rdOf false x9 bt251.1) != bt254.1)⟩ : S61)]) x209003) else (none))) else (none)) else (none))) else ((swarfref04_Wrongs.f k x209000 x209001 x209002 x209003 ([] : List Int) x9).bind fun t259 => ((swarfkit_Feed_Either.f x1000 (([0, 0, 1] : List Int))).bind fun bt263 => (swarfkit_CarOf.l3 k x9 0 bt263.2 x209000 x209001 x209002 (mn 12 (wrap64 (t259 + bt263.1))) ([] : List Int))))
def swarfkit_CarOf.l3 : Nat → List Bool → Int → Int → List (S50) → Int → List (S61) → Int → List Int → Option ((List (S50)) × Int × (List (S61)) × Int × List Int × List Bool × Int)
 | 0, _, _, _, _, _, _, _, _ => none
 | k + 1, x9, x17, x1000, x209000, x209001, x209002, x209003, x209004 => if x17 ≤ 8 then (swarfkit_CarOf.j4 k x9 x17 (decide ((x209004.length : Int) < 3)) x1000 x209000 x209001 x209002 x209003 x209004) else (swarfkit_CarOf.j4 k x9 x17 false x1000 x209000 x209001 x209002 x209003 x209004)
def swarfkit_CarOf.j4 : Nat → List Bool → Int → Bool → Int → List (S50) → Int → List (S61) → Int → List Int → Option ((List (S50)) × Int × (List (S61)) × Int × List Int × List Bool × Int)
 | 0, _, _, _, _, _, _, _, _, _ => none
 | k + 1, x9, x17, x123, x1000, x209000, x209001, x209002, x209003, x209004 => if x123 = true then ((swarfkit_Feed_Often.f x1000 1 5).bind fun bt265 => (if bt265.1 = true then (if x209004.length < 17592186044416 then (swarfkit_CarOf.l3 k x9 (wrap64 (x17 + 1)) bt265.2 x209000 x209001 x209002 x209003 (x209004 ++ [x17])) else (none)) else (swarfkit_CarOf.l3 k x9 (wrap64 (x17 + 1)) bt265.2 x209000 x209001 x209002 x209003 x209004))) else (some (x209000, x209001, x209002, x209003, x209004, x9, x1000))
end
def swarfkit_CarOf.f (k : Nat) (s0_0 : Int) (a1 : Int) (a2 : Int) : Option ((List (S50)) × Int × (List (S61)) × Int × List Int × List Bool × Int) := (swarfkit_Feed_Between.f s0_0 1 a1).bind fun bt209 => (swarfkit_CarOf.l0 k a2 ([] : List Bool) bt209.1 bt209.2 ([] : List (S50)) 0 0)
theorem swarfkit_CarOf.mono_l : ∀ k, (∀ y0 y1 y2 y3 y4 y5 y6, LeO (swarfkit_CarOf.l0 k y0 y1 y2 y3 y4 y5 y6) (swarfkit_CarOf.l0 (k + 1) y0 y1 y2 y3 y4 y5 y6)) ∧ (∀ y0 y1 y2 y3 y4 y5 y6 y7 y8 y9 y10 y11 y12 y13, LeO (swarfkit_CarOf.l1 k y0 y1 y2 y3 y4 y5 y6 y7 y8 y9 y10 y11 y12 y13) (swarfkit_CarOf.l1 (k + 1) y0 y1 y2 y3 y4 y5 y6 y7 y8 y9 y10 y11 y12 y13)) ∧ (∀ y0 y1 y2 y3 y4 y5 y6, LeO (swarfkit_CarOf.l2 k y0 y1 y2 y3 y4 y5 y6) (swarfkit_CarOf.l2 (k + 1) y0 y1 y2 y3 y4 y5 y6)) ∧ (∀ y0 y1 y2 y3 y4 y5 y6 y7, LeO (swarfkit_CarOf.l3 k y0 y1 y2 y3 y4 y5 y6 y7) (swarfkit_CarOf.l3 (k + 1) y0 y1 y2 y3 y4 y5 y6 y7)) ∧ (∀ y0 y1 y2 y3 y4 y5 y6 y7 y8, LeO (swarfkit_CarOf.j4 k y0 y1 y2 y3 y4 y5 y6 y7 y8) (swarfkit_CarOf.j4 (k + 1) y0 y1 y2 y3 y4 y5 y6 y7 y8))
 | 0 => ⟨fun _ _ _ _ _ _ _ r h => by simp [swarfkit_CarOf.l0] at h, fun _ _ _ _ _ _ _ _ _ _ _ _ _ _ r h => by simp [swarfkit_CarOf.l1] at h, fun _ _ _ _ _ _ _ r h => by simp [swarfkit_CarOf.l2] at h, fun _ _ _ _ _ _ _ _ r h => by simp [swarfkit_CarOf.l3] at h, fun _ _ _ _ _ _ _ _ _ r h => by simp [swarfkit_CarOf.j4] at h⟩
 | k + 1 => by
  obtain ⟨ih0, ih1, ih2, ih3, ih4⟩ := swarfkit_CarOf.mono_l k
  refine ⟨?_, ?_, ?_, ?_, ?_⟩
  ·
   intro y0 y1 y2 y3 y4 y5 y6
   unfold swarfkit_CarOf.l0
   repeat' first
   | (with_reducible exact ih0 _ _ _ _ _ _ _)
   | (with_reducible exact ih1 _ _ _ _ _ _ _ _ _ _ _ _ _ _)
   | (with_reducible exact ih2 _ _ _ _ _ _ _)
   | (with_reducible exact ih3 _ _ _ _ _ _ _ _)
   | (with_reducible exact ih4 _ _ _ _ _ _ _ _ _)
   | (with_reducible exact swarfref04_Wrongs.mono _ _ _ _ _ _ _)
   | (with_reducible exact LeO.refl _)
   | (with_reducible exact LeO.none _)
   | (with_reducible refine LeO.ite ?_ ?_)
   | (with_reducible refine LeO.bind ?_ (fun _ => ?_))
   | exact ih0 _ _ _ _ _ _ _
   | exact ih1 _ _ _ _ _ _ _ _ _ _ _ _ _ _
   | exact ih2 _ _ _ _ _ _ _
   | exact ih3 _ _ _ _ _ _ _ _
   | exact ih4 _ _ _ _ _ _ _ _ _
   | exact swarfref04_Wrongs.mono _ _ _ _ _ _ _
   | exact LeO.none _
   | refine LeO.ite ?_ ?_
   | refine LeO.bind ?_ (fun _ => ?_)
  ·
   intro y0 y1 y2 y3 y4 y5 y6 y7 y8 y9 y10 y11 y12 y13
   unfold swarfkit_CarOf.l1
   repeat' first
   | (with_reducible exact ih0 _ _ _ _ _ _ _)
   | (with_reducible exact ih1 _ _ _ _ _ _ _ _ _ _ _ _ _ _)
   | (with_reducible exact ih2 _ _ _ _ _ _ _)
   | (with_reducible exact ih3 _ _ _ _ _ _ _ _)
   | (with_reducible exact ih4 _ _ _ _ _ _ _ _ _)
   | (with_reducible exact swarfref04_Wrongs.mono _ _ _ _ _ _ _)
   | (with_reducible exact LeO.refl _)
   | (with_reducible exact LeO.none _)
   | (with_reducible refine LeO.ite ?_ ?_)
   | (with_reducible refine LeO.bind ?_ (fun _ => ?_))
   | exact ih0 _ _ _ _ _ _ _
   | exact ih1 _ _ _ _ _ _ _ _ _ _ _ _ _ _
   | exact ih2 _ _ _ _ _ _ _
   | exact ih3 _ _ _ _ _ _ _ _
   | exact ih4 _ _ _ _ _ _ _ _ _
   | exact swarfref04_Wrongs.mono _ _ _ _ _ _ _
   | exact LeO.none _
   | refine LeO.ite ?_ ?_
   | refine LeO.bind ?_ (fun _ => ?_)
  ·
   intro y0 y1 y2 y3 y4 y5 y6
   unfold swarfkit_CarOf.l2
   repeat' first
   | (with_reducible exact ih0 _ _ _ _ _ _ _)
   | (with_reducible exact ih1 _ _ _ _ _ _ _ _ _ _ _ _ _ _)
   | (with_reducible exact ih2 _ _ _ _ _ _ _)
   | (with_reducible exact ih3 _ _ _ _ _ _ _ _)
   | (with_reducible exact ih4 _ _ _ _ _ _ _ _ _)
   | (with_reducible exact swarfref04_Wrongs.mono _ _ _ _ _ _ _)
   | (with_reducible exact LeO.refl _)
   | (with_reducible exact LeO.none _)
   | (with_reducible refine LeO.ite ?_ ?_)
   | (with_reducible refine LeO.bind ?_ (fun _ => ?_))
   | exact ih0 _ _ _ _ _ _ _
   | exact ih1 _ _ _ _ _ _ _ _ _ _ _ _ _ _
   | exact ih2 _ _ _ _ _ _ _
   | exact ih3 _ _ _ _ _ _ _ _
   | exact ih4 _ _ _ _ _ _ _ _ _
   | exact swarfref04_Wrongs.mono _ _ _ _ _ _ _
   | exact LeO.none _
   | refine LeO.ite ?_ ?_
   | refine LeO.bind ?_ (fun _ => ?_)
  ·
   intro y0 y1 y2 y3 y4 y5 y6 y7
   unfold swarfkit_CarOf.l3
   repeat' first
   | (with_reducible exact ih0 _ _ _ _ _ _ _)
   | (with_reducible exact ih1 _ _ _ _ _ _ _ _ _ _ _ _ _ _)
   | (with_reducible exact ih2 _ _ _ _ _ _ _)
   | (with_reducible exact ih3 _ _ _ _ _ _ _ _)
   | (with_reducible exact ih4 _ _ _ _ _ _ _ _ _)
   | (with_reducible exact swarfref04_Wrongs.mono _ _ _ _ _ _ _)
   | (with_reducible exact LeO.refl _)
   | (with_reducible exact LeO.none _)
   | (with_reducible refine LeO.ite ?_ ?_)
   | (with_reducible refine LeO.bind ?_ (fun _ => ?_))
   | exact ih0 _ _ _ _ _ _ _
   | exact ih1 _ _ _ _ _ _ _ _ _ _ _ _ _ _
   | exact ih2 _ _ _ _ _ _ _
   | exact ih3 _ _ _ _ _ _ _ _
   | exact ih4 _ _ _ _ _ _ _ _ _
   | exact swarfref04_Wrongs.mono _ _ _ _ _ _ _
   | exact LeO.none _
   | refine LeO.ite ?_ ?_
   | refine LeO.bind ?_ (fun _ => ?_)
  ·
   intro y0 y1 y2 y3 y4 y5 y6 y7 y8
   unfold swarfkit_CarOf.j4
   repeat' first
   | (with_reducible exact ih0 _ _ _ _ _ _ _)
   | (with_reducible exact ih1 _ _ _ _ _ _ _ _ _ _ _ _ _ _)
   | (with_reducible exact ih2 _ _ _ _ _ _ _)
   | (with_reducible exact ih3 _ _ _ _ _ _ _ _)
   | (with_reducible exact ih4 _ _ _ _ _ _ _ _ _)
   | (with_reducible exact swarfref04_Wrongs.mono _ _ _ _ _ _ _)
   | (with_reducible exact LeO.refl _)
   | (with_reducible exact LeO.none _)
   | (with_reducible refine LeO.ite ?_ ?_)
   | (with_reducible refine LeO.bind ?_ (fun _ => ?_))
   | exact ih0 _ _ _ _ _ _ _
   | exact ih1 _ _ _ _ _ _ _ _ _ _ _ _ _ _
   | exact ih2 _ _ _ _ _ _ _
   | exact ih3 _ _ _ _ _ _ _ _
   | exact ih4 _ _ _ _ _ _ _ _ _
   | exact swarfref04_Wrongs.mono _ _ _ _ _ _ _
   | exact LeO.none _
   | refine LeO.ite ?_ ?_
   | refine LeO.bind ?_ (fun _ => ?_)
theorem swarfkit_CarOf.mono : ∀ a0 a1 a2 k, LeO (swarfkit_CarOf.f k a0 a1 a2) (swarfkit_CarOf.f (k + 1) a0 a1 a2) := by
 intro a0 a1 a2 k
 obtain ⟨ih0, ih1, ih2, ih3, ih4⟩ := swarfkit_CarOf.mono_l k
 unfold swarfkit_CarOf.f
 repeat' first
   | (with_reducible exact ih0 _ _ _ _ _ _ _)
   | (with_reducible exact ih1 _ _ _ _ _ _ _ _ _ _ _ _ _ _)
   | (with_reducible exact ih2 _ _ _ _ _ _ _)
   | (with_reducible exact ih3 _ _ _ _ _ _ _ _)
   | (with_reducible exact ih4 _ _ _ _ _ _ _ _ _)
   | (with_reducible exact swarfref04_Wrongs.mono _ _ _ _ _ _ _)
   | (with_reducible exact LeO.refl _)
   | (with_reducible exact LeO.none _)
   | (with_reducible refine LeO.ite ?_ ?_)
   | (with_reducible refine LeO.bind ?_ (fun _ => ?_))
   | exact ih0 _ _ _ _ _ _ _
   | exact ih1 _ _ _ _ _ _ _ _ _ _ _ _ _ _
   | exact ih2 _ _ _ _ _ _ _
   | exact ih3 _ _ _ _ _ _ _ _
   | exact ih4 _ _ _ _ _ _ _ _ _
   | exact swarfref04_Wrongs.mono _ _ _ _ _ _ _
   | exact LeO.none _
   | refine LeO.ite ?_ ?_
   | refine LeO.bind ?_ (fun _ => ?_)
def swarfkit_CarOf.T13 : Bool × List (List Nat × List Nat) := (true, [([], []), ([0], [0]), ([], []), ([2], [2]), ([1, 3], [1, 3]), ([], []), ([5, 4], [5]), ([6], [6]), ([6], [6]), ([7, 8, 6], [6, 7, 8]), ([9, 6], [6, 9]), ([6, 10], [6, 10]), ([0, 1, 2, 3, 4], []), ([12, 4, 6, 0, 1, 2, 3, 4], [4, 12]), ([11, 13, 0, 1, 2, 3, 4, 5, 6, 7, 8, 9, 10, 11, 12, 13], [5, 11])])
def swarfkit_CarOf.B13 : List Nat := [0, 1, 0, 4, 15, 0, 63, 127, 127, 511, 1023, 2047, 31, 4223, 16383]
theorem swarfkit_CarOf.tab13 : rtab .any (opsOf Try.f17 13) = swarfkit_CarOf.T13 := by kernel_rfl
theorem swarfkit_CarOf.bits13 : waitsOk swarfkit_CarOf.T13.2 swarfkit_CarOf.B13 = true := by kernel_rfl
def swarfkit_CarOf.T20 : Bool × List (List Nat × List Nat) := (true, [([], []), ([0], [0]), ([], []), ([], []), ([], []), ([3, 4], [3, 4]), ([5], [5]), ([], []), ([7], [7]), ([6, 8], [6, 8]), ([2, 9], [2, 9]), ([10], [10]), ([1, 11, 8], [1, 11]), ([0, 1, 2, 3, 4, 5, 6, 7, 8, 9, 10, 11, 12], []), ([13, 12, 12, 0, 1, 2, 3, 4, 5, 6, 7, 8, 9, 10, 11, 12], [12, 13])])
def swarfkit_CarOf.B20 : List Nat := [0, 1, 0, 0, 0, 24, 56, 0, 128, 504, 1020, 2044, 4095, 8191, 16383]
theorem swarfkit_CarOf.tab20 : rtab .any (opsOf Try.f17 20) = swarfkit_CarOf.T20 := by kernel_rfl
theorem swarfkit_CarOf.bits20 : waitsOk swarfkit_CarOf.T20.2 swarfkit_CarOf.B20 = true := by kernel_rfl
set_option maxHeartbeats 8000000 in
set_option maxRecDepth 100000 in
theorem swarfkit_CarOf.calls (k : Nat) (g : Nat) (s0_0 : Int) (a1 : Int) (a2 : Int) (r1 : List (S50)) (r2 : Int) (r3 : List (S61)) (r4 : Int) (r5 : List Int) (r6 : List Bool) (r7 : Int) (w0 w : World) (hI : IsS79 w0 w g s0_0) (hB : Below w0.heap.size w0 w) (h : swarfkit_CarOf.f k s0_0 a1 a2 = some (r1, r2, r3, r4, r5, r6, r7)) :
  Calls Try.prog 17 #[.pointer (some ⟨g, 0, none⟩), .int .i64 a1, .int .i64 a2] w fun e w' => ∃ v0_ v2_ v4_ v5_ : Value, e = .returned (.tuple #[.agg #[v0_, .int .i64 r2, v2_, .int .i64 r4, v4_], v5_]) ∧ Kd.S k50 50 w' w.heap.size (fun k_ => some k_ ≠ (v4_ : Value).ownBlock) v0_ r1 ∧ Kd.R k61 61 w' w.heap.size (fun _ => True) v2_ r3 ∧ Kd.R (Kd.int .i64) 3 w' w.heap.size (fun _ => True) v4_ r5 ∧ Kd.R Kd.bool 4 w' w.heap.size (fun _ => True) v5_ r6 ∧ IsS79 w0 w' g r7 ∧ Below w0.heap.size w0 w' ∧ KeepBut w w' g none := by
 have hu26 := Try.underlying26
 have hu50 := Try.underlying50
 have hu61 := Try.underlying61
 have HI0 := Aside0.mk hI
 have HK := Aside0.mk (KeepBut.refl w g none)
 have HL := Aside0.mk hB.size
 clear hI
 have HW0 := Aside0.mk hB.size
 have HB := Aside0.mk hB
 clear hB
 have H : ((swarfkit_Feed_Between.f s0_0 1 a1).bind fun bt209 => (swarfkit_CarOf.l0 k a2 ([] : List Bool) bt209.1 bt209.2 ([] : List (S50)) 0 0)) = some (r1, r2, r3, r4, r5, r6, r7) := h
 clear h
 replace H := Option.bind_eq_some_iff.mp H
 obtain ⟨⟨t209, t210⟩, A40, H⟩ := H
 replace H : (swarfkit_CarOf.l0 k a2 ([] : List Bool) t209 t210 ([] : List (S50)) 0 0) = some (r1, r2, r3, r4, r5, r6, r7) := H
 have A4 := Aside0.mk A40
 clear A40
 have H' := Aside0.mk H
 clear H
 go_enter Try.func17, Try.ntmps17
 go_wp2_with (first | ((with_reducible refine gate_dst (N := 6) rfl ?_); (try (refine gate_guard (by rfl) ?_; dsimp only)); refine box_event ?hg (N := 6) ?hd (cs := #[.slice none 0 0, .int .i64 0, .slice none 0 0, .int .i64 0, .slice none 0 0]) (t := 26) ?hr ?_; (case hd => rfl); (case hg => rfl); (case hr => first | (go_simp; done) | (go_simp; rfl)); intro gb207 hg w5 hbox hb; have n0_ := Aside0.mk (IsS79.below (by repeat (first | (with_reducible first | exact HI0.out | apply IsS79.alloc | apply IsS79.drewN | apply IsS79.drew | apply IsS79.set_0) | exact HI0.out)) hb); have n1_ := Aside0.mk (KeepBut.trans (by repeat (first | (with_reducible first | exact HK.out | apply KeepBut.set_ | apply keep_drewN | apply keep_drew | apply keep_alloc) | exact HK.out)) (KeepBut.of_below hb g none) (.inl rfl)); have n2_ := Aside0.mk (below_step (by repeat (first | (with_reducible first | exact HB.out | apply below_alloc | apply pw_below_drewN | apply below_drew1 | refine below_set ?_ (IsS79.ge HI0.out)) | exact HB.out)) hb); have n3_ := Aside0.mk (hbox); have n4_ := Aside0.mk ((by rw [hg]; exact (keep_size (w := w) (g := g) (row := none) (by repeat (first | (with_reducible first | exact HK.out | apply KeepBut.set_ | apply keep_drewN | apply keep_drew | apply keep_alloc) | exact HK.out))) : w.heap.size ≤ gb207)); have n5_ := Aside0.mk ((Nat.le_trans HW0.out (by rw [hg]; exact (keep_size (w := w) (g := g) (row := none) (by repeat (first | (with_reducible first | exact HK.out | apply KeepBut.set_ | apply keep_drewN | apply keep_drew | apply keep_alloc) | exact HK.out))) : w.heap.size ≤ gb207) : w0.heap.size ≤ gb207)); have n6_ := Aside0.mk ((by rw [hg]; exact Nat.ne_of_lt (IsS79.lt (show IsS79 w0 _ g s0_0 from by repeat (first | (with_reducible first | exact HI0.out | apply IsS79.alloc | apply IsS79.drewN | apply IsS79.drew | apply IsS79.set_0) | exact HI0.out))) : g ≠ gb207)); have n7_ := Aside0.mk ((by rw [hg]; exact Nat.ne_of_gt (IsS79.lt (show IsS79 w0 _ g s0_0 from by repeat (first | (with_reducible first | exact HI0.out | apply IsS79.alloc | apply IsS79.drewN | apply IsS79.drew | apply IsS79.set_0) | exact HI0.out))) : gb207 ≠ g)); clear HI0; clear HK; clear HB; have HI0 := n0_; have HK := n1_; have HB := n2_; have BK207 := n3_; have GW207 := n4_; have GE207 := n5_; have NB0_207 := n6_; have NB207_0 := n7_; clear n0_ n1_ n2_ n3_ n4_ n5_ n6_ n7_; clear hb hbox hg) | ((with_reducible refine gate_dst (N := 8) rfl ?_); (try (refine gate_guard (by rfl) ?_; dsimp only)); refine box_event ?hg (N := 8) ?hd (cs := #[.slice none 0 0, .int .i64 0, .slice none 0 0, .int .i64 0, .slice none 0 0]) (t := 26) ?hr ?_; (case hd => rfl); (case hg => rfl); (case hr => first | (go_simp; done) | (go_simp; rfl)); intro gb208 hg w6 hbox hb; have n0_ := Aside0.mk (IsS79.below (by repeat (first | (with_reducible first | exact HI0.out | apply IsS79.alloc | apply IsS79.drewN | apply IsS79.drew | apply IsS79.set_0 | refine IsS79.far ?_ NB0_207.out _) | exact HI0.out)) hb); have n1_ := Aside0.mk (blk_below (g := gb207) (o := .cells #[.slice none 0 0, .int .i64 0, .slice none 0 0, .int .i64 0, .slice none 0 0] 26 (0, 0)) (blk_x BK207.out) hb); have n2_ := Aside0.mk (KeepBut.trans (by repeat (first | (with_reducible first | exact HK.out | apply KeepBut.set_ | apply keep_drewN | apply keep_drew | apply keep_alloc | refine keep_far ?_ GW207.out _) | exact HK.out)) (KeepBut.of_below hb g none) (.inl rfl)); have n3_ := Aside0.mk (below_step (by repeat (first | (with_reducible first | exact HB.out | apply below_alloc | apply pw_below_drewN | apply below_drew1 | refine below_set ?_ (IsS79.ge HI0.out) | refine below_set ?_ GE207.out) | exact HB.out)) hb); have n4_ := Aside0.mk (hbox); have n5_ := Aside0.mk ((by rw [hg]; exact (keep_size (w := w) (g := g) (row := none) (by repeat (first | (with_reducible first | exact HK.out | apply KeepBut.set_ | apply keep_drewN | apply keep_drew | apply keep_alloc | refine keep_far ?_ GW207.out _) | exact HK.out))) : w.heap.size ≤ gb208)); have n6_ := Aside0.mk ((Nat.le_trans HW0.out (by rw [hg]; exact (keep_size (w := w) (g := g) (row := none) (by repeat (first | (with_reducible first | exact HK.out | apply KeepBut.set_ | apply keep_drewN | apply keep_drew | apply keep_alloc | refine keep_far ?_ GW207.out _) | exact HK.out))) : w.heap.size ≤ gb208) : w0.heap.size ≤ gb208)); have n7_ := Aside0.mk ((by rw [hg]; exact Nat.ne_of_lt (blk_lt (g := gb207) (o := .cells #[.slice none 0 0, .int .i64 0, .slice none 0 0, .int .i64 0, .slice none 0 0] 26 (0, 0)) (blk_x BK207.out)) : gb207 ≠ gb208)); have n8_ := Aside0.mk ((by rw [hg]; exact Nat.ne_of_gt (blk_lt (g := gb207) (o := .cells #[.slice none 0 0, .int .i64 0, .slice none 0 0, .int .i64 0, .slice none 0 0] 26 (0, 0)) (blk_x BK207.out)) : gb208 ≠ gb207)); have n9_ := Aside0.mk ((by rw [hg]; exact Nat.ne_of_lt (IsS79.lt (show IsS79 w0 _ g s0_0 from by repeat (first | (with_reducible first | exact HI0.out | apply IsS79.alloc | apply IsS79.drewN | apply IsS79.drew | apply IsS79.set_0 | refine IsS79.far ?_ NB0_207.out _) | exact HI0.out))) : g ≠ gb208)); have n10_ := Aside0.mk ((by rw [hg]; exact Nat.ne_of_gt (IsS79.lt (show IsS79 w0 _ g s0_0 from by repeat (first | (with_reducible first | exact HI0.out | apply IsS79.alloc | apply IsS79.drewN | apply IsS79.drew | apply IsS79.set_0 | refine IsS79.far ?_ NB0_207.out _) | exact HI0.out))) : gb208 ≠ g)); clear HI0; clear BK207; clear HK; clear HB; have HI0 := n0_; have BK207 := n1_; have HK := n2_; have HB := n3_; have BK208 := n4_; have GW208 := n5_; have GE208 := n6_; have NB207_208 := n7_; have NB208_207 := n8_; have NB0_208 := n9_; have NB208_0 := n10_; clear n0_ n1_ n2_ n3_ n4_ n5_ n6_ n7_ n8_ n9_ n10_; clear hb hbox hg) | ((with_reducible refine gate_callee (f := 46) rfl ?_); refine goesL_ (some 20) rfl rfl Try.func46 (by kernel_rfl) rfl #[.pointer (some ⟨g, 0, none⟩), .int .i64 1, .int .i64 a1] rfl (by (try simp only [List.map_toArray, List.map_cons, List.map_nil]); first | done | rfl | (simp only [List.length_drop, List.length_take]; rfl)) ?_; (with_reducible refine (swarfkit_Feed_Between.calls g s0_0 1 a1 t209 t210 w0 _ ?side1 ?side2 A4.out).mono ?_); (case side1 => repeat (first | (with_reducible first | exact HI0.out | apply IsS79.alloc | apply IsS79.drewN | apply IsS79.drew | apply IsS79.set_0 | refine IsS79.far ?_ NB0_207.out _ | refine IsS79.far ?_ NB0_208.out _) | exact HI0.out)); (case side2 => repeat (first | (with_reducible first | exact HB.out | apply below_alloc | apply pw_below_drewN | apply below_drew1 | refine below_set ?_ (IsS79.ge HI0.out) | refine below_set ?_ GE207.out | refine below_set ?_ GE208.out) | exact HB.out)); rintro e w7 ⟨rfl, hi, hb, hk⟩; refine ⟨_, rfl, ?_⟩; have n0_ := Aside0.mk (KeepBut.blk hk (g' := gb207) (o := .cells #[.slice none 0 0, .int .i64 0, .slice none 0 0, .int .i64 0, .slice none 0 0] 26 (0, 0)) (blk_x BK207.out) NB207_0.out (by simp)); have n1_ := Aside0.mk (KeepBut.blk hk (g' := gb208) (o := .cells #[.slice none 0 0, .int .i64 0, .slice none 0 0, .int .i64 0, .slice none 0 0] 26 (0, 0)) (blk_x BK208.out) NB208_0.out (by simp)); have n2_ := Aside0.mk (KeepBut.trans (by repeat (first | (with_reducible first | exact HK.out | apply KeepBut.set_ | apply keep_drewN | apply keep_drew | apply keep_alloc | refine keep_far ?_ GW207.out _ | refine keep_far ?_ GW208.out _) | exact HK.out)) hk (.inl rfl)); have n3_ := Aside0.mk (hb); have n4_ := Aside0.mk (hi); clear BK207; clear BK208; clear HK; clear HB; clear HI0; have BK207 := n0_; have BK208 := n1_; have HK := n2_; have HB := n3_; have HI0 := n4_; clear n0_ n1_ n2_ n3_ n4_; (try clear hb); (try clear hb2); (try clear hk); (try clear hi)))
 go_loopg [9, 10] k (fun kq v9 v10 w' => ∃ (x9_1 : List Bool) (x10_1 : Int) (x1000_1 : Int) (x209000_1 : List (S50)) (u209000 : Value), v10 = .int .i64 x10_1 ∧ Aside0 (swarfkit_CarOf.l0 kq a2 x9_1 x10_1 x1000_1 x209000_1 0 0 = some (r1, r2, r3, r4, r5, r6, r7)) ∧ Aside0 (kq ≤ k) ∧ Aside0 (Kd.R Kd.bool 4 w' w.heap.size (fun _ => True) v9 x9_1) ∧ Aside0 (Kd.S k50 50 w' w.heap.size (fun _ => True) u209000 x209000_1) ∧ Aside0 (w'.heap[gb207]? = some (.cells #[(.slice none 0 0), .int .i64 0, (.slice none 0 0), .int .i64 0, (.slice none 0 0)] 26 (0, 0))) ∧ Aside0 (w'.heap[gb208]? = some (.cells #[u209000, .int .i64 0, (.slice none 0 0), .int .i64 0, (.slice none 0 0)] 26 (0, 0))) ∧ Aside0 (IsS79 w0 w' g x1000_1) ∧ Aside0 (KeepBut w w' g none) ∧ Aside0 (Below w0.heap.size w0 w'))
 case atStart => exact ⟨(([] : List Bool)), (t209), (t210), (([] : List (S50))), (.slice none 0 0), (by first | rfl | (simp; done) | (simp [*]; done)), H', ⟨Nat.le_refl _⟩, ⟨by first | exact Kd.R_nil _ _ _ _ _ | exact Kd.N_nil _ _ _ _ _ | exact Kd.V_nil _ _ _ _ _ | exact Kd.Q_nil _ _ _ _ _ | exact Kd.S_nil _ _ _ _ _⟩, ⟨by first | exact Kd.S_nil _ _ _ _ _ | exact Kd.N_nil _ _ _ _ _ | exact Kd.V_nil _ _ _ _ _ | exact Kd.Q_nil _ _ _ _ _ | exact Kd.R_nil _ _ _ _ _⟩, ⟨by (with_reducible repeat (first | refine blk_drewN ?_ _ | refine blk_drew ?_ | refine blk_alloc ?_ _)); exact BK207.out⟩, ⟨by (with_reducible repeat (first | refine blk_drewN ?_ _ | refine blk_drew ?_ | refine blk_alloc ?_ _)); exact BK208.out⟩, ⟨by repeat (first | (with_reducible first | exact HI0.out | apply IsS79.alloc | apply IsS79.drewN | apply IsS79.drew | apply IsS79.set_0 | refine IsS79.far ?_ NB0_207.out _ | refine IsS79.far ?_ NB0_208.out _) | exact HI0.out)⟩, ⟨by repeat (first | (with_reducible first | exact HK.out | apply KeepBut.set_ | apply keep_drewN | apply keep_drew | apply keep_alloc | refine keep_far ?_ GW207.out _ | refine keep_far ?_ GW208.out _) | exact HK.out)⟩, ⟨by repeat (first | (with_reducible first | exact HB.out | apply below_alloc | apply pw_below_drewN | apply below_drew1 | refine below_set ?_ (IsS79.ge HI0.out) | refine below_set ?_ GE207.out | refine below_set ?_ GE208.out) | exact HB.out)⟩⟩
 case round =>
  clear H'
  try clear c1
  try clear p2
  try clear c4
  obtain ⟨x9_1, x10_1, x1000_1, x209000_1, u209000, rfl, HA, HK1, HO_9, HO_209000, BK207, BK208, HI0, HK, HB⟩ := hrel
  cases gk with
  | zero => exact absurd HA.out (by simp [swarfkit_CarOf.l0])
  | succ k1 =>
   have H := HA.out
   clear HA
   simp only [swarfkit_CarOf.l0] at H
   by_cases c8 : x10_1 > 0
   ·
    rw [if_pos c8] at H
    have c8b0 : decide (0 < x10_1) = true := decide_eq_true c8
    clear c8
    replace H := Option.bind_eq_some_iff.mp H
    obtain ⟨⟨t211, t212⟩, A90, H⟩ := H
    replace H : ((swarfkit_Feed_Between.f t212 1 3).bind fun bt213 => ((swarfkit_Feed_Below.f bt213.2 30).bind fun bt215 => ((swarfkit_Feed_Below.f bt215.2 30).bind fun bt217 => ((swarfkit_Feed_Either.f bt217.2 (([0, bt215.1, bt217.1] : List Int))).bind fun bt222 => (swarfkit_CarOf.l1 k1 a2 x9_1 x10_1 (x209000_1.length : Int) true 0 bt222.2 x209000_1 0 0 ([] : List Int) t211 bt213.1 bt222.1))))) = some (r1, r2, r3, r4, r5, r6, r7) := H
    have A9 := Aside0.mk A90
    clear A90
    replace H := Option.bind_eq_some_iff.mp H
    obtain ⟨⟨t213, t214⟩, A100, H⟩ := H
    replace H : ((swarfkit_Feed_Below.f t214 30).bind fun bt215 => ((swarfkit_Feed_Below.f bt215.2 30).bind fun bt217 => ((swarfkit_Feed_Either.f bt217.2 (([0, bt215.1, bt217.1] : List Int))).bind fun bt222 => (swarfkit_CarOf.l1 k1 a2 x9_1 x10_1 (x209000_1.length : Int) true 0 bt222.2 x209000_1 0 0 ([] : List Int) t211 t213 bt222.1)))) = some (r1, r2, r3, r4, r5, r6, r7) := H
    have A10 := Aside0.mk A100
    clear A100
    replace H := Option.bind_eq_some_iff.mp H
    obtain ⟨⟨t215, t216⟩, A110, H⟩ := H
    replace H : ((swarfkit_Feed_Below.f t216 30).bind fun bt217 => ((swarfkit_Feed_Either.f bt217.2 (([0, t215, bt217.1] : List Int))).bind fun bt222 => (swarfkit_CarOf.l1 k1 a2 x9_1 x10_1 (x209000_1.length : Int) true 0 bt222.2 x209000_1 0 0 ([] : List Int) t211 t213 bt222.1))) = some (r1, r2, r3, r4, r5, r6, r7) := H
    have A11 := Aside0.mk A110
    clear A110
    replace H := Option.bind_eq_some_iff.mp H
    obtain ⟨⟨t217, t218⟩, A120, H⟩ := H
    replace H : ((swarfkit_Feed_Either.f t218 (([0, t215, t217] : List Int))).bind fun bt222 => (swarfkit_CarOf.l1 k1 a2 x9_1 x10_1 (x209000_1.length : Int) true 0 bt222.2 x209000_1 0 0 ([] : List Int) t211 t213 bt222.1)) = some (r1, r2, r3, r4, r5, r6, r7) := H
    have A12 := Aside0.mk A120
    clear A120
    obtain ⟨y219, hy219⟩ : ∃ y_ : List Int, y_ = (([0, t215, t217] : List Int)) := ⟨_, rfl⟩
    replace H : ((swarfkit_Feed_Either.f t218 y219).bind fun bt222 => (swarfkit_CarOf.l1 k1 a2 x9_1 x10_1 (x209000_1.length : Int) true 0 bt222.2 x209000_1 0 0 ([] : List Int) t211 t213 bt222.1)) = some (r1, r2, r3, r4, r5, r6, r7) := by first | (rw [hy219]; with_reducible exact H) | (have H2_ := (Option.bind_some _ _).symm.trans H; rw [hy219]; with_reducible exact H2_) | (have H2_ := (Option.bind_some _ _).symm.trans H; with_reducible exact H2_) | with_reducible exact H | (rw [hy219]; exact H) | exact H
    have Ny219 := Aside0.mk hy219
    clear hy219
    replace H := Option.bind_eq_some_iff.mp H
    obtain ⟨⟨t222, t223⟩, A130, H⟩ := H
    replace H : (swarfkit_CarOf.l1 k1 a2 x9_1 x10_1 (x209000_1.length : Int) true 0 t223 x209000_1 0 0 ([] : List Int) t211 t213 t222) = some (r1, r2, r3, r4, r5, r6, r7) := H
    have A13 := Aside0.mk A130
    clear A130
    have H' := Aside0.mk H
    clear H
    have hnb14 := NB208_207.out
    have hnc14 := NB207_208.out
    have hnb15 := NB208_0.out
    have hnc15 := NB0_208.out
    have hcz16_0 : wr.cell? ⟨gb208, 0, none⟩ = some (u209000) := (blk_cell BK208.out 0).trans rfl
    have hcz16_1 : wr.cell? ⟨gb208, 1, none⟩ = some (.int .i64 0) := (blk_cell BK208.out 1).trans rfl
    have hcz16_2 : wr.cell? ⟨gb208, 2, none⟩ = some (.slice none 0 0) := (blk_cell BK208.out 2).trans rfl
    have hcz16_3 : wr.cell? ⟨gb208, 3, none⟩ = some (.int .i64 0) := (blk_cell BK208.out 3).trans rfl
    have hcz16_4 : wr.cell? ⟨gb208, 4, none⟩ = some (.slice none 0 0) := (blk_cell BK208.out 4).trans rfl
    have hfz16_0 := blk_frozen BK208.out 0
    have hfz16_1 := blk_frozen BK208.out 1
    have hfz16_2 := blk_frozen BK208.out 2
    have hfz16_3 := blk_frozen BK208.out 3
    have hfz16_4 := blk_frozen BK208.out 4
    obtain ⟨Ao17, co17, eo17⟩ := Kd.S_slice HO_209000.out
    subst eo17
    go_wp2_with (first | ((with_reducible refine gate_callee (f := 35) rfl ?_); refine goesL_ (some 29) rfl rfl Try.func35 (by kernel_rfl) rfl #[.pointer (some ⟨g, 0, none⟩), .int .i64 1, .int .i64 2] rfl (by (try simp only [List.map_toArray, List.map_cons, List.map_nil]); first | done | rfl | (simp only [List.length_drop, List.length_take]; rfl)) ?_; (with_reducible refine (swarfkit_Feed_Often.calls g x1000_1 1 2 t211 t212 w0 _ ?side1 ?side2 A9.out).mono ?_); (case side1 => repeat (first | (with_reducible first | exact HI0.out | apply IsS79.alloc | apply IsS79.drewN | apply IsS79.drew | apply IsS79.set_0 | refine IsS79.far ?_ NB0_207.out _ | refine IsS79.far ?_ NB0_208.out _) | exact HI0.out)); (case side2 => repeat (first | (with_reducible first | exact HB.out | apply below_alloc | apply pw_below_drewN | apply below_drew1 | refine below_set ?_ (IsS79.ge HI0.out) | refine below_set ?_ GE207.out | refine below_set ?_ GE208.out) | exact HB.out)); rintro e w18 ⟨rfl, hi, hb, hk⟩; refine ⟨_, rfl, ?_⟩; have n0_ := Aside0.mk (Kd.R_mono (Kd.R_keep (IsS79.apart (show IsS79 w0 _ g x1000_1 from by repeat (first | (with_reducible first | exact HI0.out | apply IsS79.alloc | apply IsS79.drewN | apply IsS79.drew | apply IsS79.set_0 | refine IsS79.far ?_ NB0_207.out _ | refine IsS79.far ?_ NB0_208.out _) | exact HI0.out)) (Kd.R_x HO_9.out) (by decide)) hk (fun _ h => h.2)) (fun _ h => h.1)); have n1_ := Aside0.mk (Kd.S_mono (Kd.S_keep (IsS79.apartS (show IsS79 w0 _ g x1000_1 from by repeat (first | (with_reducible first | exact HI0.out | apply IsS79.alloc | apply IsS79.drewN | apply IsS79.drew | apply IsS79.set_0 | refine IsS79.far ?_ NB0_207.out _ | refine IsS79.far ?_ NB0_208.out _) | exact HI0.out)) (Kd.S_x HO_209000.out) (by decide)) hk (fun _ h => h.2)) (fun _ h => h.1)); have n2_ := Aside0.mk (KeepBut.blk hk (g' := gb207) (o := .cells #[.slice none 0 0, .int .i64 0, .slice none 0 0, .int .i64 0, .slice none 0 0] 26 (0, 0)) (blk_x BK207.out) NB207_0.out (by simp)); have n3_ := Aside0.mk (KeepBut.blk hk (g' := gb208) (o := .cells #[.slice Ao17 x209000_1.length co17, .int .i64 0, .slice none 0 0, .int .i64 0, .slice none 0 0] 26 (0, 0)) (blk_x BK208.out) NB208_0.out (by simp)); have n4_ := Aside0.mk (KeepBut.trans (by repeat (first | (with_reducible first | exact HK.out | apply KeepBut.set_ | apply keep_drewN | apply keep_drew | apply keep_alloc | refine keep_far ?_ GW207.out _ | refine keep_far ?_ GW208.out _) | exact HK.out)) hk (.inl rfl)); have n5_ := Aside0.mk (hb); have n6_ := Aside0.mk (hi); clear HO_9; clear HO_209000; clear BK207; clear BK208; clear HK; clear HB; clear HI0; have HO_9 := n0_; have HO_209000 := n1_; have BK207 := n2_; have BK208 := n3_; have HK := n4_; have HB := n5_; have HI0 := n6_; clear n0_ n1_ n2_ n3_ n4_ n5_ n6_; (try clear hb); (try clear hb2); (try clear hk); (try clear hi)) | ((with_reducible refine gate_callee (f := 46) rfl ?_); refine goesL_ (some 31) rfl rfl Try.func46 (by kernel_rfl) rfl #[.pointer (some ⟨g, 0, none⟩), .int .i64 1, .int .i64 3] rfl (by (try simp only [List.map_toArray, List.map_cons, List.map_nil]); first | done | rfl | (simp only [List.length_drop, List.length_take]; rfl)) ?_; (with_reducible refine (swarfkit_Feed_Between.calls g t212 1 3 t213 t214 w0 _ ?side1 ?side2 A10.out).mono ?_); (case side1 => repeat (first | (with_reducible first | exact HI0.out | apply IsS79.alloc | apply IsS79.drewN | apply IsS79.drew | apply IsS79.set_0 | refine IsS79.far ?_ NB0_207.out _ | refine IsS79.far ?_ NB0_208.out _) | exact HI0.out)); (case side2 => repeat (first | (with_reducible first | exact HB.out | apply below_alloc | apply pw_below_drewN | apply below_drew1 | refine below_set ?_ (IsS79.ge HI0.out) | refine below_set ?_ GE207.out | refine below_set ?_ GE208.out) | exact HB.out)); rintro e w19 ⟨rfl, hi, hb, hk⟩; refine ⟨_, rfl, ?_⟩; have n0_ := Aside0.mk (Kd.R_mono (Kd.R_keep (IsS79.apart (show IsS79 w0 _ g t212 from by repeat (first | (with_reducible first | exact HI0.out | apply IsS79.alloc | apply IsS79.drewN | apply IsS79.drew | apply IsS79.set_0 | refine IsS79.far ?_ NB0_207.out _ | refine IsS79.far ?_ NB0_208.out _) | exact HI0.out)) (Kd.R_x HO_9.out) (by decide)) hk (fun _ h => h.2)) (fun _ h => h.1)); have n1_ := Aside0.mk (Kd.S_mono (Kd.S_keep (IsS79.apartS (show IsS79 w0 _ g t212 from by repeat (first | (with_reducible first | exact HI0.out | apply IsS79.alloc | apply IsS79.drewN | apply IsS79.drew | apply IsS79.set_0 | refine IsS79.far ?_ NB0_207.out _ | refine IsS79.far ?_ NB0_208.out _) | exact HI0.out)) (Kd.S_x HO_209000.out) (by decide)) hk (fun _ h => h.2)) (fun _ h => h.1)); have n2_ := Aside0.mk (KeepBut.blk hk (g' := gb207) (o := .cells #[.slice none 0 0, .int .i64 0, .slice none 0 0, .int .i64 0, .slice none 0 0] 26 (0, 0)) (blk_x BK207.out) NB207_0.out (by simp)); have n3_ := Aside0.mk (KeepBut.blk hk (g' := gb208) (o := .cells #[.slice Ao17 x209000_1.length co17, .int .i64 0, .slice none 0 0, .int .i64 0, .slice none 0 0] 26 (0, 0)) (blk_x BK208.out) NB208_0.out (by simp)); have n4_ := Aside0.mk (KeepBut.trans (by repeat (first | (with_reducible first | exact HK.out | apply KeepBut.set_ | apply keep_drewN | apply keep_drew | apply keep_alloc | refine keep_far ?_ GW207.out _ | refine keep_far ?_ GW208.out _) | exact HK.out)) hk (.inl rfl)); have n5_ := Aside0.mk (hb); have n6_ := Aside0.mk (hi); clear HO_9; clear HO_209000; clear BK207; clear BK208; clear HK; clear HB; clear HI0; have HO_9 := n0_; have HO_209000 := n1_; have BK207 := n2_; have BK208 := n3_; have HK := n4_; have HB := n5_; have HI0 := n6_; clear n0_ n1_ n2_ n3_ n4_ n5_ n6_; (try clear hb); (try clear hb2); (try clear hk); (try clear hi)) | ((with_reducible refine gate_callee (f := 25) rfl ?_); refine goesL_ (some 34) rfl rfl Try.func25 (by kernel_rfl) rfl #[.pointer (some ⟨g, 0, none⟩), .int .i64 30] rfl (by (try simp only [List.map_toArray, List.map_cons, List.map_nil]); first | done | rfl | (simp only [List.length_drop, List.length_take]; rfl)) ?_; (with_reducible refine (swarfkit_Feed_Below.calls g t214 30 t215 t216 w0 _ ?side1 ?side2 A11.out).mono ?_); (case side1 => repeat (first | (with_reducible first | exact HI0.out | apply IsS79.alloc | apply IsS79.drewN | apply IsS79.drew | apply IsS79.set_0 | refine IsS79.far ?_ NB0_207.out _ | refine IsS79.far ?_ NB0_208.out _) | exact HI0.out)); (case side2 => repeat (first | (with_reducible first | exact HB.out | apply below_alloc | apply pw_below_drewN | apply below_drew1 | refine below_set ?_ (IsS79.ge HI0.out) | refine below_set ?_ GE207.out | refine below_set ?_ GE208.out) | exact HB.out)); rintro e w20 ⟨rfl, hi, hb, hk⟩; refine ⟨_, rfl, ?_⟩; have n0_ := Aside0.mk (Kd.R_mono (Kd.R_keep (IsS79.apart (show IsS79 w0 _ g t214 from by repeat (first | (with_reducible first | exact HI0.out | apply IsS79.alloc | apply IsS79.drewN | apply IsS79.drew | apply IsS79.set_0 | refine IsS79.far ?_ NB0_207.out _ | refine IsS79.far ?_ NB0_208.out _) | exact HI0.out)) (Kd.R_x HO_9.out) (by decide)) hk (fun _ h => h.2)) (fun _ h => h.1)); have n1_ := Aside0.mk (Kd.S_mono (Kd.S_keep (IsS79.apartS (show IsS79 w0 _ g t214 from by repeat (first | (with_reducible first | exact HI0.out | apply IsS79.alloc | apply IsS79.drewN | apply IsS79.drew | apply IsS79.set_0 | refine IsS79.far ?_ NB0_207.out _ | refine IsS79.far ?_ NB0_208.out _) | exact HI0.out)) (Kd.S_x HO_209000.out) (by decide)) hk (fun _ h => h.2)) (fun _ h => h.1)); have n2_ := Aside0.mk (KeepBut.blk hk (g' := gb207) (o := .cells #[.slice none 0 0, .int .i64 0, .slice none 0 0, .int .i64 0, .slice none 0 0] 26 (0, 0)) (blk_x BK207.out) NB207_0.out (by simp)); have n3_ := Aside0.mk (KeepBut.blk hk (g' := gb208) (o := .cells #[.slice Ao17 x209000_1.length co17, .int .i64 0, .slice none 0 0, .int .i64 0, .slice none 0 0] 26 (0, 0)) (blk_x BK208.out) NB208_0.out (by simp)); have n4_ := Aside0.mk (KeepBut.trans (by repeat (first | (with_reducible first | exact HK.out | apply KeepBut.set_ | apply keep_drewN | apply keep_drew | apply keep_alloc | refine keep_far ?_ GW207.out _ | refine keep_far ?_ GW208.out _) | exact HK.out)) hk (.inl rfl)); have n5_ := Aside0.mk (hb); have n6_ := Aside0.mk (hi); clear HO_9; clear HO_209000; clear BK207; clear BK208; clear HK; clear HB; clear HI0; have HO_9 := n0_; have HO_209000 := n1_; have BK207 := n2_; have BK208 := n3_; have HK := n4_; have HB := n5_; have HI0 := n6_; clear n0_ n1_ n2_ n3_ n4_ n5_ n6_; (try clear hb); (try clear hb2); (try clear hk); (try clear hi)) | ((with_reducible refine gate_callee (f := 25) rfl ?_); refine goesL_ (some 36) rfl rfl Try.func25 (by kernel_rfl) rfl #[.pointer (some ⟨g, 0, none⟩), .int .i64 30] rfl (by (try simp only [List.map_toArray, List.map_cons, List.map_nil]); first | done | rfl | (simp only [List.length_drop, List.length_take]; rfl)) ?_; (with_reducible refine (swarfkit_Feed_Below.calls g t216 30 t217 t218 w0 _ ?side1 ?side2 A12.out).mono ?_); (case side1 => repeat (first | (with_reducible first | exact HI0.out | apply IsS79.alloc | apply IsS79.drewN | apply IsS79.drew | apply IsS79.set_0 | refine IsS79.far ?_ NB0_207.out _ | refine IsS79.far ?_ NB0_208.out _) | exact HI0.out)); (case side2 => repeat (first | (with_reducible first | exact HB.out | apply below_alloc | apply pw_below_drewN | apply below_drew1 | refine below_set ?_ (IsS79.ge HI0.out) | refine below_set ?_ GE207.out | refine below_set ?_ GE208.out) | exact HB.out)); rintro e w21 ⟨rfl, hi, hb, hk⟩; refine ⟨_, rfl, ?_⟩; have n0_ := Aside0.mk (Kd.R_mono (Kd.R_keep (IsS79.apart (show IsS79 w0 _ g t216 from by repeat (first | (with_reducible first | exact HI0.out | apply IsS79.alloc | apply IsS79.drewN | apply IsS79.drew | apply IsS79.set_0 | refine IsS79.far ?_ NB0_207.out _ | refine IsS79.far ?_ NB0_208.out _) | exact HI0.out)) (Kd.R_x HO_9.out) (by decide)) hk (fun _ h => h.2)) (fun _ h => h.1)); have n1_ := Aside0.mk (Kd.S_mono (Kd.S_keep (IsS79.apartS (show IsS79 w0 _ g t216 from by repeat (first | (with_reducible first | exact HI0.out | apply IsS79.alloc | apply IsS79.drewN | apply IsS79.drew | apply IsS79.set_0 | refine IsS79.far ?_ NB0_207.out _ | refine IsS79.far ?_ NB0_208.out _) | exact HI0.out)) (Kd.S_x HO_209000.out) (by decide)) hk (fun _ h => h.2)) (fun _ h => h.1)); have n2_ := Aside0.mk (KeepBut.blk hk (g' := gb207) (o := .cells #[.slice none 0 0, .int .i64 0, .slice none 0 0, .int .i64 0, .slice none 0 0] 26 (0, 0)) (blk_x BK207.out) NB207_0.out (by simp)); have n3_ := Aside0.mk (KeepBut.blk hk (g' := gb208) (o := .cells #[.slice Ao17 x209000_1.length co17, .int .i64 0, .slice none 0 0, .int .i64 0, .slice none 0 0] 26 (0, 0)) (blk_x BK208.out) NB208_0.out (by simp)); have n4_ := Aside0.mk (KeepBut.trans (by repeat (first | (with_reducible first | exact HK.out | apply KeepBut.set_ | apply keep_drewN | apply keep_drew | apply keep_alloc | refine keep_far ?_ GW207.out _ | refine keep_far ?_ GW208.out _) | exact HK.out)) hk (.inl rfl)); have n5_ := Aside0.mk (hb); have n6_ := Aside0.mk (hi); clear HO_9; clear HO_209000; clear BK207; clear BK208; clear HK; clear HB; clear HI0; have HO_9 := n0_; have HO_209000 := n1_; have BK207 := n2_; have BK208 := n3_; have HK := n4_; have HB := n5_; have HI0 := n6_; clear n0_ n1_ n2_ n3_ n4_ n5_ n6_; (try clear hb); (try clear hb2); (try clear hk); (try clear hi)) | ((with_reducible refine gate_dst (N := 37) rfl ?_); (try (refine gate_guard (by rfl) ?_; dsimp only)); refine Kd.R_lit (Kd.int .i64) _ 3 ?hg (N := 37) ?hd (xs := ([0, t215, t217] : List Int)) (inner := [.int .i64 0, .int .i64 t215, .int .i64 t217]) (ok := fun _ => True) (okp := fun _ => True) ?hr ?hp (fun _ hk => hk) trivial (Below.refl _ _) (Nat.le_refl _) (by simp) ?_; (case hd => rfl); (case hg => rfl); (case hr => first | (go_simp; done) | (go_simp; rfl)); (case hp => exact (Reps.one (show Kd.M (Kd.int .i64) _ _ _ 0 [.int .i64 0] from rfl) (Reps.one (show Kd.M (Kd.int .i64) _ _ _ t215 [.int .i64 t215] from rfl) (Reps.one (show Kd.M (Kd.int .i64) _ _ _ t217 [.int .i64 t217] from rfl) (Reps.none _ _))))); intro v220 w22 ho23 hb hg_ hnew_; clear hg_ hnew_; (first | rw [← Ny219.out] at ho23 | (simp only [Int.reduceToNat] at ho23; rw [← Ny219.out] at ho23)); have n0_ := Aside0.mk (Kd.R_below (Kd.R_x HO_9.out) hb); have n1_ := Aside0.mk (Kd.S_elder' (Kd.S_x HO_209000.out) (Kd.R_base ho23) hb); have n2_ := Aside0.mk (Kd.R_lower ho23 (keep_size (w := w) (g := g) (row := none) (by repeat (first | (with_reducible first | exact HK.out | apply KeepBut.set_ | apply keep_drewN | apply keep_drew | apply keep_alloc | refine keep_far ?_ GW207.out _ | refine keep_far ?_ GW208.out _) | exact HK.out)))); have n3_ := Aside0.mk (blk_below (g := gb207) (o := .cells #[.slice none 0 0, .int .i64 0, .slice none 0 0, .int .i64 0, .slice none 0 0] 26 (0, 0)) (blk_x BK207.out) hb); have n4_ := Aside0.mk (blk_below (g := gb208) (o := .cells #[.slice Ao17 x209000_1.length co17, .int .i64 0, .slice none 0 0, .int .i64 0, .slice none 0 0] 26 (0, 0)) (blk_x BK208.out) hb); have n5_ := Aside0.mk (IsS79.below (by repeat (first | (with_reducible first | exact HI0.out | apply IsS79.alloc | apply IsS79.drewN | apply IsS79.drew | apply IsS79.set_0 | refine IsS79.far ?_ NB0_207.out _ | refine IsS79.far ?_ NB0_208.out _) | exact HI0.out)) hb); have n6_ := Aside0.mk (KeepBut.trans (by repeat (first | (with_reducible first | exact HK.out | apply KeepBut.set_ | apply keep_drewN | apply keep_drew | apply keep_alloc | refine keep_far ?_ GW207.out _ | refine keep_far ?_ GW208.out _) | exact HK.out)) (KeepBut.of_below hb g none) (.inl rfl)); have n7_ := Aside0.mk (below_step (by repeat (first | (with_reducible first | exact HB.out | apply below_alloc | apply pw_below_drewN | apply below_drew1 | refine below_set ?_ (IsS79.ge HI0.out) | refine below_set ?_ GE207.out | refine below_set ?_ GE208.out) | exact HB.out)) hb); clear HO_9; clear HO_209000; clear BK207; clear BK208; clear HI0; clear HK; clear HB; have HO_9 := n0_; have HO_209000 := n1_; have HO221 := n2_; have BK207 := n3_; have BK208 := n4_; have HI0 := n5_; have HK := n6_; have HB := n7_; clear n0_ n1_ n2_ n3_ n4_ n5_ n6_ n7_; clear hb ho23; obtain ⟨Ao24, co24, eo24⟩ := Kd.R_slice HO221.out; subst eo24) | ((with_reducible refine gate_callee (f := 24) rfl ?_); refine goesL_ (some 38) rfl rfl Try.func24 (by kernel_rfl) rfl #[.pointer (some ⟨g, 0, none⟩), .slice Ao24 y219.length co24] rfl (by (try simp only [List.map_toArray, List.map_cons, List.map_nil]); first | done | rfl | (simp only [List.length_drop, List.length_take]; rfl)) ?_; (with_reducible refine (swarfkit_Feed_Either.calls g t218 _ _ y219 t222 t223 w0 _ ?side1 ?side2 ?side3 ?side4 ?side5 A13.out).mono ?_); (case side1 => repeat (first | (with_reducible first | exact HI0.out | apply IsS79.alloc | apply IsS79.drewN | apply IsS79.drew | apply IsS79.set_0 | refine IsS79.far ?_ NB0_207.out _ | refine IsS79.far ?_ NB0_208.out _) | exact HI0.out)); (case side2 => repeat (first | (with_reducible first | exact HB.out | apply below_alloc | apply pw_below_drewN | apply below_drew1 | refine below_set ?_ (IsS79.ge HI0.out) | refine below_set ?_ GE207.out | refine below_set ?_ GE208.out) | exact HB.out)); (case side3 => repeat (first | exact (Kd.R_reads' HO221.out).2.2 | (with_reducible refine Kd.C_alloc ?_ _) | (with_reducible refine Kd.C_drewN ?_ _) | (with_reducible refine Kd.C_drew ?_))); (case side4 => exact (Kd.R_reads' HO221.out).2.1); (case side5 => exact far_slice (IsS79.own_ne HI0.out HO221.out (by decide))); rintro e w25 ⟨rfl, hi, hb, hk⟩; refine ⟨_, rfl, ?_⟩; have n0_ := Aside0.mk (Kd.R_mono (Kd.R_keep (IsS79.apart (show IsS79 w0 _ g t218 from by repeat (first | (with_reducible first | exact HI0.out | apply IsS79.alloc | apply IsS79.drewN | apply IsS79.drew | apply IsS79.set_0 | refine IsS79.far ?_ NB0_207.out _ | refine IsS79.far ?_ NB0_208.out _) | exact HI0.out)) (Kd.R_x HO_9.out) (by decide)) hk (fun _ h => h.2)) (fun _ h => h.1)); have n1_ := Aside0.mk (Kd.S_mono (Kd.S_keep (IsS79.apartS (show IsS79 w0 _ g t218 from by repeat (first | (with_reducible first | exact HI0.out | apply IsS79.alloc | apply IsS79.drewN | apply IsS79.drew | apply IsS79.set_0 | refine IsS79.far ?_ NB0_207.out _ | refine IsS79.far ?_ NB0_208.out _) | exact HI0.out)) (Kd.S_x HO_209000.out) (by decide)) hk (fun _ h => h.2)) (fun _ h => h.1)); have n2_ := Aside0.mk (KeepBut.blk hk (g' := gb207) (o := .cells #[.slice none 0 0, .int .i64 0, .slice none 0 0, .int .i64 0, .slice none 0 0] 26 (0, 0)) (blk_x BK207.out) NB207_0.out (by simp)); have n3_ := Aside0.mk (KeepBut.blk hk (g' := gb208) (o := .cells #[.slice Ao17 x209000_1.length co17, .int .i64 0, .slice none 0 0, .int .i64 0, .slice none 0 0] 26 (0, 0)) (blk_x BK208.out) NB208_0.out (by simp)); have n4_ := Aside0.mk (Kd.R_mono (Kd.R_keep (IsS79.apart (show IsS79 w0 _ g t218 from by repeat (first | (with_reducible first | exact HI0.out | apply IsS79.alloc | apply IsS79.drewN | apply IsS79.drew | apply IsS79.set_0 | refine IsS79.far ?_ NB0_207.out _ | refine IsS79.far ?_ NB0_208.out _) | exact HI0.out)) (Kd.R_x HO221.out) (by decide)) hk (fun _ h => h.2)) (fun _ h => h.1)); have n5_ := Aside0.mk (KeepBut.trans (by repeat (first | (with_reducible first | exact HK.out | apply KeepBut.set_ | apply keep_drewN | apply keep_drew | apply keep_alloc | refine keep_far ?_ GW207.out _ | refine keep_far ?_ GW208.out _) | exact HK.out)) hk (.inl rfl)); have n6_ := Aside0.mk (hb); have n7_ := Aside0.mk (hi); clear HO_9; clear HO_209000; clear BK207; clear BK208; clear HO221; clear HK; clear HB; clear HI0; have HO_9 := n0_; have HO_209000 := n1_; have BK207 := n2_; have BK208 := n3_; have HO221 := n4_; have HK := n5_; have HB := n6_; have HI0 := n7_; clear n0_ n1_ n2_ n3_ n4_ n5_ n6_ n7_; (try clear hb); (try clear hb2); (try clear hk); (try clear hi)) | ((with_reducible refine gate_dst (N := 12) rfl ?_); (try (refine gate_guard (by rfl) ?_; dsimp only)); refine box_event ?hg (N := 12) ?hd (cs := #[.slice none 0 0, .bool false, .int .i64 0, .int .i64 0]) (t := 50) ?hr ?_; (case hd => rfl); (case hg => rfl); (case hr => first | (go_simp; done) | (go_simp; rfl)); intro gb224 hg w26 hbox hb; have n0_ := Aside0.mk (Kd.R_below (Kd.R_x HO_9.out) hb); have n1_ := Aside0.mk (Kd.S_below (Kd.S_elderB (Kd.S_x HO_209000.out) gb224 (Nat.le_of_eq hg.symm)) hb); have n2_ := Aside0.mk (Kd.R_below (Kd.R_x HO221.out) hb); have n3_ := Aside0.mk (blk_below (g := gb207) (o := .cells #[.slice none 0 0, .int .i64 0, .slice none 0 0, .int .i64 0, .slice none 0 0] 26 (0, 0)) (blk_x BK207.out) hb); have n4_ := Aside0.mk (blk_below (g := gb208) (o := .cells #[.slice Ao17 x209000_1.length co17, .int .i64 0, .slice none 0 0, .int .i64 0, .slice none 0 0] 26 (0, 0)) (blk_x BK208.out) hb); have n5_ := Aside0.mk (IsS79.below (by repeat (first | (with_reducible first | exact HI0.out | apply IsS79.alloc | apply IsS79.drewN | apply IsS79.drew | apply IsS79.set_0 | refine IsS79.far ?_ NB0_207.out _ | refine IsS79.far ?_ NB0_208.out _) | exact HI0.out)) hb); have n6_ := Aside0.mk (KeepBut.trans (by repeat (first | (with_reducible first | exact HK.out | apply KeepBut.set_ | apply keep_drewN | apply keep_drew | apply keep_alloc | refine keep_far ?_ GW207.out _ | refine keep_far ?_ GW208.out _) | exact HK.out)) (KeepBut.of_below hb g none) (.inl rfl)); have n7_ := Aside0.mk (below_step (by repeat (first | (with_reducible first | exact HB.out | apply below_alloc | apply pw_below_drewN | apply below_drew1 | refine below_set ?_ (IsS79.ge HI0.out) | refine below_set ?_ GE207.out | refine below_set ?_ GE208.out) | exact HB.out)) hb); have n8_ := Aside0.mk (hbox); have n9_ := Aside0.mk ((by rw [hg]; exact (keep_size (w := w) (g := g) (row := none) (by repeat (first | (with_reducible first | exact HK.out | apply KeepBut.set_ | apply keep_drewN | apply keep_drew | apply keep_alloc | refine keep_far ?_ GW207.out _ | refine keep_far ?_ GW208.out _) | exact HK.out))) : w.heap.size ≤ gb224)); have n10_ := Aside0.mk ((Nat.le_trans HW0.out (by rw [hg]; exact (keep_size (w := w) (g := g) (row := none) (by repeat (first | (with_reducible first | exact HK.out | apply KeepBut.set_ | apply keep_drewN | apply keep_drew | apply keep_alloc | refine keep_far ?_ GW207.out _ | refine keep_far ?_ GW208.out _) | exact HK.out))) : w.heap.size ≤ gb224) : w0.heap.size ≤ gb224)); have n11_ := Aside0.mk ((by rw [hg]; exact Nat.ne_of_lt (blk_lt (g := gb207) (o := .cells #[.slice none 0 0, .int .i64 0, .slice none 0 0, .int .i64 0, .slice none 0 0] 26 (0, 0)) (blk_x BK207.out)) : gb207 ≠ gb224)); have n12_ := Aside0.mk ((by rw [hg]; exact Nat.ne_of_gt (blk_lt (g := gb207) (o := .cells #[.slice none 0 0, .int .i64 0, .slice none 0 0, .int .i64 0, .slice none 0 0] 26 (0, 0)) (blk_x BK207.out)) : gb224 ≠ gb207)); have n13_ := Aside0.mk ((by rw [hg]; exact Nat.ne_of_lt (blk_lt (g := gb208) (o := .cells #[.slice Ao17 x209000_1.length co17, .int .i64 0, .slice none 0 0, .int .i64 0, .slice none 0 0] 26 (0, 0)) (blk_x BK208.out)) : gb208 ≠ gb224)); have n14_ := Aside0.mk ((by rw [hg]; exact Nat.ne_of_gt (blk_lt (g := gb208) (o := .cells #[.slice Ao17 x209000_1.length co17, .int .i64 0, .slice none 0 0, .int .i64 0, .slice none 0 0] 26 (0, 0)) (blk_x BK208.out)) : gb224 ≠ gb208)); have n15_ := Aside0.mk ((by rw [hg]; exact Nat.ne_of_lt (IsS79.lt (show IsS79 w0 _ g t223 from by repeat (first | (with_reducible first | exact HI0.out | apply IsS79.alloc | apply IsS79.drewN | apply IsS79.drew | apply IsS79.set_0 | refine IsS79.far ?_ NB0_207.out _ | refine IsS79.far ?_ NB0_208.out _) | exact HI0.out))) : g ≠ gb224)); have n16_ := Aside0.mk ((by rw [hg]; exact Nat.ne_of_gt (IsS79.lt (show IsS79 w0 _ g t223 from by repeat (first | (with_reducible first | exact HI0.out | apply IsS79.alloc | apply IsS79.drewN | apply IsS79.drew | apply IsS79.set_0 | refine IsS79.far ?_ NB0_207.out _ | refine IsS79.far ?_ NB0_208.out _) | exact HI0.out))) : gb224 ≠ g)); clear HO_9; clear HO_209000; clear HO221; clear BK207; clear BK208; clear HI0; clear HK; clear HB; have HO_9 := n0_; have HO_209000 := n1_; have HO221 := n2_; have BK207 := n3_; have BK208 := n4_; have HI0 := n5_; have HK := n6_; have HB := n7_; have BK224 := n8_; have GW224 := n9_; have GE224 := n10_; have NB207_224 := n11_; have NB224_207 := n12_; have NB208_224 := n13_; have NB224_208 := n14_; have NB0_224 := n15_; have NB224_0 := n16_; clear n0_ n1_ n2_ n3_ n4_ n5_ n6_ n7_ n8_ n9_ n10_ n11_ n12_ n13_ n14_ n15_ n16_; clear hb hbox hg; have hnb27 := NB224_207.out; have hnc27 := NB207_224.out; have hnb28 := NB224_208.out; have hnc28 := NB208_224.out; have hnb29 := NB224_0.out; have hnc29 := NB0_224.out; have hcz30_0 : w26.cell? ⟨gb224, 0, none⟩ = some (.slice none 0 0) := (blk_cell BK224.out 0).trans rfl; have hcz30_1 : w26.cell? ⟨gb224, 1, none⟩ = some (.bool false) := (blk_cell BK224.out 1).trans rfl; have hcz30_2 : w26.cell? ⟨gb224, 2, none⟩ = some (.int .i64 0) := (blk_cell BK224.out 2).trans rfl; have hcz30_3 : w26.cell? ⟨gb224, 3, none⟩ = some (.int .i64 0) := (blk_cell BK224.out 3).trans rfl; have hfz30_0 := blk_frozen BK224.out 0; have hfz30_1 := blk_frozen BK224.out 1; have hfz30_2 := blk_frozen BK224.out 2; have hfz30_3 := blk_frozen BK224.out 3))
    go_loopg [13, 14] k1 (fun kq v13 v14 w' => ∃ (x13_2 : Bool) (x14_2 : Int) (x1000_2 : Int) (x225000_2 : List Int) (u225000 : Value), v13 = .bool x13_2 ∧ v14 = .int .i64 x14_2 ∧ Aside0 (swarfkit_CarOf.l1 kq a2 x9_1 x10_1 (x209000_1.length : Int) x13_2 x14_2 x1000_2 x209000_1 0 0 x225000_2 t211 t213 t222 = some (r1, r2, r3, r4, r5, r6, r7)) ∧ Aside0 (kq ≤ k1) ∧ Aside0 (Kd.R Kd.bool 4 w' w.heap.size (fun _ => True) u9 x9_1) ∧ Aside0 (Kd.S k50 50 w' w.heap.size (fun k_ => some k_ ≠ (u225000 : Value).ownBlock ∧ k_ ≠ gb224) (.slice Ao17 x209000_1.length co17) x209000_1) ∧ Aside0 (Kd.R (Kd.int .i64) 3 w' w.heap.size (fun _ => True) u225000 x225000_2) ∧ Aside0 (w'.heap[gb207]? = some (.cells #[(.slice none 0 0), .int .i64 0, (.slice none 0 0), .int .i64 0, (.slice none 0 0)] 26 (0, 0))) ∧ Aside0 (w'.heap[gb208]? = some (.cells #[(.slice Ao17 x209000_1.length co17), .int .i64 0, (.slice none 0 0), .int .i64 0, (.slice none 0 0)] 26 (0, 0))) ∧ Aside0 (w'.heap[gb224]? = some (.cells #[u225000, .bool t211, .int .i64 t213, .int .i64 t222] 50 (0, 0))) ∧ Aside0 (IsS79 w0 w' g x1000_2) ∧ Aside0 (KeepBut w w' g none) ∧ Aside0 (Below w0.heap.size w0 w'))
    case atStart => exact ⟨(true), (0), (t223), (([] : List Int)), (.slice none 0 0), (by first | rfl | (simp; done) | (simp [*]; done)), (by first | rfl | (simp; done) | (simp [*]; done)), H', ⟨Nat.le_refl _⟩, ⟨by (with_reducible repeat (first | apply Kd.R_alloc | apply Kd.R_drewN | apply Kd.R_drew)); exact Kd.R_mono (Kd.R_far (p := ⟨gb224, 3, none⟩) (Kd.R_far (p := ⟨gb224, 2, none⟩) (Kd.R_far (p := ⟨gb224, 1, none⟩) (Kd.R_far (p := ⟨gb224, 0, none⟩) (Kd.R_types HO_9.out BK224.out (by decide)) (fun _ hk => hk.2) (.slice none 0 0)) (fun _ hk => hk.2) (.bool t211)) (fun _ hk => hk.2) (.int .i64 t213)) (fun _ hk => hk.2) (.int .i64 t222)) (fun _ hk => trivial)⟩, ⟨by (with_reducible repeat (first | apply Kd.S_alloc | apply Kd.S_drewN | apply Kd.S_drew)); exact Kd.S_mono (Kd.S_far (p := ⟨gb224, 3, none⟩) (Kd.S_far (p := ⟨gb224, 2, none⟩) (Kd.S_far (p := ⟨gb224, 1, none⟩) (Kd.S_far (p := ⟨gb224, 0, none⟩) (Kd.S_mono HO_209000.out (fun k_ hk => (⟨hk, hk.2⟩ : _ ∧ k_ ≠ gb224))) (fun _ hk => hk.2) (.slice none 0 0)) (fun _ hk => hk.2) (.bool t211)) (fun _ hk => hk.2) (.int .i64 t213)) (fun _ hk => hk.2) (.int .i64 t222)) (fun _ hk => ⟨(by simp [Value.ownBlock]), hk.1.2⟩)⟩, ⟨by first | exact Kd.R_nil _ _ _ _ _ | exact Kd.N_nil _ _ _ _ _ | exact Kd.V_nil _ _ _ _ _ | exact Kd.Q_nil _ _ _ _ _ | exact Kd.S_nil _ _ _ _ _⟩, ⟨by (with_reducible repeat (first | refine blk_drewN ?_ _ | refine blk_drew ?_ | refine blk_alloc ?_ _)); refine blk_far ?_ NB207_224.out _; (with_reducible repeat (first | refine blk_drewN ?_ _ | refine blk_drew ?_ | refine blk_alloc ?_ _)); refine blk_far ?_ NB207_224.out _; (with_reducible repeat (first | refine blk_drewN ?_ _ | refine blk_drew ?_ | refine blk_alloc ?_ _)); refine blk_far ?_ NB207_224.out _; (with_reducible repeat (first | refine blk_drewN ?_ _ | refine blk_drew ?_ | refine blk_alloc ?_ _)); refine blk_far ?_ NB207_224.out _; (with_reducible repeat (first | refine blk_drewN ?_ _ | refine blk_drew ?_ | refine blk_alloc ?_ _)); exact BK207.out⟩, ⟨by (with_reducible repeat (first | refine blk_drewN ?_ _ | refine blk_drew ?_ | refine blk_alloc ?_ _)); refine blk_far ?_ NB208_224.out _; (with_reducible repeat (first | refine blk_drewN ?_ _ | refine blk_drew ?_ | refine blk_alloc ?_ _)); refine blk_far ?_ NB208_224.out _; (with_reducible repeat (first | refine blk_drewN ?_ _ | refine blk_drew ?_ | refine blk_alloc ?_ _)); refine blk_far ?_ NB208_224.out _; (with_reducible repeat (first | refine blk_drewN ?_ _ | refine blk_drew ?_ | refine blk_alloc ?_ _)); refine blk_far ?_ NB208_224.out _; (with_reducible repeat (first | refine blk_drewN ?_ _ | refine blk_drew ?_ | refine blk_alloc ?_ _)); exact BK208.out⟩, ⟨by (with_reducible repeat (first | refine blk_drewN ?_ _ | refine blk_drew ?_ | refine blk_alloc ?_ _)); refine blk_put (cs := #[.slice none 0 0, .bool t211, .int .i64 t213, .int .i64 0]) ?_ 3 _ rfl; (with_reducible repeat (first | refine blk_drewN ?_ _ | refine blk_drew ?_ | refine blk_alloc ?_ _)); refine blk_put (cs := #[.slice none 0 0, .bool t211, .int .i64 0, .int .i64 0]) ?_ 2 _ rfl; (with_reducible repeat (first | refine blk_drewN ?_ _ | refine blk_drew ?_ | refine blk_alloc ?_ _)); refine blk_put (cs := #[.slice none 0 0, .bool false, .int .i64 0, .int .i64 0]) ?_ 1 _ rfl; (with_reducible repeat (first | refine blk_drewN ?_ _ | refine blk_drew ?_ | refine blk_alloc ?_ _)); refine blk_put (cs := #[.slice none 0 0, .bool false, .int .i64 0, .int .i64 0]) ?_ 0 _ rfl; (with_reducible repeat (first | refine blk_drewN ?_ _ | refine blk_drew ?_ | refine blk_alloc ?_ _)); exact BK224.out⟩, ⟨by repeat (first | (with_reducible first | exact HI0.out | apply IsS79.alloc | apply IsS79.drewN | apply IsS79.drew | apply IsS79.set_0 | refine IsS79.far ?_ NB0_207.out _ | refine IsS79.far ?_ NB0_208.out _ | refine IsS79.far ?_ NB0_224.out _) | exact HI0.out)⟩, ⟨by repeat (first | (with_reducible first | exact HK.out | apply KeepBut.set_ | apply keep_drewN | apply keep_drew | apply keep_alloc | refine keep_far ?_ GW207.out _ | refine keep_far ?_ GW208.out _ | refine keep_far ?_ GW224.out _) | exact HK.out)⟩, ⟨by repeat (first | (with_reducible first | exact HB.out | apply below_alloc | apply pw_below_drewN | apply below_drew1 | refine below_set ?_ (IsS79.ge HI0.out) | refine below_set ?_ GE207.out | refine below_set ?_ GE208.out | refine below_set ?_ GE224.out) | exact HB.out)⟩⟩
    case round =>
     clear H'
     try clear c1
     try clear c2
     try clear p2
     try clear c3
     try clear c4
     try clear c8
     try clear c8b0
     try clear c14
     try clear c15
     try clear c17
     try clear c24
     try clear c25
     try clear c27
     try clear c28
     try clear c29
     try clear hcz16_0
     try clear hcz16_1
     try clear hcz16_2
     try clear hcz16_3
     try clear hcz16_4
     try clear hcz30_0
     try clear hcz30_1
     try clear hcz30_2
     try clear hcz30_3
     try clear hfz16_0
     try clear hfz16_1
     try clear hfz16_2
     try clear hfz16_3
     try clear hfz16_4
     try clear hfz30_0
     try clear hfz30_1
     try clear hfz30_2
     try clear hfz30_3
     try clear p2
     obtain ⟨x13_2, x14_2, x1000_2, x225000_2, u225000, rfl, rfl, HA, HK2, HO_9, HO_209000, HO_225000, BK207, BK208, BK224, HI0, HK, HB⟩ := hrel
     cases gk with
     | zero => exact absurd HA.out (by simp [swarfkit_CarOf.l1])
     | succ k2 =>
      have H := HA.out
      clear HA
      simp only [swarfkit_CarOf.l1] at H
      by_cases c31 : x14_2 < (x209000_1.length : Int)
      ·
       rw [if_pos c31] at H
       have c31b0 : decide (x14_2 < (x209000_1.length : Int)) = true := decide_eq_true c31
       clear c31
       replace H := Option.bind_eq_some_iff.mp H
       obtain ⟨⟨t225, t226⟩, A320, H⟩ := H
       replace H : (if t225 = true then (if x225000_2.length < 17592186044416 then ((some (x225000_2 ++ [x14_2] : List Int)).bind fun y227 => (if x13_2 = true then (if 0 ≤ x14_2 then (if x14_2 < (x9_1.length : Int) then (swarfkit_CarOf.l1 k2 a2 x9_1 x10_1 (x209000_1.length : Int) (rdOf false x9_1 x14_2) (wrap64 (x14_2 + 1)) t226 x209000_1 0 0 y227 t211 t213 t222) else (none)) else (none)) else (swarfkit_CarOf.l1 k2 a2 x9_1 x10_1 (x209000_1.length : Int) false (wrap64 (x14_2 + 1)) t226 x209000_1 0 0 y227 t211 t213 t222))) else (none)) else (swarfkit_CarOf.l1 k2 a2 x9_1 x10_1 (x209000_1.length : Int) x13_2 (wrap64 (x14_2 + 1)) t226 x209000_1 0 0 x225000_2 t211 t213 t222)) = some (r1, r2, r3, r4, r5, r6, r7) := H
       have A32 := Aside0.mk A320
       clear A320
       by_cases c33 : t225 = true
       ·
        subst c33
        have H1 : (if x225000_2.length < 17592186044416 then ((some (x225000_2 ++ [x14_2] : List Int)).bind fun y227 => (if x13_2 = true then (if 0 ≤ x14_2 then (if x14_2 < (x9_1.length : Int) then (swarfkit_CarOf.l1 k2 a2 x9_1 x10_1 (x209000_1.length : Int) (rdOf false x9_1 x14_2) (wrap64 (x14_2 + 1)) t226 x209000_1 0 0 y227 t211 t213 t222) else (none)) else (none)) else (swarfkit_CarOf.l1 k2 a2 x9_1 x10_1 (x209000_1.length : Int) false (wrap64 (x14_2 + 1)) t226 x209000_1 0 0 y227 t211 t213 t222))) else (none)) = some (r1, r2, r3, r4, r5, r6, r7) := by rw [if_pos rfl] at H; exact H
        clear H
        have H := H1
        clear H1
        by_cases c34 : x225000_2.length < 17592186044416
        ·
         rw [if_pos c34] at H
         have LMc34 := Aside0.mk c34
         clear c34
         obtain ⟨y227, hy227⟩ : ∃ y_ : List Int, y_ = (x225000_2 ++ [x14_2]) := ⟨_, rfl⟩
         replace H : (if x13_2 = true then (if 0 ≤ x14_2 then (if x14_2 < (x9_1.length : Int) then (swarfkit_CarOf.l1 k2 a2 x9_1 x10_1 (x209000_1.length : Int) (rdOf false x9_1 x14_2) (wrap64 (x14_2 + 1)) t226 x209000_1 0 0 y227 t211 t213 t222) else (none)) else (none)) else (swarfkit_CarOf.l1 k2 a2 x9_1 x10_1 (x209000_1.length : Int) false (wrap64 (x14_2 + 1)) t226 x209000_1 0 0 y227 t211 t213 t222)) = some (r1, r2, r3, r4, r5, r6, r7) := by first | (rw [hy227]; with_reducible exact H) | (have H2_ := (Option.bind_some _ _).symm.trans H; rw [hy227]; with_reducible exact H2_) | (have H2_ := (Option.bind_some _ _).symm.trans H; with_reducible exact H2_) | with_reducible exact H | (rw [hy227]; exact H) | exact H
         have Ny227 := Aside0.mk hy227
         clear hy227
         by_cases c35 : x13_2 = true
         ·
          subst c35
          have H1 : (if 0 ≤ x14_2 then (if x14_2 < (x9_1.length : Int) then (swarfkit_CarOf.l1 k2 a2 x9_1 x10_1 (x209000_1.length : Int) (rdOf false x9_1 x14_2) (wrap64 (x14_2 + 1)) t226 x209000_1 0 0 y227 t211 t213 t222) else (none)) else (none)) = some (r1, r2, r3, r4, r5, r6, r7) := by rw [if_pos rfl] at H; exact H
          clear H
          have H := H1
          clear H1
          by_cases c36 : 0 ≤ x14_2
          ·
           rw [if_pos c36] at H
           have c36b0 : decide (0 ≤ x14_2) = true := decide_eq_true c36
           clear c36
           by_cases c37 : x14_2 < (x9_1.length : Int)
           ·
            rw [if_pos c37] at H
            have c37b0 : decide (x14_2 < (x9_1.length : Int)) = true := decide_eq_true c37
            clear c37
            have H' := Aside0.mk H
            clear H
            try go_wp2_with (first | ((with_reducible refine gate_callee (f := 35) rfl ?_); refine goesL_ (some 46) rfl rfl Try.func35 (by kernel_rfl) rfl #[.pointer (some ⟨g, 0, none⟩), .int .i64 1, .int .i64 4] rfl (by (try simp only [List.map_toArray, List.map_cons, List.map_nil]); first | done | rfl | (simp only [List.length_drop, List.length_take]; rfl)) ?_; (with_reducible refine (swarfkit_Feed_Often.calls g x1000_2 1 4 true t226 w0 _ ?side1 ?side2 A32.out).mono ?_); (case side1 => repeat (first | (with_reducible first | exact HI0.out | apply IsS79.alloc | apply IsS79.drewN | apply IsS79.drew | apply IsS79.set_0 | refine IsS79.far ?_ NB0_207.out _ | refine IsS79.far ?_ NB0_208.out _ | refine IsS79.far ?_ NB0_224.out _) | exact HI0.out)); (case side2 => repeat (first | (with_reducible first | exact HB.out | apply below_alloc | apply pw_below_drewN | apply below_drew1 | refine below_set ?_ (IsS79.ge HI0.out) | refine below_set ?_ GE207.out | refine below_set ?_ GE208.out | refine below_set ?_ GE224.out) | exact HB.out)); rintro e w38 ⟨rfl, hi, hb, hk⟩; refine ⟨_, rfl, ?_⟩; have n0_ := Aside0.mk (Kd.R_mono (Kd.R_keep (IsS79.apart (show IsS79 w0 _ g x1000_2 from by repeat (first | (with_reducible first | exact HI0.out | apply IsS79.alloc | apply IsS79.drewN | apply IsS79.drew | apply IsS79.set_0 | refine IsS79.far ?_ NB0_207.out _ | refine IsS79.far ?_ NB0_208.out _ | refine IsS79.far ?_ NB0_224.out _) | exact HI0.out)) (Kd.R_x HO_9.out) (by decide)) hk (fun _ h => h.2)) (fun _ h => h.1)); have n1_ := Aside0.mk (Kd.S_mono (Kd.S_keep (IsS79.apartS (show IsS79 w0 _ g x1000_2 from by repeat (first | (with_reducible first | exact HI0.out | apply IsS79.alloc | apply IsS79.drewN | apply IsS79.drew | apply IsS79.set_0 | refine IsS79.far ?_ NB0_207.out _ | refine IsS79.far ?_ NB0_208.out _ | refine IsS79.far ?_ NB0_224.out _) | exact HI0.out)) (Kd.S_x HO_209000.out) (by decide)) hk (fun _ h => h.2)) (fun _ h => h.1)); have n2_ := Aside0.mk (Kd.R_mono (Kd.R_keep (IsS79.apart (show IsS79 w0 _ g x1000_2 from by repeat (first | (with_reducible first | exact HI0.out | apply IsS79.alloc | apply IsS79.drewN | apply IsS79.drew | apply IsS79.set_0 | refine IsS79.far ?_ NB0_207.out _ | refine IsS79.far ?_ NB0_208.out _ | refine IsS79.far ?_ NB0_224.out _) | exact HI0.out)) (Kd.R_x HO_225000.out) (by decide)) hk (fun _ h => h.2)) (fun _ h => h.1)); have n3_ := Aside0.mk (KeepBut.blk hk (g' := gb207) (o := .cells #[.slice none 0 0, .int .i64 0, .slice none 0 0, .int .i64 0, .slice none 0 0] 26 (0, 0)) (blk_x BK207.out) NB207_0.out (by simp)); have n4_ := Aside0.mk (KeepBut.blk hk (g' := gb208) (o := .cells #[.slice Ao17 x209000_1.length co17, .int .i64 0, .slice none 0 0, .int .i64 0, .slice none 0 0] 26 (0, 0)) (blk_x BK208.out) NB208_0.out (by simp)); have n5_ := Aside0.mk (KeepBut.blk hk (g' := gb224) (o := .cells #[u225000, .bool t211, .int .i64 t213, .int .i64 t222] 50 (0, 0)) (blk_x BK224.out) NB224_0.out (by simp)); have n6_ := Aside0.mk (KeepBut.trans (by repeat (first | (with_reducible first | exact HK.out | apply KeepBut.set_ | apply keep_drewN | apply keep_drew | apply keep_alloc | refine keep_far ?_ GW207.out _ | refine keep_far ?_ GW208.out _ | refine keep_far ?_ GW224.out _) | exact HK.out)) hk (.inl rfl)); have n7_ := Aside0.mk (hb); have n8_ := Aside0.mk (hi); clear HO_9; clear HO_209000; clear HO_225000; clear BK207; clear BK208; clear BK224; clear HK; clear HB; clear HI0; have HO_9 := n0_; have HO_209000 := n1_; have HO_225000 := n2_; have BK207 := n3_; have BK208 := n4_; have BK224 := n5_; have HK := n6_; have HB := n7_; have HI0 := n8_; clear n0_ n1_ n2_ n3_ n4_ n5_ n6_ n7_ n8_; (try clear hb); (try clear hb2); (try clear hk); (try clear hi)))
            have n0_ := Aside0.mk (Kd.R_drew HO_9.out)
            have n1_ := Aside0.mk (Kd.S_drew HO_209000.out)
            have n2_ := Aside0.mk (Kd.R_drew HO_225000.out)
            have n3_ := Aside0.mk (blk_drew BK207.out)
            have n4_ := Aside0.mk (blk_drew BK208.out)
            have n5_ := Aside0.mk (blk_drew BK224.out)
            have n6_ := Aside0.mk (IsS79.drew HI0.out)
            have n7_ := Aside0.mk (keep_drew HK.out)
            have n8_ := Aside0.mk (below_drew1 HB.out)
            clear HO_9 HO_209000 HO_225000 BK207 BK208 BK224 HI0 HK HB
            have HO_9 := n0_
            have HO_209000 := n1_
            have HO_225000 := n2_
            have BK207 := n3_
            have BK208 := n4_
            have BK224 := n5_
            have HI0 := n6_
            have HK := n7_
            have HB := n8_
            clear n0_ n1_ n2_ n3_ n4_ n5_ n6_ n7_ n8_
            have p230 : 0 ≤ (x14_2 : Int) := of_decide_eq_true (by first | (with_reducible assumption) | assumption)
            have q230 : x14_2 < (x9_1.length : Int) := of_decide_eq_true (by first | (with_reducible assumption) | assumption)
            obtain ⟨Ao_, co_, eo_⟩ := Kd.R_slice HO_9.out
            subst eo_
            obtain ⟨ad230, e230, hx230_0⟩ := Kd.at_bool (Kd.R_reads' HO_9.out).2.2 x14_2 p230 q230
            cases e230
            replace p230 := eq_true p230
            replace q230 := eq_true q230
            have hne_ : (ad230.add (x14_2).toNat).block ≠ gb224 := by
             first | rw [add_block] | (show (Addr.add _ _).block ≠ _; rw [add_block])
             intro e_
             obtain ⟨_, hz_⟩ := Kd.R_typed HO_9.out _ rfl
             rw [e_, BK224.out] at hz_
             injection hz_ with hz_
             injection hz_ with _ hz_
             exact absurd hz_ (by decide)
            have hc0_ : w38.cell? ⟨gb224, 0, none⟩ = some (u225000) := (blk_cell BK224.out 0).trans rfl
            have hc1_ : w38.cell? ⟨gb224, 1, none⟩ = some (.bool t211) := (blk_cell BK224.out 1).trans rfl
            have hc2_ : w38.cell? ⟨gb224, 2, none⟩ = some (.int .i64 t213) := (blk_cell BK224.out 2).trans rfl
            have hc3_ : w38.cell? ⟨gb224, 3, none⟩ = some (.int .i64 t222) := (blk_cell BK224.out 3).trans rfl
            have hx_ : w38.cell? (ad230.add (x14_2).toNat) = some (.bool (rdOf false x9_1 x14_2)) := hx230_0
            have hcA0_ : (w38.alloc (.cells #[.int .i64 x14_2] 3)).cell? ⟨gb224, 0, none⟩ = some (u225000) := (blk_cell (blk_alloc BK224.out _) 0).trans rfl
            have hcA1_ : (w38.alloc (.cells #[.int .i64 x14_2] 3)).cell? ⟨gb224, 1, none⟩ = some (.bool t211) := (blk_cell (blk_alloc BK224.out _) 1).trans rfl
            have hcA2_ : (w38.alloc (.cells #[.int .i64 x14_2] 3)).cell? ⟨gb224, 2, none⟩ = some (.int .i64 t213) := (blk_cell (blk_alloc BK224.out _) 2).trans rfl
            have hcA3_ : (w38.alloc (.cells #[.int .i64 x14_2] 3)).cell? ⟨gb224, 3, none⟩ = some (.int .i64 t222) := (blk_cell (blk_alloc BK224.out _) 3).trans rfl
            have hxA_ : (w38.alloc (.cells #[.int .i64 x14_2] 3)).cell? (ad230.add (x14_2).toNat) = some (.bool (rdOf false x9_1 x14_2)) := (World.cell?_alloc_lt _ _ _ (World.block_lt_of_cell? _ _ hx_)).trans hx_
            go_region_law ((refine Kd.R_append_step (W := w38.drew) (Kd.int .i64) w.heap.size (by rfl) (.tmp 48) (.tmp 50) 24 3 (.int .i64 0) 8 (by rfl) Try.underlying24 info3 rfl (by decide) (by omega) u225000 x225000_2 x14_2 [.int .i64 x14_2] (fun _ => True) (fun _ => False) (by rfl) (by rfl) ?aP (fun _ hk => hk.elim) ?aF ?aO (Below.refl _ _) ?aS ?aL ?_; (case aP => exact rfl); (case aF => exact (fun _ _ => trivial)); (case aO => exact (Kd.R_x HO_225000.out)); (case aS => exact (keep_size (w := w) (g := g) (row := none) (by repeat (first | (with_reducible first | exact HK.out | apply KeepBut.set_ | apply keep_drewN | apply keep_drew | apply keep_alloc | refine keep_far ?_ GW207.out _ | refine keep_far ?_ GW208.out _ | refine keep_far ?_ GW224.out _) | exact HK.out)))); (case aL => have := LMc34.out; omega); intro v228 w40 ho hb hg hat; (first | have HS4_ := cell_grown hg (hx230_0) (by first | exact (by obtain ⟨_, hz_⟩ := Kd.R_typed HO_9.out _ rfl; exact Kd.R_ne HO_225000.out hz_ (by decide)) | (rw [add_block]; exact (by obtain ⟨_, hz_⟩ := Kd.R_typed HO_9.out _ rfl; exact Kd.R_ne HO_225000.out hz_ (by decide))) | (show some (Addr.add _ _).block ≠ _; rw [add_block]; exact (by obtain ⟨_, hz_⟩ := Kd.R_typed HO_9.out _ rfl; exact Kd.R_ne HO_225000.out hz_ (by decide)))) | have HS4_ := cell_grown hg (cell_unalloc (hx230_0) (by first | exact (by obtain ⟨_, hz_⟩ := Kd.R_typed HO_9.out _ rfl; exact blk_lt hz_) | (rw [add_block]; exact (by obtain ⟨_, hz_⟩ := Kd.R_typed HO_9.out _ rfl; exact blk_lt hz_)) | (show (Addr.add _ _).block < _; rw [add_block]; exact (by obtain ⟨_, hz_⟩ := Kd.R_typed HO_9.out _ rfl; exact blk_lt hz_)))) (by first | exact (by obtain ⟨_, hz_⟩ := Kd.R_typed HO_9.out _ rfl; exact Kd.R_ne HO_225000.out hz_ (by decide)) | (rw [add_block]; exact (by obtain ⟨_, hz_⟩ := Kd.R_typed HO_9.out _ rfl; exact Kd.R_ne HO_225000.out hz_ (by decide))) | (show some (Addr.add _ _).block ≠ _; rw [add_block]; exact (by obtain ⟨_, hz_⟩ := Kd.R_typed HO_9.out _ rfl; exact Kd.R_ne HO_225000.out hz_ (by decide))))); rw [← Ny227.out] at ho; have n0_ := Aside0.mk (Kd.R_over' (Kd.R_x HO_9.out) (Kd.R_typed (Kd.R_x HO_225000.out)) (by decide) hg); have n1_ := Aside0.mk (Kd.S_after (ok := (fun k_ => k_ ≠ gb224)) (by (with_reducible repeat (first | apply Kd.S_alloc | apply Kd.S_drewN | apply Kd.S_drew)); exact Kd.S_mono HO_209000.out (fun _ hk => ⟨hk.2, hk.1⟩)) hg hat); have n2_ := Aside0.mk (blk_grown (g := gb207) (o := .cells #[.slice none 0 0, .int .i64 0, .slice none 0 0, .int .i64 0, .slice none 0 0] 26 (0, 0)) (blk_x BK207.out) hg (Kd.R_ne HO_225000.out BK207.out (by decide))); have n3_ := Aside0.mk (blk_grown (g := gb208) (o := .cells #[.slice Ao17 x209000_1.length co17, .int .i64 0, .slice none 0 0, .int .i64 0, .slice none 0 0] 26 (0, 0)) (blk_x BK208.out) hg (Kd.R_ne HO_225000.out BK208.out (by decide))); have n4_ := Aside0.mk (blk_grown (g := gb224) (o := .cells #[u225000, .bool t211, .int .i64 t213, .int .i64 t222] 50 (0, 0)) (blk_x BK224.out) hg (Kd.R_ne HO_225000.out BK224.out (by decide))); have n5_ := Aside0.mk (IsS79.grown (by repeat (first | (with_reducible first | exact HI0.out | apply IsS79.alloc | apply IsS79.drewN | apply IsS79.drew | apply IsS79.set_0 | refine IsS79.far ?_ NB0_207.out _ | refine IsS79.far ?_ NB0_208.out _ | refine IsS79.far ?_ NB0_224.out _) | exact HI0.out)) hg (IsS79.own_ne HI0.out HO_225000.out (by decide))); have n6_ := Aside0.mk (below_weaken (by repeat (first | (with_reducible first | exact HB.out | apply below_alloc | apply pw_below_drewN | apply below_drew1 | refine below_set ?_ (IsS79.ge HI0.out) | refine below_set ?_ GE207.out | refine below_set ?_ GE208.out | refine below_set ?_ GE224.out) | exact HB.out)) HL.out hb); have n7_ := Aside0.mk (KeepBut.trans (by repeat (first | (with_reducible first | exact HK.out | apply KeepBut.set_ | apply keep_drewN | apply keep_drew | apply keep_alloc | refine keep_far ?_ GW207.out _ | refine keep_far ?_ GW208.out _ | refine keep_far ?_ GW224.out _) | exact HK.out)) (KeepBut.of_grown hg g) (Kd.R_base2 HO_225000.out)); have n8_ := Aside0.mk (ho); clear HO_9; clear HO_209000; clear BK207; clear BK208; clear BK224; clear HI0; clear HB; clear HK; clear HO_225000; have HO_9 := n0_; have HO_209000 := n1_; have BK207 := n2_; have BK208 := n3_; have BK224 := n4_; have HI0 := n5_; have HB := n6_; have HK := n7_; have HO229 := n8_; clear n0_ n1_ n2_ n3_ n4_ n5_ n6_ n7_ n8_; clear ho hb hg hat; obtain ⟨Ao41, co41, eo41⟩ := Kd.R_slice HO_9.out; (first | subst eo41 | (injection eo41 with f1_ f2_ f3_; have f4_ := f1_.symm; have f5_ := f3_.symm; clear f1_ f2_ f3_; subst f4_; subst f5_)); obtain ⟨Ao42, co42, eo42⟩ := Kd.R_slice HO229.out; (first | subst eo42 | (injection eo42 with f1_ f2_ f3_; have f4_ := f1_.symm; have f5_ := f3_.symm; clear f1_ f2_ f3_; subst f4_; subst f5_)); have hs43 : w40.cell? ⟨gb224, 0, none⟩ = some (u225000) := (blk_cell BK224.out 0).trans rfl; have hfs43 := blk_frozen BK224.out 0; have hns43_0 := NB207_224.out; have hns43_1 := NB208_224.out; have hms43_0 := NB224_207.out; have hms43_1 := NB224_208.out; have hxS_ : (w40.setCell ⟨gb224, 0, none⟩ (.slice Ao42 y227.length co42)).cell? (ad230.add (x14_2).toNat) = some (.bool (rdOf false x9_1 x14_2)) := (cell_far (p := ⟨gb224, 0, none⟩) hne_ _).trans HS4_))
            all_goals
             try go_wp2
             go_roundg k2
             case measure => have := HK1.out; have := HK2.out; omega
             case rel => exact ⟨(rdOf false x9_1 x14_2), (wrap64 (x14_2 + 1)), (t226), (y227), (.slice Ao42 y227.length co42), (by first | rfl | (simp; done) | (simp [*]; done)), (by first | rfl | (simp; done) | (simp [*]; done)), H', ⟨by have := HK1.out; have := HK2.out; omega⟩, ⟨by (with_reducible repeat (first | apply Kd.R_alloc | apply Kd.R_drewN | apply Kd.R_drew)); exact Kd.R_mono (Kd.R_far (p := ⟨gb224, 0, none⟩) (Kd.R_types HO_9.out BK224.out (by decide)) (fun _ hk => hk.2) (.slice Ao42 y227.length co42)) (fun _ hk => trivial)⟩, ⟨by (with_reducible repeat (first | apply Kd.S_alloc | apply Kd.S_drewN | apply Kd.S_drew)); exact Kd.S_mono (Kd.S_far (p := ⟨gb224, 0, none⟩) (Kd.S_mono HO_209000.out (fun k_ hk => (⟨hk, hk.1⟩ : _ ∧ k_ ≠ gb224))) (fun _ hk => hk.2) (.slice Ao42 y227.length co42)) (fun _ hk => ⟨hk.1.2, hk.1.1⟩)⟩, ⟨by (with_reducible repeat (first | apply Kd.R_alloc | apply Kd.R_drewN | apply Kd.R_drew)); exact Kd.R_mono (Kd.R_far (p := ⟨gb224, 0, none⟩) (Kd.R_types HO229.out BK224.out (by decide)) (fun _ hk => hk.2) (.slice Ao42 y227.length co42)) (fun _ hk => trivial)⟩, ⟨by (with_reducible repeat (first | refine blk_drewN ?_ _ | refine blk_drew ?_ | refine blk_alloc ?_ _)); refine blk_far ?_ NB207_224.out _; (with_reducible repeat (first | refine blk_drewN ?_ _ | refine blk_drew ?_ | refine blk_alloc ?_ _)); exact BK207.out⟩, ⟨by (with_reducible repeat (first | refine blk_drewN ?_ _ | refine blk_drew ?_ | refine blk_alloc ?_ _)); refine blk_far ?_ NB208_224.out _; (with_reducible repeat (first | refine blk_drewN ?_ _ | refine blk_drew ?_ | refine blk_alloc ?_ _)); exact BK208.out⟩, ⟨by (with_reducible repeat (first | refine blk_drewN ?_ _ | refine blk_drew ?_ | refine blk_alloc ?_ _)); refine blk_put (cs := #[u225000, .bool t211, .int .i64 t213, .int .i64 t222]) ?_ 0 _ rfl; (with_reducible repeat (first | refine blk_drewN ?_ _ | refine blk_drew ?_ | refine blk_alloc ?_ _)); exact BK224.out⟩, ⟨by repeat (first | (with_reducible first | exact HI0.out | apply IsS79.alloc | apply IsS79.drewN | apply IsS79.drew | apply IsS79.set_0 | refine IsS79.far ?_ NB0_207.out _ | refine IsS79.far ?_ NB0_208.out _ | refine IsS79.far ?_ NB0_224.out _) | exact HI0.out)⟩, ⟨by repeat (first | (with_reducible first | exact HK.out | apply KeepBut.set_ | apply keep_drewN | apply keep_drew | apply keep_alloc | refine keep_far ?_ GW207.out _ | refine keep_far ?_ GW208.out _ | refine keep_far ?_ GW224.out _) | exact HK.out)⟩, ⟨by repeat (first | (with_reducible first | exact HB.out | apply below_alloc | apply pw_below_drewN | apply below_drew1 | refine below_set ?_ (IsS79.ge HI0.out) | refine below_set ?_ GE207.out | refine below_set ?_ GE208.out | refine below_set ?_ GE224.out) | exact HB.out)⟩⟩
           ·
            rw [if_neg c37] at H
            exact absurd H (by simp)
          ·
           rw [if_neg c36] at H
           exact absurd H (by simp)
         ·
          replace c35 := Bool.eq_false_iff.mpr c35
          subst c35
          have H1 : (swarfkit_CarOf.l1 k2 a2 x9_1 x10_1 (x209000_1.length : Int) false (wrap64 (x14_2 + 1)) t226 x209000_1 0 0 y227 t211 t213 t222) = some (r1, r2, r3, r4, r5, r6, r7) := by rw [if_neg (show ¬ (false = true) by decide)] at H; exact H
          clear H
          have H := H1
          clear H1
          have H' := Aside0.mk H
          clear H
          try go_wp2_with (first | ((with_reducible refine gate_callee (f := 35) rfl ?_); refine goesL_ (some 46) rfl rfl Try.func35 (by kernel_rfl) rfl #[.pointer (some ⟨g, 0, none⟩), .int .i64 1, .int .i64 4] rfl (by (try simp only [List.map_toArray, List.map_cons, List.map_nil]); first | done | rfl | (simp only [List.length_drop, List.length_take]; rfl)) ?_; (with_reducible refine (swarfkit_Feed_Often.calls g x1000_2 1 4 true t226 w0 _ ?side1 ?side2 A32.out).mono ?_); (case side1 => repeat (first | (with_reducible first | exact HI0.out | apply IsS79.alloc | apply IsS79.drewN | apply IsS79.drew | apply IsS79.set_0 | refine IsS79.far ?_ NB0_207.out _ | refine IsS79.far ?_ NB0_208.out _ | refine IsS79.far ?_ NB0_224.out _) | exact HI0.out)); (case side2 => repeat (first | (with_reducible first | exact HB.out | apply below_alloc | apply pw_below_drewN | apply below_drew1 | refine below_set ?_ (IsS79.ge HI0.out) | refine below_set ?_ GE207.out | refine below_set ?_ GE208.out | refine below_set ?_ GE224.out) | exact HB.out)); rintro e w44 ⟨rfl, hi, hb, hk⟩; refine ⟨_, rfl, ?_⟩; have n0_ := Aside0.mk (Kd.R_mono (Kd.R_keep (IsS79.apart (show IsS79 w0 _ g x1000_2 from by repeat (first | (with_reducible first | exact HI0.out | apply IsS79.alloc | apply IsS79.drewN | apply IsS79.drew | apply IsS79.set_0 | refine IsS79.far ?_ NB0_207.out _ | refine IsS79.far ?_ NB0_208.out _ | refine IsS79.far ?_ NB0_224.out _) | exact HI0.out)) (Kd.R_x HO_9.out) (by decide)) hk (fun _ h => h.2)) (fun _ h => h.1)); have n1_ := Aside0.mk (Kd.S_mono (Kd.S_keep (IsS79.apartS (show IsS79 w0 _ g x1000_2 from by repeat (first | (with_reducible first | exact HI0.out | apply IsS79.alloc | apply IsS79.drewN | apply IsS79.drew | apply IsS79.set_0 | refine IsS79.far ?_ NB0_207.out _ | refine IsS79.far ?_ NB0_208.out _ | refine IsS79.far ?_ NB0_224.out _) | exact HI0.out)) (Kd.S_x HO_209000.out) (by decide)) hk (fun _ h => h.2)) (fun _ h => h.1)); have n2_ := Aside0.mk (Kd.R_mono (Kd.R_keep (IsS79.apart (show IsS79 w0 _ g x1000_2 from by repeat (first | (with_reducible first | exact HI0.out | apply IsS79.alloc | apply IsS79.drewN | apply IsS79.drew | apply IsS79.set_0 | refine IsS79.far ?_ NB0_207.out _ | refine IsS79.far ?_ NB0_208.out _ | refine IsS79.far ?_ NB0_224.out _) | exact HI0.out)) (Kd.R_x HO_225000.out) (by decide)) hk (fun _ h => h.2)) (fun _ h => h.1)); have n3_ := Aside0.mk (KeepBut.blk hk (g' := gb207) (o := .cells #[.slice none 0 0, .int .i64 0, .slice none 0 0, .int .i64 0, .slice none 0 0] 26 (0, 0)) (blk_x BK207.out) NB207_0.out (by simp)); have n4_ := Aside0.mk (KeepBut.blk hk (g' := gb208) (o := .cells #[.slice Ao17 x209000_1.length co17, .int .i64 0, .slice none 0 0, .int .i64 0, .slice none 0 0] 26 (0, 0)) (blk_x BK208.out) NB208_0.out (by simp)); have n5_ := Aside0.mk (KeepBut.blk hk (g' := gb224) (o := .cells #[u225000, .bool t211, .int .i64 t213, .int .i64 t222] 50 (0, 0)) (blk_x BK224.out) NB224_0.out (by simp)); have n6_ := Aside0.mk (KeepBut.trans (by repeat (first | (with_reducible first | exact HK.out | apply KeepBut.set_ | apply keep_drewN | apply keep_drew | apply keep_alloc | refine keep_far ?_ GW207.out _ | refine keep_far ?_ GW208.out _ | refine keep_far ?_ GW224.out _) | exact HK.out)) hk (.inl rfl)); have n7_ := Aside0.mk (hb); have n8_ := Aside0.mk (hi); clear HO_9; clear HO_209000; clear HO_225000; clear BK207; clear BK208; clear BK224; clear HK; clear HB; clear HI0; have HO_9 := n0_; have HO_209000 := n1_; have HO_225000 := n2_; have BK207 := n3_; have BK208 := n4_; have BK224 := n5_; have HK := n6_; have HB := n7_; have HI0 := n8_; clear n0_ n1_ n2_ n3_ n4_ n5_ n6_ n7_ n8_; (try clear hb); (try clear hb2); (try clear hk); (try clear hi)))
          have n0_ := Aside0.mk (Kd.R_drew HO_9.out)
          have n1_ := Aside0.mk (Kd.S_drew HO_209000.out)
          have n2_ := Aside0.mk (Kd.R_drew HO_225000.out)
          have n3_ := Aside0.mk (blk_drew BK207.out)
          have n4_ := Aside0.mk (blk_drew BK208.out)
          have n5_ := Aside0.mk (blk_drew BK224.out)
          have n6_ := Aside0.mk (IsS79.drew HI0.out)
          have n7_ := Aside0.mk (keep_drew HK.out)
          have n8_ := Aside0.mk (below_drew1 HB.out)
          clear HO_9 HO_209000 HO_225000 BK207 BK208 BK224 HI0 HK HB
          have HO_9 := n0_
          have HO_209000 := n1_
          have HO_225000 := n2_
          have BK207 := n3_
          have BK208 := n4_
          have BK224 := n5_
          have HI0 := n6_
          have HK := n7_
          have HB := n8_
          clear n0_ n1_ n2_ n3_ n4_ n5_ n6_ n7_ n8_
          refine start_ (n := 15) (S := fun w' => w'.cell? ⟨gb224, 0, none⟩ = some (u225000) ∧ w'.cell? ⟨gb224, 1, none⟩ = some (.bool t211) ∧ w'.cell? ⟨gb224, 2, none⟩ = some (.int .i64 t213) ∧ w'.cell? ⟨gb224, 3, none⟩ = some (.int .i64 t222)) (ds := [13]) #[false, false, false, false, false, false, false, false, false, false, false, false, false, false, false] (by kernel_rfl) rfl rfl ⟨(blk_cell BK224.out 0).trans rfl, (blk_cell BK224.out 1).trans rfl, (blk_cell BK224.out 2).trans rfl, (blk_cell BK224.out 3).trans rfl⟩ (fun hHeld => ?_); refine with_tabW swarfkit_CarOf.tab13 swarfkit_CarOf.bits13 (fun HT_ HW_ => ?_)
          generalize w44.drew = w45 at HO_9 HO_209000 HO_225000 BK207 BK208 BK224 HI0 HK HB hHeld ⊢
          refine pure_ (i := 0) (N := some 47) (v := ?_) (a' := ?_) (bz 15 1) rfl rfl (any_of HT_.out (by kernel_rfl)) (fun _ _ _ h => h) (Or.inl ⟨by rfl, ?_⟩) ?_ ?_
          rotate_left
          ·
           intro w'
           go_simp
           with_reducible rfl
          rotate_left
          ·
           simp only [Act.put, List.setIfInBounds_toArray, List.set_cons_zero, List.set_cons_succ, i64_w, i32_w]
           rfl
          refine pure_ (i := 2) (N := some 49) (v := ?_) (a' := ?_) (bz 15 5) rfl rfl (any_of HT_.out (by kernel_rfl)) (fun _ _ _ h => h) (Or.inl ⟨by rfl, ?_⟩) ?_ ?_
          rotate_left
          ·
           intro w'
           go_simp
           with_reducible rfl
          rotate_left
          ·
           simp only [Act.put, List.setIfInBounds_toArray, List.set_cons_zero, List.set_cons_succ, i64_w, i32_w]
           rfl
          refine pure_ (i := 5) (N := some 52) (v := ?_) (a' := ?_) (bz 15 37) rfl rfl (any_of HT_.out (by kernel_rfl)) (fun _ _ _ h => h) (Or.inl ⟨by rfl, ?_⟩) ?_ ?_
          rotate_left
          ·
           intro w'
           go_simp
           with_reducible rfl
          rotate_left
          ·
           simp only [Act.put, List.setIfInBounds_toArray, List.set_cons_zero, List.set_cons_succ, i64_w, i32_w]
           rfl
          refine take_ (i := 1) (N := some 48) (v := ?_) (a' := ?_) (bz 15 39) rfl rfl (take_ofW HT_.out HW_.out (by kernel_rfl)) (fun _ _ _ h => h) (Or.inl ⟨by rfl, ?_⟩) hHeld ?_ ?_
          rotate_left
          ·
           rintro w' ⟨s0, s1, s2, s3⟩
           go_simp
           with_reducible rfl
          rotate_left
          ·
           simp only [Act.put, List.setIfInBounds_toArray, List.set_cons_zero, List.set_cons_succ, i64_w, i32_w]
           rfl
          refine one_ (i := 3) (N := some 50) (bz 15 47) rfl rfl (one_of HT_.out (by kernel_rfl)) (by decide) (fun K hK => ?_)
          refine value_ (w1 := ?_) (v := ?_) (by rfl) rfl ?_ ?_
          rotate_left 2
          ·
           go_simp
           constructor
           ·
            rfl
           ·
            rfl
          refine hK.out _ _ ⟨(blk_cell (blk_alloc BK224.out _) 0).trans rfl, (blk_cell (blk_alloc BK224.out _) 1).trans rfl, (blk_cell (blk_alloc BK224.out _) 2).trans rfl, (blk_cell (blk_alloc BK224.out _) 3).trans rfl⟩ (fun hHeld => ?_)
          clear hK K
          refine norm_ (a' := ?_) ?_ ?_
          rotate_left
          ·
           show Act.put _ (some 50) _ = _
           simp only [Act.put, List.setIfInBounds_toArray, List.set_cons_zero, List.set_cons_succ, i64_w, i32_w]
           rfl
          refine one_ (i := 4) (N := some 51) (bz 15 63) rfl rfl (one_of HT_.out (by kernel_rfl)) (by decide) (fun K hK => ?_)
          refine Kd.R_append_step (Kd.int .i64) w.heap.size (by rfl) (.tmp 48) (.tmp 50) 24 3 (.int .i64 0) 8 rfl Try.underlying24 info3 rfl (by decide) (by omega) u225000 x225000_2 x14_2 [.int .i64 x14_2] (fun _ => True) (fun _ => False) rfl rfl ?aP (fun _ hk => hk.elim) ?aF ?aO (Below.refl _ _) ?aS ?aL ?_
          (case aP => exact rfl)
          (case aF => exact (fun _ _ => trivial))
          (case aO => exact (Kd.R_x HO_225000.out))
          (case aS => exact (keep_size (w := w) (g := g) (row := none) (by repeat (first | (with_reducible first | exact HK.out | apply KeepBut.set_ | apply keep_drewN | apply keep_drew | apply keep_alloc | refine keep_far ?_ GW207.out _ | refine keep_far ?_ GW208.out _ | refine keep_far ?_ GW224.out _) | exact HK.out))))
          (case aL => have := LMc34.out; omega)
          intro v228 w46 ho hb hg hat
          rw [← Ny227.out] at ho
          have n0_ := Aside0.mk (Kd.R_over' (Kd.R_x HO_9.out) (Kd.R_typed (Kd.R_x HO_225000.out)) (by decide) hg)
          have n1_ := Aside0.mk (Kd.S_after (ok := (fun k_ => k_ ≠ gb224)) (by (with_reducible repeat (first | apply Kd.S_alloc | apply Kd.S_drewN | apply Kd.S_drew)); exact Kd.S_mono HO_209000.out (fun _ hk => ⟨hk.2, hk.1⟩)) hg hat)
          have n2_ := Aside0.mk (blk_grown (g := gb207) (o := .cells #[.slice none 0 0, .int .i64 0, .slice none 0 0, .int .i64 0, .slice none 0 0] 26 (0, 0)) (blk_x BK207.out) hg (Kd.R_ne HO_225000.out BK207.out (by decide)))
          have n3_ := Aside0.mk (blk_grown (g := gb208) (o := .cells #[.slice Ao17 x209000_1.length co17, .int .i64 0, .slice none 0 0, .int .i64 0, .slice none 0 0] 26 (0, 0)) (blk_x BK208.out) hg (Kd.R_ne HO_225000.out BK208.out (by decide)))
          have n4_ := Aside0.mk (blk_grown (g := gb224) (o := .cells #[u225000, .bool t211, .int .i64 t213, .int .i64 t222] 50 (0, 0)) (blk_x BK224.out) hg (Kd.R_ne HO_225000.out BK224.out (by decide)))
          have n5_ := Aside0.mk (IsS79.grown (by repeat (first | (with_reducible first | exact HI0.out | apply IsS79.alloc | apply IsS79.drewN | apply IsS79.drew | apply IsS79.set_0 | refine IsS79.far ?_ NB0_207.out _ | refine IsS79.far ?_ NB0_208.out _ | refine IsS79.far ?_ NB0_224.out _) | exact HI0.out)) hg (IsS79.own_ne HI0.out HO_225000.out (by decide)))
          have n6_ := Aside0.mk (below_weaken (by repeat (first | (with_reducible first | exact HB.out | apply below_alloc | apply pw_below_drewN | apply below_drew1 | refine below_set ?_ (IsS79.ge HI0.out) | refine below_set ?_ GE207.out | refine below_set ?_ GE208.out | refine below_set ?_ GE224.out) | exact HB.out)) HL.out hb)
          have n7_ := Aside0.mk (KeepBut.trans (by repeat (first | (with_reducible first | exact HK.out | apply KeepBut.set_ | apply keep_drewN | apply keep_drew | apply keep_alloc | refine keep_far ?_ GW207.out _ | refine keep_far ?_ GW208.out _ | refine keep_far ?_ GW224.out _) | exact HK.out)) (KeepBut.of_grown hg g) (Kd.R_base2 HO_225000.out))
          have n8_ := Aside0.mk (ho)
          clear HO_9 HO_209000 BK207 BK208 BK224 HI0 HB HK HO_225000
          have HO_9 := n0_
          have HO_209000 := n1_
          have BK207 := n2_
          have BK208 := n3_
          have BK224 := n4_
          have HI0 := n5_
          have HB := n6_
          have HK := n7_
          have HO229 := n8_
          clear n0_ n1_ n2_ n3_ n4_ n5_ n6_ n7_ n8_ ho hb hg hat
          obtain ⟨Ao47, co47, eo47⟩ := Kd.R_slice HO229.out
          (first | subst eo47 | (injection eo47 with f1_ f2_ f3_; have f4_ := f1_.symm; have f5_ := f3_.symm; clear f1_ f2_ f3_; subst f4_; subst f5_))
          refine hK.out _ _ ⟨(blk_cell BK224.out 0).trans rfl, (blk_cell BK224.out 1).trans rfl, (blk_cell BK224.out 2).trans rfl, (blk_cell BK224.out 3).trans rfl⟩ (fun hHeld => ?_)
          clear hK K
          refine norm_ (a' := ?_) ?_ ?_
          rotate_left
          ·
           show Act.put _ (some 51) _ = _
           simp only [Act.put, List.setIfInBounds_toArray, List.set_cons_zero, List.set_cons_succ, i64_w, i32_w]
           rfl
          refine pure_ (i := 6) (N := some 53) (v := ?_) (a' := ?_) (bz 15 127) rfl rfl (any_of HT_.out (by kernel_rfl)) (fun _ _ _ h => h) (Or.inl ⟨by rfl, ?_⟩) ?_ ?_
          rotate_left
          ·
           intro w'
           go_simp
           with_reducible rfl
          rotate_left
          ·
           simp only [Act.put, List.setIfInBounds_toArray, List.set_cons_zero, List.set_cons_succ, i64_w, i32_w]
           rfl
          refine pure_ (i := 7) (N := some 54) (v := undef) (a' := ?_) (bz 15 255) rfl rfl (any_of HT_.out (by kernel_rfl)) (fun _ _ _ h => h) (Or.inr ⟨by rfl, rfl⟩) ?_ ?_
          rotate_left
          ·
           simp only [Act.put, List.setIfInBounds_toArray, List.set_cons_zero, List.set_cons_succ, i64_w, i32_w]
           rfl
          refine pure_ (i := 8) (N := some 55) (v := undef) (a' := ?_) (bz 15 511) rfl rfl (any_of HT_.out (by kernel_rfl)) (fun _ _ _ h => h) (Or.inr ⟨by rfl, rfl⟩) ?_ ?_
          rotate_left
          ·
           simp only [Act.put, List.setIfInBounds_toArray, List.set_cons_zero, List.set_cons_succ, i64_w, i32_w]
           rfl
          refine pure_ (i := 9) (N := some 56) (v := undef) (a' := ?_) (bz 15 1023) rfl rfl (any_of HT_.out (by kernel_rfl)) (fun _ _ _ h => h) (Or.inr ⟨by rfl, rfl⟩) ?_ ?_
          rotate_left
          ·
           simp only [Act.put, List.setIfInBounds_toArray, List.set_cons_zero, List.set_cons_succ, i64_w, i32_w]
           rfl
          refine pure_ (i := 10) (N := some 57) (v := undef) (a' := ?_) (bz 15 2047) rfl rfl (any_of HT_.out (by kernel_rfl)) (fun _ _ _ h => h) (Or.inr ⟨by rfl, rfl⟩) ?_ ?_
          rotate_left
          ·
           simp only [Act.put, List.setIfInBounds_toArray, List.set_cons_zero, List.set_cons_succ, i64_w, i32_w]
           rfl
          refine pure_ (i := 11) (N := some 58) (v := ?_) (a' := ?_) (bz 15 4095) rfl rfl (any_of HT_.out (by kernel_rfl)) (fun _ _ _ h => h) (Or.inl ⟨by rfl, ?_⟩) ?_ ?_
          rotate_left
          ·
           intro w'
           go_simp
           with_reducible rfl
          rotate_left
          ·
           simp only [Act.put, List.setIfInBounds_toArray, List.set_cons_zero, List.set_cons_succ, i64_w, i32_w]
           rfl
          refine pure_ (i := 12) (N := some 59) (v := ?_) (a' := ?_) (bz 15 8191) rfl rfl (any_of HT_.out (by kernel_rfl)) (fun _ _ _ h => h) (Or.inl ⟨by rfl, ?_⟩) ?_ ?_
          rotate_left
          ·
           intro w'
           go_simp
           with_reducible rfl
          rotate_left
          ·
           simp only [Act.put, List.setIfInBounds_toArray, List.set_cons_zero, List.set_cons_succ, i64_w, i32_w]
           rfl
          refine last_ (i := 13) (N := none) (bz 15 16383) rfl rfl (one_of HT_.out (by kernel_rfl)) (by decide) (fun K hK => ?_)
          have hs48 : w46.cell? ⟨gb224, 0, none⟩ = some (u225000) := (blk_cell BK224.out 0).trans rfl
          have hfs48 := blk_frozen BK224.out 0
          have hns48_0 := NB207_224.out
          have hns48_1 := NB208_224.out
          have hms48_0 := NB224_207.out
          have hms48_1 := NB224_208.out
          refine skip_ (w1 := ?_) (by rfl) rfl ?_ ?_
          rotate_left
          ·
           go_simp
           rfl
          refine hK.out _ _ ?_
          clear hK K
          refine pure_ (i := 14) (N := some 13) (v := ?_) (a' := ?_) (bz 15 32767) rfl rfl (any_of HT_.out (by kernel_rfl)) (fun _ _ _ h => h) (Or.inl ⟨by rfl, ?_⟩) ?_ ?_
          rotate_left
          ·
           intro w'
           go_simp
           with_reducible rfl
          rotate_left
          ·
           simp only [Act.put, List.setIfInBounds_toArray, List.set_cons_zero, List.set_cons_succ, i64_w, i32_w]
           rfl
          refine done_ (done_of HT_.out (by kernel_rfl)) ?_
          try go_wp2
          go_roundg k2
          case measure => have := HK1.out; have := HK2.out; omega
          case rel => exact ⟨(false), (wrap64 (x14_2 + 1)), (t226), (y227), (.slice Ao47 y227.length co47), (by first | rfl | (simp; done) | (simp [*]; done)), (by first | rfl | (simp; done) | (simp [*]; done)), H', ⟨by have := HK1.out; have := HK2.out; omega⟩, ⟨by (with_reducible repeat (first | apply Kd.R_alloc | apply Kd.R_drewN | apply Kd.R_drew)); exact Kd.R_mono (Kd.R_far (p := ⟨gb224, 0, none⟩) (Kd.R_types HO_9.out BK224.out (by decide)) (fun _ hk => hk.2) (.slice Ao47 y227.length co47)) (fun _ hk => trivial)⟩, ⟨by (with_reducible repeat (first | apply Kd.S_alloc | apply Kd.S_drewN | apply Kd.S_drew)); exact Kd.S_mono (Kd.S_far (p := ⟨gb224, 0, none⟩) (Kd.S_mono HO_209000.out (fun k_ hk => (⟨hk, hk.1⟩ : _ ∧ k_ ≠ gb224))) (fun _ hk => hk.2) (.slice Ao47 y227.length co47)) (fun _ hk => ⟨hk.1.2, hk.1.1⟩)⟩, ⟨by (with_reducible repeat (first | apply Kd.R_alloc | apply Kd.R_drewN | apply Kd.R_drew)); exact Kd.R_mono (Kd.R_far (p := ⟨gb224, 0, none⟩) (Kd.R_types HO229.out BK224.out (by decide)) (fun _ hk => hk.2) (.slice Ao47 y227.length co47)) (fun _ hk => trivial)⟩, ⟨by (with_reducible repeat (first | refine blk_drewN ?_ _ | refine blk_drew ?_ | refine blk_alloc ?_ _)); refine blk_far ?_ NB207_224.out _; (with_reducible repeat (first | refine blk_drewN ?_ _ | refine blk_drew ?_ | refine blk_alloc ?_ _)); exact BK207.out⟩, ⟨by (with_reducible repeat (first | refine blk_drewN ?_ _ | refine blk_drew ?_ | refine blk_alloc ?_ _)); refine blk_far ?_ NB208_224.out _; (with_reducible repeat (first | refine blk_drewN ?_ _ | refine blk_drew ?_ | refine blk_alloc ?_ _)); exact BK208.out⟩, ⟨by (with_reducible repeat (first | refine blk_drewN ?_ _ | refine blk_drew ?_ | refine blk_alloc ?_ _)); refine blk_put (cs := #[u225000, .bool t211, .int .i64 t213, .int .i64 t222]) ?_ 0 _ rfl; (with_reducible repeat (first | refine blk_drewN ?_ _ | refine blk_drew ?_ | refine blk_alloc ?_ _)); exact BK224.out⟩, ⟨by repeat (first | (with_reducible first | exact HI0.out | apply IsS79.alloc | apply IsS79.drewN | apply IsS79.drew | apply IsS79.set_0 | refine IsS79.far ?_ NB0_207.out _ | refine IsS79.far ?_ NB0_208.out _ | refine IsS79.far ?_ NB0_224.out _) | exact HI0.out)⟩, ⟨by repeat (first | (with_reducible first | exact HK.out | apply KeepBut.set_ | apply keep_drewN | apply keep_drew | apply keep_alloc | refine keep_far ?_ GW207.out _ | refine keep_far ?_ GW208.out _ | refine keep_far ?_ GW224.out _) | exact HK.out)⟩, ⟨by repeat (first | (with_reducible first | exact HB.out | apply below_alloc | apply pw_below_drewN | apply below_drew1 | refine below_set ?_ (IsS79.ge HI0.out) | refine below_set ?_ GE207.out | refine below_set ?_ GE208.out | refine below_set ?_ GE224.out) | exact HB.out)⟩⟩
        ·
         rw [if_neg c34] at H
         exact absurd H (by simp)
       ·
        replace c33 := Bool.eq_false_iff.mpr c33
        subst c33
        have H1 : (swarfkit_CarOf.l1 k2 a2 x9_1 x10_1 (x209000_1.length : Int) x13_2 (wrap64 (x14_2 + 1)) t226 x209000_1 0 0 x225000_2 t211 t213 t222) = some (r1, r2, r3, r4, r5, r6, r7) := by rw [if_neg (show ¬ (false = true) by decide)] at H; exact H
        clear H
        have H := H1
        clear H1
        have H' := Aside0.mk H
        clear H
        go_wp2_with (first | ((with_reducible refine gate_callee (f := 35) rfl ?_); refine goesL_ (some 46) rfl rfl Try.func35 (by kernel_rfl) rfl #[.pointer (some ⟨g, 0, none⟩), .int .i64 1, .int .i64 4] rfl (by (try simp only [List.map_toArray, List.map_cons, List.map_nil]); first | done | rfl | (simp only [List.length_drop, List.length_take]; rfl)) ?_; (with_reducible refine (swarfkit_Feed_Often.calls g x1000_2 1 4 false t226 w0 _ ?side1 ?side2 A32.out).mono ?_); (case side1 => repeat (first | (with_reducible first | exact HI0.out | apply IsS79.alloc | apply IsS79.drewN | apply IsS79.drew | apply IsS79.set_0 | refine IsS79.far ?_ NB0_207.out _ | refine IsS79.far ?_ NB0_208.out _ | refine IsS79.far ?_ NB0_224.out _) | exact HI0.out)); (case side2 => repeat (first | (with_reducible first | exact HB.out | apply below_alloc | apply pw_below_drewN | apply below_drew1 | refine below_set ?_ (IsS79.ge HI0.out) | refine below_set ?_ GE207.out | refine below_set ?_ GE208.out | refine below_set ?_ GE224.out) | exact HB.out)); rintro e w49 ⟨rfl, hi, hb, hk⟩; refine ⟨_, rfl, ?_⟩; have n0_ := Aside0.mk (Kd.R_mono (Kd.R_keep (IsS79.apart (show IsS79 w0 _ g x1000_2 from by repeat (first | (with_reducible first | exact HI0.out | apply IsS79.alloc | apply IsS79.drewN | apply IsS79.drew | apply IsS79.set_0 | refine IsS79.far ?_ NB0_207.out _ | refine IsS79.far ?_ NB0_208.out _ | refine IsS79.far ?_ NB0_224.out _) | exact HI0.out)) (Kd.R_x HO_9.out) (by decide)) hk (fun _ h => h.2)) (fun _ h => h.1)); have n1_ := Aside0.mk (Kd.S_mono (Kd.S_keep (IsS79.apartS (show IsS79 w0 _ g x1000_2 from by repeat (first | (with_reducible first | exact HI0.out | apply IsS79.alloc | apply IsS79.drewN | apply IsS79.drew | apply IsS79.set_0 | refine IsS79.far ?_ NB0_207.out _ | refine IsS79.far ?_ NB0_208.out _ | refine IsS79.far ?_ NB0_224.out _) | exact HI0.out)) (Kd.S_x HO_209000.out) (by decide)) hk (fun _ h => h.2)) (fun _ h => h.1)); have n2_ := Aside0.mk (Kd.R_mono (Kd.R_keep (IsS79.apart (show IsS79 w0 _ g x1000_2 from by repeat (first | (with_reducible first | exact HI0.out | apply IsS79.alloc | apply IsS79.drewN | apply IsS79.drew | apply IsS79.set_0 | refine IsS79.far ?_ NB0_207.out _ | refine IsS79.far ?_ NB0_208.out _ | refine IsS79.far ?_ NB0_224.out _) | exact HI0.out)) (Kd.R_x HO_225000.out) (by decide)) hk (fun _ h => h.2)) (fun _ h => h.1)); have n3_ := Aside0.mk (KeepBut.blk hk (g' := gb207) (o := .cells #[.slice none 0 0, .int .i64 0, .slice none 0 0, .int .i64 0, .slice none 0 0] 26 (0, 0)) (blk_x BK207.out) NB207_0.out (by simp)); have n4_ := Aside0.mk (KeepBut.blk hk (g' := gb208) (o := .cells #[.slice Ao17 x209000_1.length co17, .int .i64 0, .slice none 0 0, .int .i64 0, .slice none 0 0] 26 (0, 0)) (blk_x BK208.out) NB208_0.out (by simp)); have n5_ := Aside0.mk (KeepBut.blk hk (g' := gb224) (o := .cells #[u225000, .bool t211, .int .i64 t213, .int .i64 t222] 50 (0, 0)) (blk_x BK224.out) NB224_0.out (by simp)); have n6_ := Aside0.mk (KeepBut.trans (by repeat (first | (with_reducible first | exact HK.out | apply KeepBut.set_ | apply keep_drewN | apply keep_drew | apply keep_alloc | refine keep_far ?_ GW207.out _ | refine keep_far ?_ GW208.out _ | refine keep_far ?_ GW224.out _) | exact HK.out)) hk (.inl rfl)); have n7_ := Aside0.mk (hb); have n8_ := Aside0.mk (hi); clear HO_9; clear HO_209000; clear HO_225000; clear BK207; clear BK208; clear BK224; clear HK; clear HB; clear HI0; have HO_9 := n0_; have HO_209000 := n1_; have HO_225000 := n2_; have BK207 := n3_; have BK208 := n4_; have BK224 := n5_; have HK := n6_; have HB := n7_; have HI0 := n8_; clear n0_ n1_ n2_ n3_ n4_ n5_ n6_ n7_ n8_; (try clear hb); (try clear hb2); (try clear hk); (try clear hi)))
        go_roundg k2
        case measure => have := HK1.out; have := HK2.out; omega
        case rel => exact ⟨(x13_2), (wrap64 (x14_2 + 1)), (t226), (x225000_2), (u225000), (by first | rfl | (simp; done) | (simp [*]; done)), (by first | rfl | (simp; done) | (simp [*]; done)), H', ⟨by have := HK1.out; have := HK2.out; omega⟩, ⟨by (with_reducible repeat (first | apply Kd.R_alloc | apply Kd.R_drewN | apply Kd.R_drew)); exact HO_9.out⟩, ⟨by (with_reducible repeat (first | apply Kd.S_alloc | apply Kd.S_drewN | apply Kd.S_drew)); exact HO_209000.out⟩, ⟨by (with_reducible repeat (first | apply Kd.R_alloc | apply Kd.R_drewN | apply Kd.R_drew)); exact HO_225000.out⟩, ⟨by (with_reducible repeat (first | refine blk_drewN ?_ _ | refine blk_drew ?_ | refine blk_alloc ?_ _)); exact BK207.out⟩, ⟨by (with_reducible repeat (first | refine blk_drewN ?_ _ | refine blk_drew ?_ | refine blk_alloc ?_ _)); exact BK208.out⟩, ⟨by (with_reducible repeat (first | refine blk_drewN ?_ _ | refine blk_drew ?_ | refine blk_alloc ?_ _)); exact BK224.out⟩, ⟨by repeat (first | (with_reducible first | exact HI0.out | apply IsS79.alloc | apply IsS79.drewN | apply IsS79.drew | apply IsS79.set_0 | refine IsS79.far ?_ NB0_207.out _ | refine IsS79.far ?_ NB0_208.out _ | refine IsS79.far ?_ NB0_224.out _) | exact HI0.out)⟩, ⟨by repeat (first | (with_reducible first | exact HK.out | apply KeepBut.set_ | apply keep_drewN | apply keep_drew | apply keep_alloc | refine keep_far ?_ GW207.out _ | refine keep_far ?_ GW208.out _ | refine keep_far ?_ GW224.out _) | exact HK.out)⟩, ⟨by repeat (first | (with_reducible first | exact HB.out | apply below_alloc | apply pw_below_drewN | apply below_drew1 | refine below_set ?_ (IsS79.ge HI0.out) | refine below_set ?_ GE207.out | refine below_set ?_ GE208.out | refine below_set ?_ GE224.out) | exact HB.out)⟩⟩
      ·
       rw [if_neg c31] at H
       have c31b0 : decide (x14_2 < (x209000_1.length : Int)) = false := decide_eq_false c31
       clear c31
       by_cases c50 : x209000_1.length < 2932031007402
       ·
        rw [if_pos c50] at H
        have LMc50 := Aside0.mk c50
        clear c50
        obtain ⟨y231, hy231⟩ : ∃ y_ : List (S50), y_ = (x209000_1 ++ [(⟨x225000_2, t211, t213, t222⟩ : S50)]) := ⟨_, rfl⟩
        replace H : (if x13_2 = true then ((swarfkit_Feed_Often.f x1000_2 3 5).bind fun bt234 => (if x9_1.length < 140737488355328 then (swarfkit_CarOf.l0 k2 a2 (x9_1 ++ [bt234.1]) (wrap64 (x10_1 - 1)) bt234.2 y231 0 0) else (none))) else (if x9_1.length < 140737488355328 then (swarfkit_CarOf.l0 k2 a2 (x9_1 ++ [false]) (wrap64 (x10_1 - 1)) x1000_2 y231 0 0) else (none))) = some (r1, r2, r3, r4, r5, r6, r7) := by first | (rw [hy231]; with_reducible exact H) | (have H2_ := (Option.bind_some _ _).symm.trans H; rw [hy231]; with_reducible exact H2_) | (have H2_ := (Option.bind_some _ _).symm.trans H; with_reducible exact H2_) | with_reducible exact H | (rw [hy231]; exact H) | exact H
        have Ny231 := Aside0.mk hy231
        clear hy231
        by_cases c51 : x13_2 = true
        ·
         subst c51
         have H1 : ((swarfkit_Feed_Often.f x1000_2 3 5).bind fun bt234 => (if x9_1.length < 140737488355328 then (swarfkit_CarOf.l0 k2 a2 (x9_1 ++ [bt234.1]) (wrap64 (x10_1 - 1)) bt234.2 y231 0 0) else (none))) = some (r1, r2, r3, r4, r5, r6, r7) := by rw [if_pos rfl] at H; exact H
         clear H
         have H := H1
         clear H1
         replace H := Option.bind_eq_some_iff.mp H
         obtain ⟨⟨t234, t235⟩, A520, H⟩ := H
         replace H : (if x9_1.length < 140737488355328 then (swarfkit_CarOf.l0 k2 a2 (x9_1 ++ [t234]) (wrap64 (x10_1 - 1)) t235 y231 0 0) else (none)) = some (r1, r2, r3, r4, r5, r6, r7) := H
         have A52 := Aside0.mk A520
         clear A520
         by_cases c53 : x9_1.length < 140737488355328
         ·
          rw [if_pos c53] at H
          have LMc53 := Aside0.mk c53
          clear c53
          obtain ⟨y236, hy236⟩ : ∃ y_ : List Bool, y_ = (x9_1 ++ [t234]) := ⟨_, rfl⟩
          replace H : (swarfkit_CarOf.l0 k2 a2 y236 (wrap64 (x10_1 - 1)) t235 y231 0 0) = some (r1, r2, r3, r4, r5, r6, r7) := by first | (rw [hy236]; with_reducible exact H) | (have H2_ := (Option.bind_some _ _).symm.trans H; rw [hy236]; with_reducible exact H2_) | (have H2_ := (Option.bind_some _ _).symm.trans H; with_reducible exact H2_) | with_reducible exact H | (rw [hy236]; exact H) | exact H
          have Ny236 := Aside0.mk hy236
          clear hy236
          have H' := Aside0.mk H
          clear H
          have hnb54 := NB208_207.out
          have hnc54 := NB207_208.out
          have hnb55 := NB208_224.out
          have hnc55 := NB224_208.out
          have hnb56 := NB208_0.out
          have hnc56 := NB0_208.out
          have hcz57_0 : wr.cell? ⟨gb208, 0, none⟩ = some (.slice Ao17 x209000_1.length co17) := (blk_cell BK208.out 0).trans rfl
          have hcz57_1 : wr.cell? ⟨gb208, 1, none⟩ = some (.int .i64 0) := (blk_cell BK208.out 1).trans rfl
          have hcz57_2 : wr.cell? ⟨gb208, 2, none⟩ = some (.slice none 0 0) := (blk_cell BK208.out 2).trans rfl
          have hcz57_3 : wr.cell? ⟨gb208, 3, none⟩ = some (.int .i64 0) := (blk_cell BK208.out 3).trans rfl
          have hcz57_4 : wr.cell? ⟨gb208, 4, none⟩ = some (.slice none 0 0) := (blk_cell BK208.out 4).trans rfl
          have hfz57_0 := blk_frozen BK208.out 0
          have hfz57_1 := blk_frozen BK208.out 1
          have hfz57_2 := blk_frozen BK208.out 2
          have hfz57_3 := blk_frozen BK208.out 3
          have hfz57_4 := blk_frozen BK208.out 4
          have hnb58 := NB224_207.out
          have hnc58 := NB207_224.out
          have hnb59 := NB224_0.out
          have hnc59 := NB0_224.out
          have hcz60_0 : wr.cell? ⟨gb224, 0, none⟩ = some (u225000) := (blk_cell BK224.out 0).trans rfl
          have hcz60_1 : wr.cell? ⟨gb224, 1, none⟩ = some (.bool t211) := (blk_cell BK224.out 1).trans rfl
          have hcz60_2 : wr.cell? ⟨gb224, 2, none⟩ = some (.int .i64 t213) := (blk_cell BK224.out 2).trans rfl
          have hcz60_3 : wr.cell? ⟨gb224, 3, none⟩ = some (.int .i64 t222) := (blk_cell BK224.out 3).trans rfl
          have hfz60_0 := blk_frozen BK224.out 0
          have hfz60_1 := blk_frozen BK224.out 1
          have hfz60_2 := blk_frozen BK224.out 2
          have hfz60_3 := blk_frozen BK224.out 3
          obtain ⟨Ao62, co62, eo62⟩ := Kd.R_slice HO_225000.out
          subst eo62
          go_wp2_with (first | ((with_reducible refine gate_builtin (b := .append) (xs := #[.tmp 61, .tmp 63]) rfl ?_); (try (refine gate_guard (by rfl) ?_; dsimp only)); at_builtin; refine Kd.S_append k50 w.heap.size rfl (.tmp 61) (.tmp 63) 22 50 (.agg #[(.slice none 0 0), (.bool false), (.int .i64 0), (.int .i64 0)]) 48 rfl Try.underlying22 info50 rfl (by decide) (by omega) (.slice Ao17 x209000_1.length co17) x209000_1 (⟨x225000_2, t211, t213, t222⟩ : S50) [.slice Ao62 x225000_2.length co62, .bool t211, .int .i64 t213, .int .i64 t222] (fun k_ => k_ ≠ gb224) (fun k_ => some k_ = (.slice Ao62 x225000_2.length co62 : Value).ownBlock) rfl rfl ?aP (fun k_ hk_ => ((Kd.R_mono (ok' := fun k_ => ((fun k_ => k_ ≠ gb224)) k_ ∧ some k_ ≠ (.slice Ao17 x209000_1.length co17 : Value).ownBlock) (Kd.R_types (Kd.R_apart' (HO_225000.out) (Kd.S_typed HO_209000.out) (by decide)) BK224.out (by decide)) (fun k_ hk => ⟨hk.2, hk.1.2⟩))).1 k_ hk_.symm) ?aF ?aO (Below.refl _ _) ?aS ?aL ?_; (case aP => exact k50_mkM _ _ _ (⟨x225000_2, t211, t213, t222⟩ : S50) (Kd.R_mono (Kd.R_tight rfl (Kd.R_mono (ok' := fun k_ => ((fun k_ => k_ ≠ gb224)) k_ ∧ some k_ ≠ (.slice Ao17 x209000_1.length co17 : Value).ownBlock) (Kd.R_types (Kd.R_apart' (HO_225000.out) (Kd.S_typed HO_209000.out) (by decide)) BK224.out (by decide)) (fun k_ hk => ⟨hk.2, hk.1.2⟩))) (fun _ h_ => h_))); (case aF => exact (fun k_ hk => Kd.freshB (g := gb224) (o := .cells #[.slice Ao62 x225000_2.length co62, .bool t211, .int .i64 t213, .int .i64 t222] 50 (0, 0)) (blk_x BK224.out) k_ hk)); (case aO => exact (by (with_reducible repeat (first | apply Kd.S_alloc | apply Kd.S_drewN | apply Kd.S_drew)); exact Kd.S_mono HO_209000.out (fun k_ hk => ⟨hk.2, fun e_ => hk.1 e_⟩))); (case aS => exact (keep_size (w := w) (g := g) (row := none) (by repeat (first | (with_reducible first | exact HK.out | apply KeepBut.set_ | apply keep_drewN | apply keep_drew | apply keep_alloc | refine keep_far ?_ GW207.out _ | refine keep_far ?_ GW208.out _ | refine keep_far ?_ GW224.out _) | exact HK.out)))); (case aL => have := LMc50.out; omega); intro v232 w61 ho hb hg hat; rw [← Ny231.out] at ho; have n0_ := Aside0.mk (Kd.R_over' (Kd.R_x HO_9.out) (Kd.S_typed (Kd.S_x HO_209000.out)) (by decide) hg); have n1_ := Aside0.mk (blk_grown (g := gb207) (o := .cells #[.slice none 0 0, .int .i64 0, .slice none 0 0, .int .i64 0, .slice none 0 0] 26 (0, 0)) (blk_x BK207.out) hg (Kd.S_ne HO_209000.out BK207.out (by decide))); have n2_ := Aside0.mk (blk_grown (g := gb208) (o := .cells #[.slice Ao17 x209000_1.length co17, .int .i64 0, .slice none 0 0, .int .i64 0, .slice none 0 0] 26 (0, 0)) (blk_x BK208.out) hg (Kd.S_ne HO_209000.out BK208.out (by decide))); have n3_ := Aside0.mk (blk_grown (g := gb224) (o := .cells #[.slice Ao62 x225000_2.length co62, .bool t211, .int .i64 t213, .int .i64 t222] 50 (0, 0)) (blk_x BK224.out) hg (Kd.S_away HO_209000.out (fun _ hk => hk.2))); have n4_ := Aside0.mk (IsS79.grown (by repeat (first | (with_reducible first | exact HI0.out | apply IsS79.alloc | apply IsS79.drewN | apply IsS79.drew | apply IsS79.set_0 | refine IsS79.far ?_ NB0_207.out _ | refine IsS79.far ?_ NB0_208.out _ | refine IsS79.far ?_ NB0_224.out _) | exact HI0.out)) hg (IsS79.own_neS HI0.out HO_209000.out (by decide))); have n5_ := Aside0.mk (below_weaken (by repeat (first | (with_reducible first | exact HB.out | apply below_alloc | apply pw_below_drewN | apply below_drew1 | refine below_set ?_ (IsS79.ge HI0.out) | refine below_set ?_ GE207.out | refine below_set ?_ GE208.out | refine below_set ?_ GE224.out) | exact HB.out)) HL.out hb); have n6_ := Aside0.mk (KeepBut.trans (by repeat (first | (with_reducible first | exact HK.out | apply KeepBut.set_ | apply keep_drewN | apply keep_drew | apply keep_alloc | refine keep_far ?_ GW207.out _ | refine keep_far ?_ GW208.out _ | refine keep_far ?_ GW224.out _) | exact HK.out)) (KeepBut.of_grown hg g) (Kd.S_base2 HO_209000.out)); have n7_ := Aside0.mk (ho); clear HO_9; clear BK207; clear BK208; clear BK224; clear HI0; clear HB; clear HK; clear HO_209000; clear HO_225000; have HO_9 := n0_; have BK207 := n1_; have BK208 := n2_; have BK224 := n3_; have HI0 := n4_; have HB := n5_; have HK := n6_; have HO233 := n7_; clear n0_ n1_ n2_ n3_ n4_ n5_ n6_ n7_; clear ho hb hg hat) | (go_at_call 35; (with_reducible refine (swarfkit_Feed_Often.calls g x1000_2 3 5 t234 t235 w0 _ ?side1 ?side2 A52.out).mono ?_); (case side1 => repeat (first | (with_reducible first | exact HI0.out | apply IsS79.alloc | apply IsS79.drewN | apply IsS79.drew | apply IsS79.set_0 | refine IsS79.far ?_ NB0_207.out _ | refine IsS79.far ?_ NB0_208.out _ | refine IsS79.far ?_ NB0_224.out _) | exact HI0.out)); (case side2 => repeat (first | (with_reducible first | exact HB.out | apply below_alloc | apply pw_below_drewN | apply below_drew1 | refine below_set ?_ (IsS79.ge HI0.out) | refine below_set ?_ GE207.out | refine below_set ?_ GE208.out | refine below_set ?_ GE224.out) | exact HB.out)); rintro e w63 ⟨rfl, hi, hb, hk⟩; have n0_ := Aside0.mk (Kd.R_mono (Kd.R_keep (IsS79.apart (show IsS79 w0 _ g x1000_2 from by repeat (first | (with_reducible first | exact HI0.out | apply IsS79.alloc | apply IsS79.drewN | apply IsS79.drew | apply IsS79.set_0 | refine IsS79.far ?_ NB0_207.out _ | refine IsS79.far ?_ NB0_208.out _ | refine IsS79.far ?_ NB0_224.out _) | exact HI0.out)) (Kd.R_x HO_9.out) (by decide)) hk (fun _ h => h.2)) (fun _ h => h.1)); have n1_ := Aside0.mk (KeepBut.blk hk (g' := gb207) (o := .cells #[.slice none 0 0, .int .i64 0, .slice none 0 0, .int .i64 0, .slice none 0 0] 26 (0, 0)) (blk_x BK207.out) NB207_0.out (by simp)); have n2_ := Aside0.mk (KeepBut.blk hk (g' := gb208) (o := .cells #[.slice Ao17 x209000_1.length co17, .int .i64 0, .slice none 0 0, .int .i64 0, .slice none 0 0] 26 (0, 0)) (blk_x BK208.out) NB208_0.out (by simp)); have n3_ := Aside0.mk (KeepBut.blk hk (g' := gb224) (o := .cells #[.slice Ao62 x225000_2.length co62, .bool t211, .int .i64 t213, .int .i64 t222] 50 (0, 0)) (blk_x BK224.out) NB224_0.out (by simp)); have n4_ := Aside0.mk (Kd.S_mono (Kd.S_keep (IsS79.apartS (show IsS79 w0 _ g x1000_2 from by repeat (first | (with_reducible first | exact HI0.out | apply IsS79.alloc | apply IsS79.drewN | apply IsS79.drew | apply IsS79.set_0 | refine IsS79.far ?_ NB0_207.out _ | refine IsS79.far ?_ NB0_208.out _ | refine IsS79.far ?_ NB0_224.out _) | exact HI0.out)) (Kd.S_x HO233.out) (by decide)) hk (fun _ h => h.2)) (fun _ h => h.1)); have n5_ := Aside0.mk (KeepBut.trans (by repeat (first | (with_reducible first | exact HK.out | apply KeepBut.set_ | apply keep_drewN | apply keep_drew | apply keep_alloc | refine keep_far ?_ GW207.out _ | refine keep_far ?_ GW208.out _ | refine keep_far ?_ GW224.out _) | exact HK.out)) hk (.inl rfl)); have n6_ := Aside0.mk (hb); have n7_ := Aside0.mk (hi); clear HO_9; clear BK207; clear BK208; clear BK224; clear HO233; clear HK; clear HB; clear HI0; have HO_9 := n0_; have BK207 := n1_; have BK208 := n2_; have BK224 := n3_; have HO233 := n4_; have HK := n5_; have HB := n6_; have HI0 := n7_; clear n0_ n1_ n2_ n3_ n4_ n5_ n6_ n7_; (try clear hb); (try clear hb2); (try clear hk); (try clear hi)) | ((with_reducible refine gate_builtin (b := .append) (xs := #[.tmp 65, .tmp 71]) rfl ?_); (try (refine gate_guard (by rfl) ?_; dsimp only)); at_builtin; refine Kd.R_append Kd.bool w.heap.size rfl (.tmp 65) (.tmp 71) 31 4 (.bool false) 1 rfl Try.underlying31 info4 rfl (by decide) (by omega) u9 x9_1 t234 [.bool t234] (fun _ => True) (fun _ => False) rfl rfl ?aP (fun _ hk => hk.elim) ?aF ?aO (Below.refl _ _) ?aS ?aL ?_; (case aP => exact rfl); (case aF => exact (fun _ _ => trivial)); (case aO => exact (Kd.R_x HO_9.out)); (case aS => exact (keep_size (w := w) (g := g) (row := none) (by repeat (first | (with_reducible first | exact HK.out | apply KeepBut.set_ | apply keep_drewN | apply keep_drew | apply keep_alloc | refine keep_far ?_ GW207.out _ | refine keep_far ?_ GW208.out _ | refine keep_far ?_ GW224.out _) | exact HK.out)))); (case aL => have := LMc53.out; omega); intro v237 w64 ho hb hg hat; rw [← Ny236.out] at ho; have n0_ := Aside0.mk (blk_grown (g := gb207) (o := .cells #[.slice none 0 0, .int .i64 0, .slice none 0 0, .int .i64 0, .slice none 0 0] 26 (0, 0)) (blk_x BK207.out) hg (Kd.R_ne HO_9.out BK207.out (by decide))); have n1_ := Aside0.mk (blk_grown (g := gb208) (o := .cells #[.slice Ao17 x209000_1.length co17, .int .i64 0, .slice none 0 0, .int .i64 0, .slice none 0 0] 26 (0, 0)) (blk_x BK208.out) hg (Kd.R_ne HO_9.out BK208.out (by decide))); have n2_ := Aside0.mk (blk_grown (g := gb224) (o := .cells #[.slice Ao62 x225000_2.length co62, .bool t211, .int .i64 t213, .int .i64 t222] 50 (0, 0)) (blk_x BK224.out) hg (Kd.R_ne HO_9.out BK224.out (by decide))); have n3_ := Aside0.mk (IsS79.grown (by repeat (first | (with_reducible first | exact HI0.out | apply IsS79.alloc | apply IsS79.drewN | apply IsS79.drew | apply IsS79.set_0 | refine IsS79.far ?_ NB0_207.out _ | refine IsS79.far ?_ NB0_208.out _ | refine IsS79.far ?_ NB0_224.out _) | exact HI0.out)) hg (IsS79.own_ne HI0.out HO_9.out (by decide))); have n4_ := Aside0.mk (Kd.S_over' (Kd.S_x HO233.out) (Kd.R_typed (Kd.R_x HO_9.out)) (by decide) hg); have n5_ := Aside0.mk (below_weaken (by repeat (first | (with_reducible first | exact HB.out | apply below_alloc | apply pw_below_drewN | apply below_drew1 | refine below_set ?_ (IsS79.ge HI0.out) | refine below_set ?_ GE207.out | refine below_set ?_ GE208.out | refine below_set ?_ GE224.out) | exact HB.out)) HL.out hb); have n6_ := Aside0.mk (KeepBut.trans (by repeat (first | (with_reducible first | exact HK.out | apply KeepBut.set_ | apply keep_drewN | apply keep_drew | apply keep_alloc | refine keep_far ?_ GW207.out _ | refine keep_far ?_ GW208.out _ | refine keep_far ?_ GW224.out _) | exact HK.out)) (KeepBut.of_grown hg g) (Kd.R_base2 HO_9.out)); have n7_ := Aside0.mk (ho); clear BK207; clear BK208; clear BK224; clear HI0; clear HO233; clear HB; clear HK; clear HO_9; have BK207 := n0_; have BK208 := n1_; have BK224 := n2_; have HI0 := n3_; have HO233 := n4_; have HB := n5_; have HK := n6_; have HO238 := n7_; clear n0_ n1_ n2_ n3_ n4_ n5_ n6_ n7_; clear ho hb hg hat; obtain ⟨Ao65, co65, eo65⟩ := Kd.S_slice HO233.out; subst eo65; have hcz66_0 : w64.cell? ⟨gb208, 0, none⟩ = some (.slice Ao17 x209000_1.length co17) := (blk_cell BK208.out 0).trans rfl; have hcz66_1 : w64.cell? ⟨gb208, 1, none⟩ = some (.int .i64 0) := (blk_cell BK208.out 1).trans rfl; have hcz66_2 : w64.cell? ⟨gb208, 2, none⟩ = some (.slice none 0 0) := (blk_cell BK208.out 2).trans rfl; have hcz66_3 : w64.cell? ⟨gb208, 3, none⟩ = some (.int .i64 0) := (blk_cell BK208.out 3).trans rfl; have hcz66_4 : w64.cell? ⟨gb208, 4, none⟩ = some (.slice none 0 0) := (blk_cell BK208.out 4).trans rfl; have hfz66_0 := blk_frozen BK208.out 0; have hfz66_1 := blk_frozen BK208.out 1; have hfz66_2 := blk_frozen BK208.out 2; have hfz66_3 := blk_frozen BK208.out 3; have hfz66_4 := blk_frozen BK208.out 4))
          go_roundg k2
          case measure => have := HK1.out; have := HK2.out; omega
          case rel => exact ⟨(y236), (wrap64 (x10_1 - 1)), (t235), (y231), (.slice Ao65 y231.length co65), (by first | rfl | (simp; done) | (simp [*]; done)), H', ⟨by have := HK1.out; have := HK2.out; omega⟩, ⟨by (with_reducible repeat (first | apply Kd.R_alloc | apply Kd.R_drewN | apply Kd.R_drew)); exact Kd.R_mono (Kd.R_far (p := ⟨gb208, 0, none⟩) (Kd.R_types HO238.out BK208.out (by decide)) (fun _ hk => hk.2) (.slice Ao65 y231.length co65)) (fun _ hk => trivial)⟩, ⟨by (with_reducible repeat (first | apply Kd.S_alloc | apply Kd.S_drewN | apply Kd.S_drew)); exact Kd.S_mono (Kd.S_far (p := ⟨gb208, 0, none⟩) (Kd.S_types HO233.out BK208.out (by decide)) (fun _ hk => hk.2) (.slice Ao65 y231.length co65)) (fun _ hk => trivial)⟩, ⟨by (with_reducible repeat (first | refine blk_drewN ?_ _ | refine blk_drew ?_ | refine blk_alloc ?_ _)); refine blk_far ?_ NB207_208.out _; (with_reducible repeat (first | refine blk_drewN ?_ _ | refine blk_drew ?_ | refine blk_alloc ?_ _)); exact BK207.out⟩, ⟨by (with_reducible repeat (first | refine blk_drewN ?_ _ | refine blk_drew ?_ | refine blk_alloc ?_ _)); refine blk_put (cs := #[.slice Ao17 x209000_1.length co17, .int .i64 0, .slice none 0 0, .int .i64 0, .slice none 0 0]) ?_ 0 _ rfl; (with_reducible repeat (first | refine blk_drewN ?_ _ | refine blk_drew ?_ | refine blk_alloc ?_ _)); exact BK208.out⟩, ⟨by repeat (first | (with_reducible first | exact HI0.out | apply IsS79.alloc | apply IsS79.drewN | apply IsS79.drew | apply IsS79.set_0 | refine IsS79.far ?_ NB0_207.out _ | refine IsS79.far ?_ NB0_208.out _ | refine IsS79.far ?_ NB0_224.out _) | exact HI0.out)⟩, ⟨by repeat (first | (with_reducible first | exact HK.out | apply KeepBut.set_ | apply keep_drewN | apply keep_drew | apply keep_alloc | refine keep_far ?_ GW207.out _ | refine keep_far ?_ GW208.out _ | refine keep_far ?_ GW224.out _) | exact HK.out)⟩, ⟨by repeat (first | (with_reducible first | exact HB.out | apply below_alloc | apply pw_below_drewN | apply below_drew1 | refine below_set ?_ (IsS79.ge HI0.out) | refine below_set ?_ GE207.out | refine below_set ?_ GE208.out | refine below_set ?_ GE224.out) | exact HB.out)⟩⟩
         ·
          rw [if_neg c53] at H
          exact absurd H (by simp)
        ·
         replace c51 := Bool.eq_false_iff.mpr c51
         subst c51
         have H1 : (if x9_1.length < 140737488355328 then (swarfkit_CarOf.l0 k2 a2 (x9_1 ++ [false]) (wrap64 (x10_1 - 1)) x1000_2 y231 0 0) else (none)) = some (r1, r2, r3, r4, r5, r6, r7) := by rw [if_neg (show ¬ (false = true) by decide)] at H; exact H
         clear H
         have H := H1
         clear H1
         by_cases c67 : x9_1.length < 140737488355328
         ·
          rw [if_pos c67] at H
          have LMc67 := Aside0.mk c67
          clear c67
          obtain ⟨y239, hy239⟩ : ∃ y_ : List Bool, y_ = (x9_1 ++ [false]) := ⟨_, rfl⟩
          replace H : (swarfkit_CarOf.l0 k2 a2 y239 (wrap64 (x10_1 - 1)) x1000_2 y231 0 0) = some (r1, r2, r3, r4, r5, r6, r7) := by first | (rw [hy239]; with_reducible exact H) | (have H2_ := (Option.bind_some _ _).symm.trans H; rw [hy239]; with_reducible exact H2_) | (have H2_ := (Option.bind_some _ _).symm.trans H; with_reducible exact H2_) | with_reducible exact H | (rw [hy239]; exact H) | exact H
          have Ny239 := Aside0.mk hy239
          clear hy239
          have H' := Aside0.mk H
          clear H
          have hnb68 := NB208_207.out
          have hnc68 := NB207_208.out
          have hnb69 := NB208_224.out
          have hnc69 := NB224_208.out
          have hnb70 := NB208_0.out
          have hnc70 := NB0_208.out
          have hcz71_0 : wr.cell? ⟨gb208, 0, none⟩ = some (.slice Ao17 x209000_1.length co17) := (blk_cell BK208.out 0).trans rfl
          have hcz71_1 : wr.cell? ⟨gb208, 1, none⟩ = some (.int .i64 0) := (blk_cell BK208.out 1).trans rfl
          have hcz71_2 : wr.cell? ⟨gb208, 2, none⟩ = some (.slice none 0 0) := (blk_cell BK208.out 2).trans rfl
          have hcz71_3 : wr.cell? ⟨gb208, 3, none⟩ = some (.int .i64 0) := (blk_cell BK208.out 3).trans rfl
          have hcz71_4 : wr.cell? ⟨gb208, 4, none⟩ = some (.slice none 0 0) := (blk_cell BK208.out 4).trans rfl
          have hfz71_0 := blk_frozen BK208.out 0
          have hfz71_1 := blk_frozen BK208.out 1
          have hfz71_2 := blk_frozen BK208.out 2
          have hfz71_3 := blk_frozen BK208.out 3
          have hfz71_4 := blk_frozen BK208.out 4
          have hnb72 := NB224_207.out
          have hnc72 := NB207_224.out
          have hnb73 := NB224_0.out
          have hnc73 := NB0_224.out
          have hcz74_0 : wr.cell? ⟨gb224, 0, none⟩ = some (u225000) := (blk_cell BK224.out 0).trans rfl
          have hcz74_1 : wr.cell? ⟨gb224, 1, none⟩ = some (.bool t211) := (blk_cell BK224.out 1).trans rfl
          have hcz74_2 : wr.cell? ⟨gb224, 2, none⟩ = some (.int .i64 t213) := (blk_cell BK224.out 2).trans rfl
          have hcz74_3 : wr.cell? ⟨gb224, 3, none⟩ = some (.int .i64 t222) := (blk_cell BK224.out 3).trans rfl
          have hfz74_0 := blk_frozen BK224.out 0
          have hfz74_1 := blk_frozen BK224.out 1
          have hfz74_2 := blk_frozen BK224.out 2
          have hfz74_3 := blk_frozen BK224.out 3
          obtain ⟨Ao76, co76, eo76⟩ := Kd.R_slice HO_225000.out
          subst eo76
          go_wp2_with (first | ((with_reducible refine gate_builtin (b := .append) (xs := #[.tmp 61, .tmp 63]) rfl ?_); (try (refine gate_guard (by rfl) ?_; dsimp only)); at_builtin; refine Kd.S_append k50 w.heap.size rfl (.tmp 61) (.tmp 63) 22 50 (.agg #[(.slice none 0 0), (.bool false), (.int .i64 0), (.int .i64 0)]) 48 rfl Try.underlying22 info50 rfl (by decide) (by omega) (.slice Ao17 x209000_1.length co17) x209000_1 (⟨x225000_2, t211, t213, t222⟩ : S50) [.slice Ao76 x225000_2.length co76, .bool t211, .int .i64 t213, .int .i64 t222] (fun k_ => k_ ≠ gb224) (fun k_ => some k_ = (.slice Ao76 x225000_2.length co76 : Value).ownBlock) rfl rfl ?aP (fun k_ hk_ => ((Kd.R_mono (ok' := fun k_ => ((fun k_ => k_ ≠ gb224)) k_ ∧ some k_ ≠ (.slice Ao17 x209000_1.length co17 : Value).ownBlock) (Kd.R_types (Kd.R_apart' (HO_225000.out) (Kd.S_typed HO_209000.out) (by decide)) BK224.out (by decide)) (fun k_ hk => ⟨hk.2, hk.1.2⟩))).1 k_ hk_.symm) ?aF ?aO (Below.refl _ _) ?aS ?aL ?_; (case aP => exact k50_mkM _ _ _ (⟨x225000_2, t211, t213, t222⟩ : S50) (Kd.R_mono (Kd.R_tight rfl (Kd.R_mono (ok' := fun k_ => ((fun k_ => k_ ≠ gb224)) k_ ∧ some k_ ≠ (.slice Ao17 x209000_1.length co17 : Value).ownBlock) (Kd.R_types (Kd.R_apart' (HO_225000.out) (Kd.S_typed HO_209000.out) (by decide)) BK224.out (by decide)) (fun k_ hk => ⟨hk.2, hk.1.2⟩))) (fun _ h_ => h_))); (case aF => exact (fun k_ hk => Kd.freshB (g := gb224) (o := .cells #[.slice Ao76 x225000_2.length co76, .bool t211, .int .i64 t213, .int .i64 t222] 50 (0, 0)) (blk_x BK224.out) k_ hk)); (case aO => exact (by (with_reducible repeat (first | apply Kd.S_alloc | apply Kd.S_drewN | apply Kd.S_drew)); exact Kd.S_mono HO_209000.out (fun k_ hk => ⟨hk.2, fun e_ => hk.1 e_⟩))); (case aS => exact (keep_size (w := w) (g := g) (row := none) (by repeat (first | (with_reducible first | exact HK.out | apply KeepBut.set_ | apply keep_drewN | apply keep_drew | apply keep_alloc | refine keep_far ?_ GW207.out _ | refine keep_far ?_ GW208.out _ | refine keep_far ?_ GW224.out _) | exact HK.out)))); (case aL => have := LMc50.out; omega); intro v232 w75 ho hb hg hat; rw [← Ny231.out] at ho; have n0_ := Aside0.mk (Kd.R_over' (Kd.R_x HO_9.out) (Kd.S_typed (Kd.S_x HO_209000.out)) (by decide) hg); have n1_ := Aside0.mk (blk_grown (g := gb207) (o := .cells #[.slice none 0 0, .int .i64 0, .slice none 0 0, .int .i64 0, .slice none 0 0] 26 (0, 0)) (blk_x BK207.out) hg (Kd.S_ne HO_209000.out BK207.out (by decide))); have n2_ := Aside0.mk (blk_grown (g := gb208) (o := .cells #[.slice Ao17 x209000_1.length co17, .int .i64 0, .slice none 0 0, .int .i64 0, .slice none 0 0] 26 (0, 0)) (blk_x BK208.out) hg (Kd.S_ne HO_209000.out BK208.out (by decide))); have n3_ := Aside0.mk (blk_grown (g := gb224) (o := .cells #[.slice Ao76 x225000_2.length co76, .bool t211, .int .i64 t213, .int .i64 t222] 50 (0, 0)) (blk_x BK224.out) hg (Kd.S_away HO_209000.out (fun _ hk => hk.2))); have n4_ := Aside0.mk (IsS79.grown (by repeat (first | (with_reducible first | exact HI0.out | apply IsS79.alloc | apply IsS79.drewN | apply IsS79.drew | apply IsS79.set_0 | refine IsS79.far ?_ NB0_207.out _ | refine IsS79.far ?_ NB0_208.out _ | refine IsS79.far ?_ NB0_224.out _) | exact HI0.out)) hg (IsS79.own_neS HI0.out HO_209000.out (by decide))); have n5_ := Aside0.mk (below_weaken (by repeat (first | (with_reducible first | exact HB.out | apply below_alloc | apply pw_below_drewN | apply below_drew1 | refine below_set ?_ (IsS79.ge HI0.out) | refine below_set ?_ GE207.out | refine below_set ?_ GE208.out | refine below_set ?_ GE224.out) | exact HB.out)) HL.out hb); have n6_ := Aside0.mk (KeepBut.trans (by repeat (first | (with_reducible first | exact HK.out | apply KeepBut.set_ | apply keep_drewN | apply keep_drew | apply keep_alloc | refine keep_far ?_ GW207.out _ | refine keep_far ?_ GW208.out _ | refine keep_far ?_ GW224.out _) | exact HK.out)) (KeepBut.of_grown hg g) (Kd.S_base2 HO_209000.out)); have n7_ := Aside0.mk (ho); clear HO_9; clear BK207; clear BK208; clear BK224; clear HI0; clear HB; clear HK; clear HO_209000; clear HO_225000; have HO_9 := n0_; have BK207 := n1_; have BK208 := n2_; have BK224 := n3_; have HI0 := n4_; have HB := n5_; have HK := n6_; have HO233 := n7_; clear n0_ n1_ n2_ n3_ n4_ n5_ n6_ n7_; clear ho hb hg hat) | ((with_reducible refine gate_builtin (b := .append) (xs := #[.tmp 65, .tmp 71]) rfl ?_); (try (refine gate_guard (by rfl) ?_; dsimp only)); at_builtin; refine Kd.R_append Kd.bool w.heap.size rfl (.tmp 65) (.tmp 71) 31 4 (.bool false) 1 rfl Try.underlying31 info4 rfl (by decide) (by omega) u9 x9_1 false [.bool false] (fun _ => True) (fun _ => False) rfl rfl ?aP (fun _ hk => hk.elim) ?aF ?aO (Below.refl _ _) ?aS ?aL ?_; (case aP => exact rfl); (case aF => exact (fun _ _ => trivial)); (case aO => exact (Kd.R_x HO_9.out)); (case aS => exact (keep_size (w := w) (g := g) (row := none) (by repeat (first | (with_reducible first | exact HK.out | apply KeepBut.set_ | apply keep_drewN | apply keep_drew | apply keep_alloc | refine keep_far ?_ GW207.out _ | refine keep_far ?_ GW208.out _ | refine keep_far ?_ GW224.out _) | exact HK.out)))); (case aL => have := LMc67.out; omega); intro v240 w77 ho hb hg hat; rw [← Ny239.out] at ho; have n0_ := Aside0.mk (blk_grown (g := gb207) (o := .cells #[.slice none 0 0, .int .i64 0, .slice none 0 0, .int .i64 0, .slice none 0 0] 26 (0, 0)) (blk_x BK207.out) hg (Kd.R_ne HO_9.out BK207.out (by decide))); have n1_ := Aside0.mk (blk_grown (g := gb208) (o := .cells #[.slice Ao17 x209000_1.length co17, .int .i64 0, .slice none 0 0, .int .i64 0, .slice none 0 0] 26 (0, 0)) (blk_x BK208.out) hg (Kd.R_ne HO_9.out BK208.out (by decide))); have n2_ := Aside0.mk (blk_grown (g := gb224) (o := .cells #[.slice Ao76 x225000_2.length co76, .bool t211, .int .i64 t213, .int .i64 t222] 50 (0, 0)) (blk_x BK224.out) hg (Kd.R_ne HO_9.out BK224.out (by decide))); have n3_ := Aside0.mk (IsS79.grown (by repeat (first | (with_reducible first | exact HI0.out | apply IsS79.alloc | apply IsS79.drewN | apply IsS79.drew | apply IsS79.set_0 | refine IsS79.far ?_ NB0_207.out _ | refine IsS79.far ?_ NB0_208.out _ | refine IsS79.far ?_ NB0_224.out _) | exact HI0.out)) hg (IsS79.own_ne HI0.out HO_9.out (by decide))); have n4_ := Aside0.mk (Kd.S_over' (Kd.S_x HO233.out) (Kd.R_typed (Kd.R_x HO_9.out)) (by decide) hg); have n5_ := Aside0.mk (below_weaken (by repeat (first | (with_reducible first | exact HB.out | apply below_alloc | apply pw_below_drewN | apply below_drew1 | refine below_set ?_ (IsS79.ge HI0.out) | refine below_set ?_ GE207.out | refine below_set ?_ GE208.out | refine below_set ?_ GE224.out) | exact HB.out)) HL.out hb); have n6_ := Aside0.mk (KeepBut.trans (by repeat (first | (with_reducible first | exact HK.out | apply KeepBut.set_ | apply keep_drewN | apply keep_drew | apply keep_alloc | refine keep_far ?_ GW207.out _ | refine keep_far ?_ GW208.out _ | refine keep_far ?_ GW224.out _) | exact HK.out)) (KeepBut.of_grown hg g) (Kd.R_base2 HO_9.out)); have n7_ := Aside0.mk (ho); clear BK207; clear BK208; clear BK224; clear HI0; clear HO233; clear HB; clear HK; clear HO_9; have BK207 := n0_; have BK208 := n1_; have BK224 := n2_; have HI0 := n3_; have HO233 := n4_; have HB := n5_; have HK := n6_; have HO241 := n7_; clear n0_ n1_ n2_ n3_ n4_ n5_ n6_ n7_; clear ho hb hg hat; obtain ⟨Ao78, co78, eo78⟩ := Kd.S_slice HO233.out; subst eo78; have hcz79_0 : w77.cell? ⟨gb208, 0, none⟩ = some (.slice Ao17 x209000_1.length co17) := (blk_cell BK208.out 0).trans rfl; have hcz79_1 : w77.cell? ⟨gb208, 1, none⟩ = some (.int .i64 0) := (blk_cell BK208.out 1).trans rfl; have hcz79_2 : w77.cell? ⟨gb208, 2, none⟩ = some (.slice none 0 0) := (blk_cell BK208.out 2).trans rfl; have hcz79_3 : w77.cell? ⟨gb208, 3, none⟩ = some (.int .i64 0) := (blk_cell BK208.out 3).trans rfl; have hcz79_4 : w77.cell? ⟨gb208, 4, none⟩ = some (.slice none 0 0) := (blk_cell BK208.out 4).trans rfl; have hfz79_0 := blk_frozen BK208.out 0; have hfz79_1 := blk_frozen BK208.out 1; have hfz79_2 := blk_frozen BK208.out 2; have hfz79_3 := blk_frozen BK208.out 3; have hfz79_4 := blk_frozen BK208.out 4))
          go_roundg k2
          case measure => have := HK1.out; have := HK2.out; omega
          case rel => exact ⟨(y239), (wrap64 (x10_1 - 1)), (x1000_2), (y231), (.slice Ao78 y231.length co78), (by first | rfl | (simp; done) | (simp [*]; done)), H', ⟨by have := HK1.out; have := HK2.out; omega⟩, ⟨by (with_reducible repeat (first | apply Kd.R_alloc | apply Kd.R_drewN | apply Kd.R_drew)); exact Kd.R_mono (Kd.R_far (p := ⟨gb208, 0, none⟩) (Kd.R_types HO241.out BK208.out (by decide)) (fun _ hk => hk.2) (.slice Ao78 y231.length co78)) (fun _ hk => trivial)⟩, ⟨by (with_reducible repeat (first | apply Kd.S_alloc | apply Kd.S_drewN | apply Kd.S_drew)); exact Kd.S_mono (Kd.S_far (p := ⟨gb208, 0, none⟩) (Kd.S_types HO233.out BK208.out (by decide)) (fun _ hk => hk.2) (.slice Ao78 y231.length co78)) (fun _ hk => trivial)⟩, ⟨by (with_reducible repeat (first | refine blk_drewN ?_ _ | refine blk_drew ?_ | refine blk_alloc ?_ _)); refine blk_far ?_ NB207_208.out _; (with_reducible repeat (first | refine blk_drewN ?_ _ | refine blk_drew ?_ | refine blk_alloc ?_ _)); exact BK207.out⟩, ⟨by (with_reducible repeat (first | refine blk_drewN ?_ _ | refine blk_drew ?_ | refine blk_alloc ?_ _)); refine blk_put (cs := #[.slice Ao17 x209000_1.length co17, .int .i64 0, .slice none 0 0, .int .i64 0, .slice none 0 0]) ?_ 0 _ rfl; (with_reducible repeat (first | refine blk_drewN ?_ _ | refine blk_drew ?_ | refine blk_alloc ?_ _)); exact BK208.out⟩, ⟨by repeat (first | (with_reducible first | exact HI0.out | apply IsS79.alloc | apply IsS79.drewN | apply IsS79.drew | apply IsS79.set_0 | refine IsS79.far ?_ NB0_207.out _ | refine IsS79.far ?_ NB0_208.out _ | refine IsS79.far ?_ NB0_224.out _) | exact HI0.out)⟩, ⟨by repeat (first | (with_reducible first | exact HK.out | apply KeepBut.set_ | apply keep_drewN | apply keep_drew | apply keep_alloc | refine keep_far ?_ GW207.out _ | refine keep_far ?_ GW208.out _ | refine keep_far ?_ GW224.out _) | exact HK.out)⟩, ⟨by repeat (first | (with_reducible first | exact HB.out | apply below_alloc | apply pw_below_drewN | apply below_drew1 | refine below_set ?_ (IsS79.ge HI0.out) | refine below_set ?_ GE207.out | refine below_set ?_ GE208.out | refine below_set ?_ GE224.out) | exact HB.out)⟩⟩
         ·
          rw [if_neg c67] at H
          exact absurd H (by simp)
       ·
        rw [if_neg c50] at H
        exact absurd H (by simp)
   ·
    rw [if_neg c8] at H
    have c8b0 : decide (0 < x10_1) = false := decide_eq_false c8
    clear c8
    replace H := Option.bind_eq_some_iff.mp H
    obtain ⟨⟨t242, t243⟩, A800, H⟩ := H
    replace H : ((swarfkit_Feed_Either.f t243 (([0, t242] : List Int))).bind fun bt247 => ((swarfkit_Feed_Below.f bt247.2 (wrap64 (a2 + 1))).bind fun bt249 => (swarfkit_CarOf.l2 k1 x9_1 bt249.1 bt249.2 x209000_1 bt247.1 ([] : List (S61)) 0))) = some (r1, r2, r3, r4, r5, r6, r7) := H
    have A80 := Aside0.mk A800
    clear A800
    obtain ⟨y244, hy244⟩ : ∃ y_ : List Int, y_ = (([0, t242] : List Int)) := ⟨_, rfl⟩
    replace H : ((swarfkit_Feed_Either.f t243 y244).bind fun bt247 => ((swarfkit_Feed_Below.f bt247.2 (wrap64 (a2 + 1))).bind fun bt249 => (swarfkit_CarOf.l2 k1 x9_1 bt249.1 bt249.2 x209000_1 bt247.1 ([] : List (S61)) 0))) = some (r1, r2, r3, r4, r5, r6, r7) := by first | (rw [hy244]; with_reducible exact H) | (have H2_ := (Option.bind_some _ _).symm.trans H; rw [hy244]; with_reducible exact H2_) | (have H2_ := (Option.bind_some _ _).symm.trans H; with_reducible exact H2_) | with_reducible exact H | (rw [hy244]; exact H) | exact H
    have Ny244 := Aside0.mk hy244
    clear hy244
    replace H := Option.bind_eq_some_iff.mp H
    obtain ⟨⟨t247, t248⟩, A810, H⟩ := H
    replace H : ((swarfkit_Feed_Below.f t248 (wrap64 (a2 + 1))).bind fun bt249 => (swarfkit_CarOf.l2 k1 x9_1 bt249.1 bt249.2 x209000_1 t247 ([] : List (S61)) 0)) = some (r1, r2, r3, r4, r5, r6, r7) := H
    have A81 := Aside0.mk A810
    clear A810
    replace H := Option.bind_eq_some_iff.mp H
    obtain ⟨⟨t249, t250⟩, A820, H⟩ := H
    replace H : (swarfkit_CarOf.l2 k1 x9_1 t249 t250 x209000_1 t247 ([] : List (S61)) 0) = some (r1, r2, r3, r4, r5, r6, r7) := H
    have A82 := Aside0.mk A820
    clear A820
    have H' := Aside0.mk H
    clear H
    go_wp2_with (first | ((with_reducible refine gate_callee (f := 25) rfl ?_); refine goesL_ (some 76) rfl rfl Try.func25 (by kernel_rfl) rfl #[.pointer (some ⟨g, 0, none⟩), .int .i64 9] rfl (by (try simp only [List.map_toArray, List.map_cons, List.map_nil]); first | done | rfl | (simp only [List.length_drop, List.length_take]; rfl)) ?_; (with_reducible refine (swarfkit_Feed_Below.calls g x1000_1 9 t242 t243 w0 _ ?side1 ?side2 A80.out).mono ?_); (case side1 => repeat (first | (with_reducible first | exact HI0.out | apply IsS79.alloc | apply IsS79.drewN | apply IsS79.drew | apply IsS79.set_0 | refine IsS79.far ?_ NB0_207.out _ | refine IsS79.far ?_ NB0_208.out _) | exact HI0.out)); (case side2 => repeat (first | (with_reducible first | exact HB.out | apply below_alloc | apply pw_below_drewN | apply below_drew1 | refine below_set ?_ (IsS79.ge HI0.out) | refine below_set ?_ GE207.out | refine below_set ?_ GE208.out) | exact HB.out)); rintro e w83 ⟨rfl, hi, hb, hk⟩; refine ⟨_, rfl, ?_⟩; have n0_ := Aside0.mk (Kd.R_mono (Kd.R_keep (IsS79.apart (show IsS79 w0 _ g x1000_1 from by repeat (first | (with_reducible first | exact HI0.out | apply IsS79.alloc | apply IsS79.drewN | apply IsS79.drew | apply IsS79.set_0 | refine IsS79.far ?_ NB0_207.out _ | refine IsS79.far ?_ NB0_208.out _) | exact HI0.out)) (Kd.R_x HO_9.out) (by decide)) hk (fun _ h => h.2)) (fun _ h => h.1)); have n1_ := Aside0.mk (Kd.S_mono (Kd.S_keep (IsS79.apartS (show IsS79 w0 _ g x1000_1 from by repeat (first | (with_reducible first | exact HI0.out | apply IsS79.alloc | apply IsS79.drewN | apply IsS79.drew | apply IsS79.set_0 | refine IsS79.far ?_ NB0_207.out _ | refine IsS79.far ?_ NB0_208.out _) | exact HI0.out)) (Kd.S_x HO_209000.out) (by decide)) hk (fun _ h => h.2)) (fun _ h => h.1)); have n2_ := Aside0.mk (KeepBut.blk hk (g' := gb207) (o := .cells #[.slice none 0 0, .int .i64 0, .slice none 0 0, .int .i64 0, .slice none 0 0] 26 (0, 0)) (blk_x BK207.out) NB207_0.out (by simp)); have n3_ := Aside0.mk (KeepBut.blk hk (g' := gb208) (o := .cells #[u209000, .int .i64 0, .slice none 0 0, .int .i64 0, .slice none 0 0] 26 (0, 0)) (blk_x BK208.out) NB208_0.out (by simp)); have n4_ := Aside0.mk (KeepBut.trans (by repeat (first | (with_reducible first | exact HK.out | apply KeepBut.set_ | apply keep_drewN | apply keep_drew | apply keep_alloc | refine keep_far ?_ GW207.out _ | refine keep_far ?_ GW208.out _) | exact HK.out)) hk (.inl rfl)); have n5_ := Aside0.mk (hb); have n6_ := Aside0.mk (hi); clear HO_9; clear HO_209000; clear BK207; clear BK208; clear HK; clear HB; clear HI0; have HO_9 := n0_; have HO_209000 := n1_; have BK207 := n2_; have BK208 := n3_; have HK := n4_; have HB := n5_; have HI0 := n6_; clear n0_ n1_ n2_ n3_ n4_ n5_ n6_; (try clear hb); (try clear hb2); (try clear hk); (try clear hi)) | ((with_reducible refine gate_dst (N := 77) rfl ?_); (try (refine gate_guard (by rfl) ?_; dsimp only)); refine Kd.R_lit (Kd.int .i64) _ 3 ?hg (N := 77) ?hd (xs := ([0, t242] : List Int)) (inner := [.int .i64 0, .int .i64 t242]) (ok := fun _ => True) (okp := fun _ => True) ?hr ?hp (fun _ hk => hk) trivial (Below.refl _ _) (Nat.le_refl _) (by simp) ?_; (case hd => rfl); (case hg => rfl); (case hr => first | (go_simp; done) | (go_simp; rfl)); (case hp => exact (Reps.one (show Kd.M (Kd.int .i64) _ _ _ 0 [.int .i64 0] from rfl) (Reps.one (show Kd.M (Kd.int .i64) _ _ _ t242 [.int .i64 t242] from rfl) (Reps.none _ _)))); intro v245 w84 ho85 hb hg_ hnew_; clear hg_ hnew_; (first | rw [← Ny244.out] at ho85 | (simp only [Int.reduceToNat] at ho85; rw [← Ny244.out] at ho85)); have n0_ := Aside0.mk (Kd.R_below (Kd.R_x HO_9.out) hb); have n1_ := Aside0.mk (Kd.S_elder' (Kd.S_x HO_209000.out) (Kd.R_base ho85) hb); have n2_ := Aside0.mk (Kd.R_lower ho85 (keep_size (w := w) (g := g) (row := none) (by repeat (first | (with_reducible first | exact HK.out | apply KeepBut.set_ | apply keep_drewN | apply keep_drew | apply keep_alloc | refine keep_far ?_ GW207.out _ | refine keep_far ?_ GW208.out _) | exact HK.out)))); have n3_ := Aside0.mk (blk_below (g := gb207) (o := .cells #[.slice none 0 0, .int .i64 0, .slice none 0 0, .int .i64 0, .slice none 0 0] 26 (0, 0)) (blk_x BK207.out) hb); have n4_ := Aside0.mk (blk_below (g := gb208) (o := .cells #[u209000, .int .i64 0, .slice none 0 0, .int .i64 0, .slice none 0 0] 26 (0, 0)) (blk_x BK208.out) hb); have n5_ := Aside0.mk (IsS79.below (by repeat (first | (with_reducible first | exact HI0.out | apply IsS79.alloc | apply IsS79.drewN | apply IsS79.drew | apply IsS79.set_0 | refine IsS79.far ?_ NB0_207.out _ | refine IsS79.far ?_ NB0_208.out _) | exact HI0.out)) hb); have n6_ := Aside0.mk (KeepBut.trans (by repeat (first | (with_reducible first | exact HK.out | apply KeepBut.set_ | apply keep_drewN | apply keep_drew | apply keep_alloc | refine keep_far ?_ GW207.out _ | refine keep_far ?_ GW208.out _) | exact HK.out)) (KeepBut.of_below hb g none) (.inl rfl)); have n7_ := Aside0.mk (below_step (by repeat (first | (with_reducible first | exact HB.out | apply below_alloc | apply pw_below_drewN | apply below_drew1 | refine below_set ?_ (IsS79.ge HI0.out) | refine below_set ?_ GE207.out | refine below_set ?_ GE208.out) | exact HB.out)) hb); clear HO_9; clear HO_209000; clear BK207; clear BK208; clear HI0; clear HK; clear HB; have HO_9 := n0_; have HO_209000 := n1_; have HO246 := n2_; have BK207 := n3_; have BK208 := n4_; have HI0 := n5_; have HK := n6_; have HB := n7_; clear n0_ n1_ n2_ n3_ n4_ n5_ n6_ n7_; clear hb ho85; obtain ⟨Ao86, co86, eo86⟩ := Kd.R_slice HO246.out; subst eo86) | ((with_reducible refine gate_callee (f := 24) rfl ?_); refine goesL_ (some 78) rfl rfl Try.func24 (by kernel_rfl) rfl #[.pointer (some ⟨g, 0, none⟩), .slice Ao86 y244.length co86] rfl (by (try simp only [List.map_toArray, List.map_cons, List.map_nil]); first | done | rfl | (simp only [List.length_drop, List.length_take]; rfl)) ?_; (with_reducible refine (swarfkit_Feed_Either.calls g t243 _ _ y244 t247 t248 w0 _ ?side1 ?side2 ?side3 ?side4 ?side5 A81.out).mono ?_); (case side1 => repeat (first | (with_reducible first | exact HI0.out | apply IsS79.alloc | apply IsS79.drewN | apply IsS79.drew | apply IsS79.set_0 | refine IsS79.far ?_ NB0_207.out _ | refine IsS79.far ?_ NB0_208.out _) | exact HI0.out)); (case side2 => repeat (first | (with_reducible first | exact HB.out | apply below_alloc | apply pw_below_drewN | apply below_drew1 | refine below_set ?_ (IsS79.ge HI0.out) | refine below_set ?_ GE207.out | refine below_set ?_ GE208.out) | exact HB.out)); (case side3 => repeat (first | exact (Kd.R_reads' HO246.out).2.2 | (with_reducible refine Kd.C_alloc ?_ _) | (with_reducible refine Kd.C_drewN ?_ _) | (with_reducible refine Kd.C_drew ?_))); (case side4 => exact (Kd.R_reads' HO246.out).2.1); (case side5 => exact far_slice (IsS79.own_ne HI0.out HO246.out (by decide))); rintro e w87 ⟨rfl, hi, hb, hk⟩; refine ⟨_, rfl, ?_⟩; have n0_ := Aside0.mk (Kd.R_mono (Kd.R_keep (IsS79.apart (show IsS79 w0 _ g t243 from by repeat (first | (with_reducible first | exact HI0.out | apply IsS79.alloc | apply IsS79.drewN | apply IsS79.drew | apply IsS79.set_0 | refine IsS79.far ?_ NB0_207.out _ | refine IsS79.far ?_ NB0_208.out _) | exact HI0.out)) (Kd.R_x HO_9.out) (by decide)) hk (fun _ h => h.2)) (fun _ h => h.1)); have n1_ := Aside0.mk (Kd.S_mono (Kd.S_keep (IsS79.apartS (show IsS79 w0 _ g t243 from by repeat (first | (with_reducible first | exact HI0.out | apply IsS79.alloc | apply IsS79.drewN | apply IsS79.drew | apply IsS79.set_0 | refine IsS79.far ?_ NB0_207.out _ | refine IsS79.far ?_ NB0_208.out _) | exact HI0.out)) (Kd.S_x HO_209000.out) (by decide)) hk (fun _ h => h.2)) (fun _ h => h.1)); have n2_ := Aside0.mk (KeepBut.blk hk (g' := gb207) (o := .cells #[.slice none 0 0, .int .i64 0, .slice none 0 0, .int .i64 0, .slice none 0 0] 26 (0, 0)) (blk_x BK207.out) NB207_0.out (by simp)); have n3_ := Aside0.mk (KeepBut.blk hk (g' := gb208) (o := .cells #[u209000, .int .i64 0, .slice none 0 0, .int .i64 0, .slice none 0 0] 26 (0, 0)) (blk_x BK208.out) NB208_0.out (by simp)); have n4_ := Aside0.mk (Kd.R_mono (Kd.R_keep (IsS79.apart (show IsS79 w0 _ g t243 from by repeat (first | (with_reducible first | exact HI0.out | apply IsS79.alloc | apply IsS79.drewN | apply IsS79.drew | apply IsS79.set_0 | refine IsS79.far ?_ NB0_207.out _ | refine IsS79.far ?_ NB0_208.out _) | exact HI0.out)) (Kd.R_x HO246.out) (by decide)) hk (fun _ h => h.2)) (fun _ h => h.1)); have n5_ := Aside0.mk (KeepBut.trans (by repeat (first | (with_reducible first | exact HK.out | apply KeepBut.set_ | apply keep_drewN | apply keep_drew | apply keep_alloc | refine keep_far ?_ GW207.out _ | refine keep_far ?_ GW208.out _) | exact HK.out)) hk (.inl rfl)); have n6_ := Aside0.mk (hb); have n7_ := Aside0.mk (hi); clear HO_9; clear HO_209000; clear BK207; clear BK208; clear HO246; clear HK; clear HB; clear HI0; have HO_9 := n0_; have HO_209000 := n1_; have BK207 := n2_; have BK208 := n3_; have HO246 := n4_; have HK := n5_; have HB := n6_; have HI0 := n7_; clear n0_ n1_ n2_ n3_ n4_ n5_ n6_ n7_; (try clear hb); (try clear hb2); (try clear hk); (try clear hi); have hnb88 := NB208_207.out; have hnc88 := NB207_208.out; have hnb89 := NB208_0.out; have hnc89 := NB0_208.out; have hcz90_0 : w87.cell? ⟨gb208, 0, none⟩ = some (u209000) := (blk_cell BK208.out 0).trans rfl; have hcz90_1 : w87.cell? ⟨gb208, 1, none⟩ = some (.int .i64 0) := (blk_cell BK208.out 1).trans rfl; have hcz90_2 : w87.cell? ⟨gb208, 2, none⟩ = some (.slice none 0 0) := (blk_cell BK208.out 2).trans rfl; have hcz90_3 : w87.cell? ⟨gb208, 3, none⟩ = some (.int .i64 0) := (blk_cell BK208.out 3).trans rfl; have hcz90_4 : w87.cell? ⟨gb208, 4, none⟩ = some (.slice none 0 0) := (blk_cell BK208.out 4).trans rfl; have hfz90_0 := blk_frozen BK208.out 0; have hfz90_1 := blk_frozen BK208.out 1; have hfz90_2 := blk_frozen BK208.out 2; have hfz90_3 := blk_frozen BK208.out 3; have hfz90_4 := blk_frozen BK208.out 4) | ((with_reducible refine gate_callee (f := 25) rfl ?_); refine goesL_ (some 83) rfl rfl Try.func25 (by kernel_rfl) rfl #[.pointer (some ⟨g, 0, none⟩), .int .i64 (wrap64 (a2 + 1))] rfl (by (try simp only [List.map_toArray, List.map_cons, List.map_nil]); first | done | rfl | (simp only [List.length_drop, List.length_take]; rfl)) ?_; (with_reducible refine (swarfkit_Feed_Below.calls g t248 (wrap64 (a2 + 1)) t249 t250 w0 _ ?side1 ?side2 A82.out).mono ?_); (case side1 => repeat (first | (with_reducible first | exact HI0.out | apply IsS79.alloc | apply IsS79.drewN | apply IsS79.drew | apply IsS79.set_0 | refine IsS79.far ?_ NB0_207.out _ | refine IsS79.far ?_ NB0_208.out _) | exact HI0.out)); (case side2 => repeat (first | (with_reducible first | exact HB.out | apply below_alloc | apply pw_below_drewN | apply below_drew1 | refine below_set ?_ (IsS79.ge HI0.out) | refine below_set ?_ GE207.out | refine below_set ?_ GE208.out) | exact HB.out)); rintro e w91 ⟨rfl, hi, hb, hk⟩; refine ⟨_, rfl, ?_⟩; have n0_ := Aside0.mk (Kd.R_mono (Kd.R_keep (IsS79.apart (show IsS79 w0 _ g t248 from by repeat (first | (with_reducible first | exact HI0.out | apply IsS79.alloc | apply IsS79.drewN | apply IsS79.drew | apply IsS79.set_0 | refine IsS79.far ?_ NB0_207.out _ | refine IsS79.far ?_ NB0_208.out _) | exact HI0.out)) (by (with_reducible repeat (first | apply Kd.R_alloc | apply Kd.R_drewN | apply Kd.R_drew)); exact (Kd.R_mono (Kd.R_far (p := ⟨gb208, 1, none⟩) (Kd.R_types HO_9.out BK208.out (by decide)) (fun _ hk => hk.2) (.int .i64 t247)) (fun _ h_ => h_.1))) (by decide)) hk (fun _ h => h.2)) (fun _ h => h.1)); have n1_ := Aside0.mk (Kd.S_mono (Kd.S_keep (IsS79.apartS (show IsS79 w0 _ g t248 from by repeat (first | (with_reducible first | exact HI0.out | apply IsS79.alloc | apply IsS79.drewN | apply IsS79.drew | apply IsS79.set_0 | refine IsS79.far ?_ NB0_207.out _ | refine IsS79.far ?_ NB0_208.out _) | exact HI0.out)) (by (with_reducible repeat (first | apply Kd.S_alloc | apply Kd.S_drewN | apply Kd.S_drew)); exact (Kd.S_mono (Kd.S_far (p := ⟨gb208, 1, none⟩) (Kd.S_types HO_209000.out BK208.out (by decide)) (fun _ hk => hk.2) (.int .i64 t247)) (fun _ h_ => h_.1))) (by decide)) hk (fun _ h => h.2)) (fun _ h => h.1)); have n2_ := Aside0.mk (KeepBut.blk hk (g' := gb207) (o := .cells #[.slice none 0 0, .int .i64 0, .slice none 0 0, .int .i64 0, .slice none 0 0] 26 (0, 0)) (by (with_reducible repeat (first | refine blk_drewN ?_ _ | refine blk_drew ?_ | refine blk_alloc ?_ _)); refine blk_far ?_ NB207_208.out _; (with_reducible repeat (first | refine blk_drewN ?_ _ | refine blk_drew ?_ | refine blk_alloc ?_ _)); exact BK207.out) NB207_0.out (by simp)); have n3_ := Aside0.mk (KeepBut.blk hk (g' := gb208) (o := .cells #[u209000, .int .i64 t247, .slice none 0 0, .int .i64 0, .slice none 0 0] 26 (0, 0)) (by (with_reducible repeat (first | refine blk_drewN ?_ _ | refine blk_drew ?_ | refine blk_alloc ?_ _)); refine blk_put (cs := #[u209000, .int .i64 0, .slice none 0 0, .int .i64 0, .slice none 0 0]) ?_ 1 _ rfl; (with_reducible repeat (first | refine blk_drewN ?_ _ | refine blk_drew ?_ | refine blk_alloc ?_ _)); exact BK208.out) NB208_0.out (by simp)); have n4_ := Aside0.mk (Kd.R_mono (Kd.R_keep (IsS79.apart (show IsS79 w0 _ g t248 from by repeat (first | (with_reducible first | exact HI0.out | apply IsS79.alloc | apply IsS79.drewN | apply IsS79.drew | apply IsS79.set_0 | refine IsS79.far ?_ NB0_207.out _ | refine IsS79.far ?_ NB0_208.out _) | exact HI0.out)) (by (with_reducible repeat (first | apply Kd.R_alloc | apply Kd.R_drewN | apply Kd.R_drew)); exact (Kd.R_mono (Kd.R_far (p := ⟨gb208, 1, none⟩) (Kd.R_types HO246.out BK208.out (by decide)) (fun _ hk => hk.2) (.int .i64 t247)) (fun _ h_ => h_.1))) (by decide)) hk (fun _ h => h.2)) (fun _ h => h.1)); have n5_ := Aside0.mk (KeepBut.trans (by repeat (first | (with_reducible first | exact HK.out | apply KeepBut.set_ | apply keep_drewN | apply keep_drew | apply keep_alloc | refine keep_far ?_ GW207.out _ | refine keep_far ?_ GW208.out _) | exact HK.out)) hk (.inl rfl)); have n6_ := Aside0.mk (hb); have n7_ := Aside0.mk (hi); clear HO_9; clear HO_209000; clear BK207; clear BK208; clear HO246; clear HK; clear HB; clear HI0; have HO_9 := n0_; have HO_209000 := n1_; have BK207 := n2_; have BK208 := n3_; have HO246 := n4_; have HK := n5_; have HB := n6_; have HI0 := n7_; clear n0_ n1_ n2_ n3_ n4_ n5_ n6_ n7_; (try clear hb); (try clear hb2); (try clear hk); (try clear hi)))
    go_loopg [15] k1 (fun kq v15 w' => ∃ (x15_2 : Int) (x1000_2 : Int) (x209002_2 : List (S61)) (u209002 : Value), v15 = .int .i64 x15_2 ∧ Aside0 (swarfkit_CarOf.l2 kq x9_1 x15_2 x1000_2 x209000_1 t247 x209002_2 0 = some (r1, r2, r3, r4, r5, r6, r7)) ∧ Aside0 (kq ≤ k1) ∧ Aside0 (Kd.R Kd.bool 4 w' w.heap.size (fun _ => True) u9 x9_1) ∧ Aside0 (Kd.S k50 50 w' w.heap.size (fun _ => True) u209000 x209000_1) ∧ Aside0 (Kd.R k61 61 w' w.heap.size (fun _ => True) u209002 x209002_2) ∧ Aside0 (w'.heap[gb207]? = some (.cells #[(.slice none 0 0), .int .i64 0, (.slice none 0 0), .int .i64 0, (.slice none 0 0)] 26 (0, 0))) ∧ Aside0 (w'.heap[gb208]? = some (.cells #[u209000, .int .i64 t247, u209002, .int .i64 0, (.slice none 0 0)] 26 (0, 0))) ∧ Aside0 (IsS79 w0 w' g x1000_2) ∧ Aside0 (KeepBut w w' g none) ∧ Aside0 (Below w0.heap.size w0 w'))
    case atStart => exact ⟨(t249), (t250), (([] : List (S61))), (.slice none 0 0), (by first | rfl | (simp; done) | (simp [*]; done)), H', ⟨Nat.le_refl _⟩, ⟨by (with_reducible repeat (first | apply Kd.R_alloc | apply Kd.R_drewN | apply Kd.R_drew)); exact HO_9.out⟩, ⟨by (with_reducible repeat (first | apply Kd.S_alloc | apply Kd.S_drewN | apply Kd.S_drew)); exact Kd.S_mono HO_209000.out (fun _ hk => trivial)⟩, ⟨by first | exact Kd.R_nil _ _ _ _ _ | exact Kd.N_nil _ _ _ _ _ | exact Kd.V_nil _ _ _ _ _ | exact Kd.Q_nil _ _ _ _ _ | exact Kd.S_nil _ _ _ _ _⟩, ⟨by (with_reducible repeat (first | refine blk_drewN ?_ _ | refine blk_drew ?_ | refine blk_alloc ?_ _)); exact BK207.out⟩, ⟨by (with_reducible repeat (first | refine blk_drewN ?_ _ | refine blk_drew ?_ | refine blk_alloc ?_ _)); exact BK208.out⟩, ⟨by repeat (first | (with_reducible first | exact HI0.out | apply IsS79.alloc | apply IsS79.drewN | apply IsS79.drew | apply IsS79.set_0 | refine IsS79.far ?_ NB0_207.out _ | refine IsS79.far ?_ NB0_208.out _) | exact HI0.out)⟩, ⟨by repeat (first | (with_reducible first | exact HK.out | apply KeepBut.set_ | apply keep_drewN | apply keep_drew | apply keep_alloc | refine keep_far ?_ GW207.out _ | refine keep_far ?_ GW208.out _) | exact HK.out)⟩, ⟨by repeat (first | (with_reducible first | exact HB.out | apply below_alloc | apply pw_below_drewN | apply below_drew1 | refine below_set ?_ (IsS79.ge HI0.out) | refine below_set ?_ GE207.out | refine below_set ?_ GE208.out) | exact HB.out)⟩⟩
    case round =>
     clear H'
     try clear c1
     try clear c2
     try clear p2
     try clear q2
     try clear hx2
     try clear c3
     try clear c4
     try clear c5
     try clear c6
     try clear p6
     try clear c7
     try clear c8
     try clear c8b0
     try clear c14
     try clear c15
     try clear c17
     try clear p23
     try clear q23
     try clear hx23
     try clear c24
     try clear c25
     try clear c27
     try clear c28
     try clear c29
     try clear c31
     try clear c31b0
     try clear c33
     try clear c34
     try clear c35
     try clear c36
     try clear c36b0
     try clear c37
     try clear c37b0
     try clear c46
     try clear c50
     try clear c51
     try clear c53
     try clear c54
     try clear c55
     try clear c56
     try clear c58
     try clear c59
     try clear p64
     try clear c67
     try clear c68
     try clear c69
     try clear c70
     try clear c72
     try clear c73
     try clear c88
     try clear c89
     try clear hcz16_0
     try clear hcz16_1
     try clear hcz16_2
     try clear hcz16_3
     try clear hcz16_4
     try clear hcz30_0
     try clear hcz30_1
     try clear hcz30_2
     try clear hcz30_3
     try clear hcz57_0
     try clear hcz57_1
     try clear hcz57_2
     try clear hcz57_3
     try clear hcz57_4
     try clear hcz60_0
     try clear hcz60_1
     try clear hcz60_2
     try clear hcz60_3
     try clear hcz66_0
     try clear hcz66_1
     try clear hcz66_2
     try clear hcz66_3
     try clear hcz66_4
     try clear hcz71_0
     try clear hcz71_1
     try clear hcz71_2
     try clear hcz71_3
     try clear hcz71_4
     try clear hcz74_0
     try clear hcz74_1
     try clear hcz74_2
     try clear hcz74_3
     try clear hcz79_0
     try clear hcz79_1
     try clear hcz79_2
     try clear hcz79_3
     try clear hcz79_4
     try clear hcz90_0
     try clear hcz90_1
     try clear hcz90_2
     try clear hcz90_3
     try clear hcz90_4
     try clear hfz16_0
     try clear hfz16_1
     try clear hfz16_2
     try clear hfz16_3
     try clear hfz16_4
     try clear hfz30_0
     try clear hfz30_1
     try clear hfz30_2
     try clear hfz30_3
     try clear hfz57_0
     try clear hfz57_1
     try clear hfz57_2
     try clear hfz57_3
     try clear hfz57_4
     try clear hfz60_0
     try clear hfz60_1
     try clear hfz60_2
     try clear hfz60_3
     try clear hfz66_0
     try clear hfz66_1
     try clear hfz66_2
     try clear hfz66_3
     try clear hfz66_4
     try clear hfz71_0
     try clear hfz71_1
     try clear hfz71_2
     try clear hfz71_3
     try clear hfz71_4
     try clear hfz74_0
     try clear hfz74_1
     try clear hfz74_2
     try clear hfz74_3
     try clear hfz79_0
     try clear hfz79_1
     try clear hfz79_2
     try clear hfz79_3
     try clear hfz79_4
     try clear hfz90_0
     try clear hfz90_1
     try clear hfz90_2
     try clear hfz90_3
     try clear hfz90_4
     try clear hx230_0
     try clear p2
     try clear p230
     try clear q230
     obtain ⟨x15_2, x1000_2, x209002_2, u209002, rfl, HA, HK2, HO_9, HO_209000, HO_209002, BK207, BK208, HI0, HK, HB⟩ := hrel
     cases gk with
     | zero => exact absurd HA.out (by simp [swarfkit_CarOf.l2])
     | succ k2 =>
      have H := HA.out
      clear HA
      simp only [swarfkit_CarOf.l2] at H
      by_cases c92 : x15_2 > 0
      ·
       rw [if_pos c92] at H
       have c92b0 : decide (0 < x15_2) = true := decide_eq_true c92
       clear c92
       replace H := Option.bind_eq_some_iff.mp H
       obtain ⟨⟨t251, t252⟩, A930, H⟩ := H
       replace H : (if 0 ≤ t251 then (if t251 < (x9_1.length : Int) then ((swarfkit_Feed_Often.f t252 1 6).bind fun bt254 => (if x209002_2.length < 8796093022208 then (swarfkit_CarOf.l2 k2 x9_1 (wrap64 (x15_2 - 1)) bt254.2 x209000_1 t247 (x209002_2 ++ [(⟨t251, ((rdOf false x9_1 t251) != bt254.1)⟩ : S61)]) 0) else (none))) else (none)) else (none)) = some (r1, r2, r3, r4, r5, r6, r7) := H
       have A93 := Aside0.mk A930
       clear A930
       by_cases c94 : 0 ≤ t251
       ·
        rw [if_pos c94] at H
        have c94b0 : decide (0 ≤ t251) = true := decide_eq_true c94
        clear c94
        by_cases c95 : t251 < (x9_1.length : Int)
        ·
         rw [if_pos c95] at H
         have c95b0 : decide (t251 < (x9_1.length : Int)) = true := decide_eq_true c95
         clear c95
         replace H := Option.bind_eq_some_iff.mp H
         obtain ⟨⟨t254, t255⟩, A960, H⟩ := H
         replace H : (if x209002_2.length < 8796093022208 then (swarfkit_CarOf.l2 k2 x9_1 (wrap64 (x15_2 - 1)) t255 x209000_1 t247 (x209002_2 ++ [(⟨t251, ((rdOf false x9_1 t251) != t254)⟩ : S61)]) 0) else (none)) = some (r1, r2, r3, r4, r5, r6, r7) := H
         have A96 := Aside0.mk A960
         clear A960
         by_cases c97 : x209002_2.length < 8796093022208
         ·
          rw [if_pos c97] at H
          have LMc97 := Aside0.mk c97
          clear c97
          obtain ⟨y256, hy256⟩ : ∃ y_ : List (S61), y_ = (x209002_2 ++ [(⟨t251, ((rdOf false x9_1 t251) != t254)⟩ : S61)]) := ⟨_, rfl⟩
          replace H : (swarfkit_CarOf.l2 k2 x9_1 (wrap64 (x15_2 - 1)) t255 x209000_1 t247 y256 0) = some (r1, r2, r3, r4, r5, r6, r7) := by first | (rw [hy256]; with_reducible exact H) | (have H2_ := (Option.bind_some _ _).symm.trans H; rw [hy256]; with_reducible exact H2_) | (have H2_ := (Option.bind_some _ _).symm.trans H; with_reducible exact H2_) | with_reducible exact H | (rw [hy256]; exact H) | exact H
          have Ny256 := Aside0.mk hy256
          clear hy256
          have H' := Aside0.mk H
          clear H
          have hnb98 := NB208_207.out
          have hnc98 := NB207_208.out
          have hnb99 := NB208_0.out
          have hnc99 := NB0_208.out
          have hcz100_0 : wr.cell? ⟨gb208, 0, none⟩ = some (u209000) := (blk_cell BK208.out 0).trans rfl
          have hcz100_1 : wr.cell? ⟨gb208, 1, none⟩ = some (.int .i64 t247) := (blk_cell BK208.out 1).trans rfl
          have hcz100_2 : wr.cell? ⟨gb208, 2, none⟩ = some (u209002) := (blk_cell BK208.out 2).trans rfl
          have hcz100_3 : wr.cell? ⟨gb208, 3, none⟩ = some (.int .i64 0) := (blk_cell BK208.out 3).trans rfl
          have hcz100_4 : wr.cell? ⟨gb208, 4, none⟩ = some (.slice none 0 0) := (blk_cell BK208.out 4).trans rfl
          have hfz100_0 := blk_frozen BK208.out 0
          have hfz100_1 := blk_frozen BK208.out 1
          have hfz100_2 := blk_frozen BK208.out 2
          have hfz100_3 := blk_frozen BK208.out 3
          have hfz100_4 := blk_frozen BK208.out 4
          obtain ⟨Ao101, co101, eo101⟩ := Kd.S_slice HO_209000.out
          subst eo101
          try go_wp2_with (first | ((with_reducible refine gate_callee (f := 25) rfl ?_); refine goesL_ (some 92) rfl rfl Try.func25 (by kernel_rfl) rfl #[.pointer (some ⟨g, 0, none⟩), .int .i64 (x209000_1.length : Int)] rfl (by (try simp only [List.map_toArray, List.map_cons, List.map_nil]); first | done | rfl | (simp only [List.length_drop, List.length_take]; rfl)) ?_; (with_reducible refine (swarfkit_Feed_Below.calls g x1000_2 (x209000_1.length : Int) t251 t252 w0 _ ?side1 ?side2 A93.out).mono ?_); (case side1 => repeat (first | (with_reducible first | exact HI0.out | apply IsS79.alloc | apply IsS79.drewN | apply IsS79.drew | apply IsS79.set_0 | refine IsS79.far ?_ NB0_207.out _ | refine IsS79.far ?_ NB0_208.out _) | exact HI0.out)); (case side2 => repeat (first | (with_reducible first | exact HB.out | apply below_alloc | apply pw_below_drewN | apply below_drew1 | refine below_set ?_ (IsS79.ge HI0.out) | refine below_set ?_ GE207.out | refine below_set ?_ GE208.out) | exact HB.out)); rintro e w102 ⟨rfl, hi, hb, hk⟩; refine ⟨_, rfl, ?_⟩; have n0_ := Aside0.mk (Kd.R_mono (Kd.R_keep (IsS79.apart (show IsS79 w0 _ g x1000_2 from by repeat (first | (with_reducible first | exact HI0.out | apply IsS79.alloc | apply IsS79.drewN | apply IsS79.drew | apply IsS79.set_0 | refine IsS79.far ?_ NB0_207.out _ | refine IsS79.far ?_ NB0_208.out _) | exact HI0.out)) (Kd.R_x HO_9.out) (by decide)) hk (fun _ h => h.2)) (fun _ h => h.1)); have n1_ := Aside0.mk (Kd.S_mono (Kd.S_keep (IsS79.apartS (show IsS79 w0 _ g x1000_2 from by repeat (first | (with_reducible first | exact HI0.out | apply IsS79.alloc | apply IsS79.drewN | apply IsS79.drew | apply IsS79.set_0 | refine IsS79.far ?_ NB0_207.out _ | refine IsS79.far ?_ NB0_208.out _) | exact HI0.out)) (Kd.S_x HO_209000.out) (by decide)) hk (fun _ h => h.2)) (fun _ h => h.1)); have n2_ := Aside0.mk (Kd.R_mono (Kd.R_keep (IsS79.apart (show IsS79 w0 _ g x1000_2 from by repeat (first | (with_reducible first | exact HI0.out | apply IsS79.alloc | apply IsS79.drewN | apply IsS79.drew | apply IsS79.set_0 | refine IsS79.far ?_ NB0_207.out _ | refine IsS79.far ?_ NB0_208.out _) | exact HI0.out)) (Kd.R_x HO_209002.out) (by decide)) hk (fun _ h => h.2)) (fun _ h => h.1)); have n3_ := Aside0.mk (KeepBut.blk hk (g' := gb207) (o := .cells #[.slice none 0 0, .int .i64 0, .slice none 0 0, .int .i64 0, .slice none 0 0] 26 (0, 0)) (blk_x BK207.out) NB207_0.out (by simp)); have n4_ := Aside0.mk (KeepBut.blk hk (g' := gb208) (o := .cells #[.slice Ao101 x209000_1.length co101, .int .i64 t247, u209002, .int .i64 0, .slice none 0 0] 26 (0, 0)) (blk_x BK208.out) NB208_0.out (by simp)); have n5_ := Aside0.mk (KeepBut.trans (by repeat (first | (with_reducible first | exact HK.out | apply KeepBut.set_ | apply keep_drewN | apply keep_drew | apply keep_alloc | refine keep_far ?_ GW207.out _ | refine keep_far ?_ GW208.out _) | exact HK.out)) hk (.inl rfl)); have n6_ := Aside0.mk (hb); have n7_ := Aside0.mk (hi); clear HO_9; clear HO_209000; clear HO_209002; clear BK207; clear BK208; clear HK; clear HB; clear HI0; have HO_9 := n0_; have HO_209000 := n1_; have HO_209002 := n2_; have BK207 := n3_; have BK208 := n4_; have HK := n5_; have HB := n6_; have HI0 := n7_; clear n0_ n1_ n2_ n3_ n4_ n5_ n6_ n7_; (try clear hb); (try clear hb2); (try clear hk); (try clear hi)))
          have n0_ := Aside0.mk (Kd.R_drew HO_9.out)
          have n1_ := Aside0.mk (Kd.S_drew HO_209000.out)
          have n2_ := Aside0.mk (Kd.R_drew HO_209002.out)
          have n3_ := Aside0.mk (blk_drew BK207.out)
          have n4_ := Aside0.mk (blk_drew BK208.out)
          have n5_ := Aside0.mk (IsS79.drew HI0.out)
          have n6_ := Aside0.mk (keep_drew HK.out)
          have n7_ := Aside0.mk (below_drew1 HB.out)
          clear HO_9 HO_209000 HO_209002 BK207 BK208 HI0 HK HB
          have HO_9 := n0_
          have HO_209000 := n1_
          have HO_209002 := n2_
          have BK207 := n3_
          have BK208 := n4_
          have HI0 := n5_
          have HK := n6_
          have HB := n7_
          clear n0_ n1_ n2_ n3_ n4_ n5_ n6_ n7_
          obtain ⟨Ao104, co104, eo104⟩ := Kd.R_slice HO_9.out
          (first | subst eo104 | (injection eo104 with f1_ f2_ f3_; have f4_ := f1_.symm; have f5_ := f3_.symm; clear f1_ f2_ f3_; subst f4_; subst f5_))
          have p253 : 0 ≤ (t251 : Int) := of_decide_eq_true (by first | (with_reducible assumption) | assumption)
          have q253 : t251 < (x9_1.length : Int) := of_decide_eq_true (by first | (with_reducible assumption) | assumption)
          obtain ⟨ad253, e253, hx253_0⟩ := Kd.at_bool (Kd.R_reads' HO_9.out).2.2 t251 p253 q253
          cases e253
          replace p253 := eq_true p253
          replace q253 := eq_true q253
          refine start_ (n := 15) (S := fun w' => w'.cell? ⟨gb208, 0, none⟩ = some (.slice Ao101 x209000_1.length co101) ∧ w'.cell? ⟨gb208, 1, none⟩ = some (.int .i64 t247) ∧ w'.cell? ⟨gb208, 2, none⟩ = some (u209002) ∧ w'.cell? ⟨gb208, 3, none⟩ = some (.int .i64 0) ∧ w'.cell? ⟨gb208, 4, none⟩ = some (.slice none 0 0) ∧ w'.cell? (ad253.add (t251).toNat) = some (.bool (rdOf false x9_1 t251))) (ds := [14]) #[false, false, false, false, false, false, false, false, false, false, false, false, false, false, false] (by kernel_rfl) rfl rfl ⟨(blk_cell BK208.out 0).trans rfl, (blk_cell BK208.out 1).trans rfl, (blk_cell BK208.out 2).trans rfl, (blk_cell BK208.out 3).trans rfl, (blk_cell BK208.out 4).trans rfl, hx253_0⟩ (fun hHeld => ?_); refine with_tabW swarfkit_CarOf.tab20 swarfkit_CarOf.bits20 (fun HT_ HW_ => ?_)
          generalize w102.drew = w103 at HO_9 HO_209000 HO_209002 BK207 BK208 HI0 HK HB hx253_0 hHeld ⊢
          refine pure_ (i := 0) (N := some 93) (v := ?_) (a' := ?_) (bz 15 1) rfl rfl (any_of HT_.out (by kernel_rfl)) (fun _ _ _ h => h) (Or.inl ⟨by rfl, ?_⟩) ?_ ?_
          rotate_left
          ·
           intro w'
           go_simp
           with_reducible rfl
          rotate_left
          ·
           simp only [Act.put, List.setIfInBounds_toArray, List.set_cons_zero, List.set_cons_succ, i64_w, i32_w]
           rfl
          refine pure_ (i := 2) (N := some 95) (v := ?_) (a' := ?_) (bz 15 5) rfl rfl (any_of HT_.out (by kernel_rfl)) (fun _ _ _ h => h) (Or.inl ⟨by rfl, ?_⟩) ?_ ?_
          rotate_left
          ·
           intro w'
           go_simp
           with_reducible rfl
          rotate_left
          ·
           simp only [Act.put, List.setIfInBounds_toArray, List.set_cons_zero, List.set_cons_succ, i64_w, i32_w]
           rfl
          refine pure_ (i := 3) (N := some 96) (v := ?_) (a' := ?_) (bz 15 13) rfl rfl (any_of HT_.out (by kernel_rfl)) (fun _ _ _ h => h) (Or.inl ⟨by rfl, ?_⟩) ?_ ?_
          rotate_left
          ·
           intro w'
           go_simp
           with_reducible rfl
          rotate_left
          ·
           simp only [Act.put, List.setIfInBounds_toArray, List.set_cons_zero, List.set_cons_succ, i64_w, i32_w]
           rfl
          refine pure_ (i := 4) (N := some 97) (v := ?_) (a' := ?_) (bz 15 29) rfl rfl (any_of HT_.out (by kernel_rfl)) (fun _ _ _ h => h) (Or.inl ⟨by rfl, ?_⟩) ?_ ?_
          rotate_left
          ·
           intro w'
           go_simp
           with_reducible rfl
          rotate_left
          ·
           simp only [Act.put, List.setIfInBounds_toArray, List.set_cons_zero, List.set_cons_succ, i64_w, i32_w]
           rfl
          refine pure_ (i := 5) (N := some 98) (v := ?_) (a' := ?_) (bz 15 61) rfl rfl (any_of HT_.out (by kernel_rfl)) (fun _ _ _ h => h) (Or.inl ⟨by rfl, ?_⟩) ?_ ?_
          rotate_left
          ·
           intro w'
           go_simp
           with_reducible rfl
          rotate_left
          ·
           simp only [Act.put, List.setIfInBounds_toArray, List.set_cons_zero, List.set_cons_succ, i64_w, i32_w]
           rfl
          refine pure_ (i := 7) (N := some 100) (v := ?_) (a' := ?_) (bz 15 189) rfl rfl (any_of HT_.out (by kernel_rfl)) (fun _ _ _ h => h) (Or.inl ⟨by rfl, ?_⟩) ?_ ?_
          rotate_left
          ·
           intro w'
           go_simp
           with_reducible rfl
          rotate_left
          ·
           simp only [Act.put, List.setIfInBounds_toArray, List.set_cons_zero, List.set_cons_succ, i64_w, i32_w]
           rfl
          refine take_ (i := 1) (N := some 94) (v := ?_) (a' := ?_) (bz 15 191) rfl rfl (take_ofW HT_.out HW_.out (by kernel_rfl)) (fun _ _ _ h => h) (Or.inl ⟨by rfl, ?_⟩) hHeld ?_ ?_
          rotate_left
          ·
           rintro w' ⟨s0, s1, s2, s3, s4, s5⟩
           go_simp
           with_reducible rfl
          rotate_left
          ·
           simp only [Act.put, List.setIfInBounds_toArray, List.set_cons_zero, List.set_cons_succ, i64_w, i32_w]
           rfl
          refine take_ (i := 6) (N := some 99) (v := ?_) (a' := ?_) (bz 15 255) rfl rfl (take_ofW HT_.out HW_.out (by kernel_rfl)) (fun _ _ _ h => h) (Or.inl ⟨by rfl, ?_⟩) hHeld ?_ ?_
          rotate_left
          ·
           rintro w' ⟨s0, s1, s2, s3, s4, s5⟩
           go_simp
           with_reducible rfl
          rotate_left
          ·
           simp only [Act.put, List.setIfInBounds_toArray, List.set_cons_zero, List.set_cons_succ, i64_w, i32_w]
           rfl
          refine one_ (i := 8) (N := some 101) (bz 15 511) rfl rfl (one_of HT_.out (by kernel_rfl)) (by decide) (fun K hK => ?_)
          refine goes_ Try.func35 (by kernel_rfl) rfl #[.pointer (some ⟨g, 0, none⟩), .int .i64 1, .int .i64 6] (by rfl) rfl rfl (by (try simp only [List.map_toArray, List.map_cons, List.map_nil]); first | done | rfl | (simp only [List.length_drop, List.length_take]; rfl)) ?_
          with_reducible refine (swarfkit_Feed_Often.calls g t252 1 6 t254 t255 w0 _ ?side1 ?side2 A96.out).mono ?_
          (case side1 => repeat (first | (with_reducible first | exact HI0.out | apply IsS79.alloc | apply IsS79.drewN | apply IsS79.drew | apply IsS79.set_0 | refine IsS79.far ?_ NB0_207.out _ | refine IsS79.far ?_ NB0_208.out _) | exact HI0.out))
          (case side2 => repeat (first | (with_reducible first | exact HB.out | apply below_alloc | apply pw_below_drewN | apply below_drew1 | refine below_set ?_ (IsS79.ge HI0.out) | refine below_set ?_ GE207.out | refine below_set ?_ GE208.out) | exact HB.out))
          rintro e w105 ⟨rfl, hi, hb, hk⟩
          have HS5_ := keep_cell hk (hHeld.2.2.2.2.2) (by first | (rw [add_block]; exact Kd.own_blk (IsS79.own_ne HI0.out HO_9.out (by decide))) | (show (Addr.add _ _).block ≠ _; rw [add_block]; exact Kd.own_blk (IsS79.own_ne HI0.out HO_9.out (by decide))) | exact Kd.own_blk (IsS79.own_ne HI0.out HO_9.out (by decide)))
          refine ⟨_, rfl, ?_⟩
          have n0_ := Aside0.mk (Kd.R_mono (Kd.R_keep (IsS79.apart (show IsS79 w0 _ g t252 from by repeat (first | (with_reducible first | exact HI0.out | apply IsS79.alloc | apply IsS79.drewN | apply IsS79.drew | apply IsS79.set_0 | refine IsS79.far ?_ NB0_207.out _ | refine IsS79.far ?_ NB0_208.out _) | exact HI0.out)) (Kd.R_x HO_9.out) (by decide)) hk (fun _ h => h.2)) (fun _ h => h.1))
          have n1_ := Aside0.mk (Kd.S_mono (Kd.S_keep (IsS79.apartS (show IsS79 w0 _ g t252 from by repeat (first | (with_reducible first | exact HI0.out | apply IsS79.alloc | apply IsS79.drewN | apply IsS79.drew | apply IsS79.set_0 | refine IsS79.far ?_ NB0_207.out _ | refine IsS79.far ?_ NB0_208.out _) | exact HI0.out)) (Kd.S_x HO_209000.out) (by decide)) hk (fun _ h => h.2)) (fun _ h => h.1))
          have n2_ := Aside0.mk (Kd.R_mono (Kd.R_keep (IsS79.apart (show IsS79 w0 _ g t252 from by repeat (first | (with_reducible first | exact HI0.out | apply IsS79.alloc | apply IsS79.drewN | apply IsS79.drew | apply IsS79.set_0 | refine IsS79.far ?_ NB0_207.out _ | refine IsS79.far ?_ NB0_208.out _) | exact HI0.out)) (Kd.R_x HO_209002.out) (by decide)) hk (fun _ h => h.2)) (fun _ h => h.1))
          have n3_ := Aside0.mk (KeepBut.blk hk (g' := gb207) (o := .cells #[.slice none 0 0, .int .i64 0, .slice none 0 0, .int .i64 0, .slice none 0 0] 26 (0, 0)) (blk_x BK207.out) NB207_0.out (by simp))
          have n4_ := Aside0.mk (KeepBut.blk hk (g' := gb208) (o := .cells #[.slice Ao101 x209000_1.length co101, .int .i64 t247, u209002, .int .i64 0, .slice none 0 0] 26 (0, 0)) (blk_x BK208.out) NB208_0.out (by simp))
          have n5_ := Aside0.mk (KeepBut.trans (by repeat (first | (with_reducible first | exact HK.out | apply KeepBut.set_ | apply keep_drewN | apply keep_drew | apply keep_alloc | refine keep_far ?_ GW207.out _ | refine keep_far ?_ GW208.out _) | exact HK.out)) hk (.inl rfl))
          have n6_ := Aside0.mk (hb)
          have n7_ := Aside0.mk (hi)
          clear HO_9 HO_209000 HO_209002 BK207 BK208 HK HB HI0
          have HO_9 := n0_
          have HO_209000 := n1_
          have HO_209002 := n2_
          have BK207 := n3_
          have BK208 := n4_
          have HK := n5_
          have HB := n6_
          have HI0 := n7_
          clear n0_ n1_ n2_ n3_ n4_ n5_ n6_ n7_
          (try clear hb)
          (try clear hb2)
          (try clear hk)
          (try clear hi)
          refine hK.out _ _ ⟨(blk_cell BK208.out 0).trans rfl, (blk_cell BK208.out 1).trans rfl, (blk_cell BK208.out 2).trans rfl, (blk_cell BK208.out 3).trans rfl, (blk_cell BK208.out 4).trans rfl, HS5_⟩ (fun hHeld => ?_)
          clear hK K
          refine norm_ (a' := ?_) ?_ ?_
          rotate_left
          ·
           show Act.put _ (some 101) _ = _
           simp only [Act.put, List.setIfInBounds_toArray, List.set_cons_zero, List.set_cons_succ, i64_w, i32_w]
           rfl
          refine pure_ (i := 9) (N := some 102) (v := ?_) (a' := ?_) (bz 15 1023) rfl rfl (any_of HT_.out (by kernel_rfl)) (fun _ _ _ h => h) (Or.inl ⟨by rfl, ?_⟩) ?_ ?_
          rotate_left
          ·
           intro w'
           go_simp
           with_reducible rfl
          rotate_left
          ·
           simp only [Act.put, List.setIfInBounds_toArray, List.set_cons_zero, List.set_cons_succ, i64_w, i32_w]
           rfl
          refine pure_ (i := 10) (N := some 103) (v := ?_) (a' := ?_) (bz 15 2047) rfl rfl (any_of HT_.out (by kernel_rfl)) (fun _ _ _ h => h) (Or.inl ⟨by rfl, ?_⟩) ?_ ?_
          rotate_left
          ·
           intro w'
           go_simp
           with_reducible rfl
          rotate_left
          ·
           simp only [Act.put, List.setIfInBounds_toArray, List.set_cons_zero, List.set_cons_succ, i64_w, i32_w]
           rfl
          refine one_ (i := 11) (N := some 104) (bz 15 4095) rfl rfl (one_of HT_.out (by kernel_rfl)) (by decide) (fun K hK => ?_)
          refine value_ (w1 := ?_) (v := ?_) (by rfl) rfl ?_ ?_
          rotate_left 2
          ·
           go_simp
           constructor
           ·
            rfl
           ·
            rfl
          refine hK.out _ _ ⟨(blk_cell (blk_alloc BK208.out _) 0).trans rfl, (blk_cell (blk_alloc BK208.out _) 1).trans rfl, (blk_cell (blk_alloc BK208.out _) 2).trans rfl, (blk_cell (blk_alloc BK208.out _) 3).trans rfl, (blk_cell (blk_alloc BK208.out _) 4).trans rfl, (World.cell?_alloc_lt _ _ _ (World.block_lt_of_cell? _ _ (hHeld.2.2.2.2.2))).trans (hHeld.2.2.2.2.2)⟩ (fun hHeld => ?_)
          clear hK K
          refine norm_ (a' := ?_) ?_ ?_
          rotate_left
          ·
           show Act.put _ (some 104) _ = _
           simp only [Act.put, List.setIfInBounds_toArray, List.set_cons_zero, List.set_cons_succ, i64_w, i32_w]
           rfl
          refine one_ (i := 12) (N := some 105) (bz 15 8191) rfl rfl (one_of HT_.out (by kernel_rfl)) (by decide) (fun K hK => ?_)
          refine Kd.R_append_step k61 w.heap.size (by rfl) (.tmp 94) (.tmp 104) 23 61 (.agg #[(.int .i64 0), (.bool false)]) 16 rfl Try.underlying23 info61 rfl (by decide) (by omega) u209002 x209002_2 (⟨t251, ((rdOf false x9_1 t251) != t254)⟩ : S61) [.int .i64 t251, .bool ((rdOf false x9_1 t251) != t254)] (fun _ => True) (fun _ => False) rfl rfl ?aP (fun _ hk => hk.elim) ?aF ?aO (Below.refl _ _) ?aS ?aL ?_
          (case aP => exact k61_mkM _ _ _ (⟨t251, ((rdOf false x9_1 t251) != t254)⟩ : S61))
          (case aF => exact (fun _ _ => trivial))
          (case aO => exact (Kd.R_x HO_209002.out))
          (case aS => exact (keep_size (w := w) (g := g) (row := none) (by repeat (first | (with_reducible first | exact HK.out | apply KeepBut.set_ | apply keep_drewN | apply keep_drew | apply keep_alloc | refine keep_far ?_ GW207.out _ | refine keep_far ?_ GW208.out _) | exact HK.out))))
          (case aL => have := LMc97.out; omega)
          intro v257 w106 ho hb hg hat
          (first | have HS5_ := cell_grown hg (hHeld.2.2.2.2.2) (by first | exact (by obtain ⟨_, hz_⟩ := Kd.R_typed HO_9.out _ rfl; exact Kd.R_ne HO_209002.out hz_ (by decide)) | (rw [add_block]; exact (by obtain ⟨_, hz_⟩ := Kd.R_typed HO_9.out _ rfl; exact Kd.R_ne HO_209002.out hz_ (by decide))) | (show some (Addr.add _ _).block ≠ _; rw [add_block]; exact (by obtain ⟨_, hz_⟩ := Kd.R_typed HO_9.out _ rfl; exact Kd.R_ne HO_209002.out hz_ (by decide)))) | have HS5_ := cell_grown hg (cell_unalloc (hHeld.2.2.2.2.2) (by first | exact (by obtain ⟨_, hz_⟩ := Kd.R_typed HO_9.out _ rfl; exact blk_lt hz_) | (rw [add_block]; exact (by obtain ⟨_, hz_⟩ := Kd.R_typed HO_9.out _ rfl; exact blk_lt hz_)) | (show (Addr.add _ _).block < _; rw [add_block]; exact (by obtain ⟨_, hz_⟩ := Kd.R_typed HO_9.out _ rfl; exact blk_lt hz_)))) (by first | exact (by obtain ⟨_, hz_⟩ := Kd.R_typed HO_9.out _ rfl; exact Kd.R_ne HO_209002.out hz_ (by decide)) | (rw [add_block]; exact (by obtain ⟨_, hz_⟩ := Kd.R_typed HO_9.out _ rfl; exact Kd.R_ne HO_209002.out hz_ (by decide))) | (show some (Addr.add _ _).block ≠ _; rw [add_block]; exact (by obtain ⟨_, hz_⟩ := Kd.R_typed HO_9.out _ rfl; exact Kd.R_ne HO_209002.out hz_ (by decide)))))
          rw [← Ny256.out] at ho
          have n0_ := Aside0.mk (Kd.R_over' (Kd.R_x HO_9.out) (Kd.R_typed (Kd.R_x HO_209002.out)) (by decide) hg)
          have n1_ := Aside0.mk (Kd.S_over' (Kd.S_x HO_209000.out) (Kd.R_typed (Kd.R_x HO_209002.out)) (by decide) hg)
          have n2_ := Aside0.mk (blk_grown (g := gb207) (o := .cells #[.slice none 0 0, .int .i64 0, .slice none 0 0, .int .i64 0, .slice none 0 0] 26 (0, 0)) (blk_x BK207.out) hg (Kd.R_ne HO_209002.out BK207.out (by decide)))
          have n3_ := Aside0.mk (blk_grown (g := gb208) (o := .cells #[.slice Ao101 x209000_1.length co101, .int .i64 t247, u209002, .int .i64 0, .slice none 0 0] 26 (0, 0)) (blk_x BK208.out) hg (Kd.R_ne HO_209002.out BK208.out (by decide)))
          have n4_ := Aside0.mk (IsS79.grown (by repeat (first | (with_reducible first | exact HI0.out | apply IsS79.alloc | apply IsS79.drewN | apply IsS79.drew | apply IsS79.set_0 | refine IsS79.far ?_ NB0_207.out _ | refine IsS79.far ?_ NB0_208.out _) | exact HI0.out)) hg (IsS79.own_ne HI0.out HO_209002.out (by decide)))
          have n5_ := Aside0.mk (below_weaken (by repeat (first | (with_reducible first | exact HB.out | apply below_alloc | apply pw_below_drewN | apply below_drew1 | refine below_set ?_ (IsS79.ge HI0.out) | refine below_set ?_ GE207.out | refine below_set ?_ GE208.out) | exact HB.out)) HL.out hb)
          have n6_ := Aside0.mk (KeepBut.trans (by repeat (first | (with_reducible first | exact HK.out | apply KeepBut.set_ | apply keep_drewN | apply keep_drew | apply keep_alloc | refine keep_far ?_ GW207.out _ | refine keep_far ?_ GW208.out _) | exact HK.out)) (KeepBut.of_grown hg g) (Kd.R_base2 HO_209002.out))
          have n7_ := Aside0.mk (ho)
          clear HO_9 HO_209000 BK207 BK208 HI0 HB HK HO_209002
          have HO_9 := n0_
          have HO_209000 := n1_
          have BK207 := n2_
          have BK208 := n3_
          have HI0 := n4_
          have HB := n5_
          have HK := n6_
          have HO258 := n7_
          clear n0_ n1_ n2_ n3_ n4_ n5_ n6_ n7_ ho hb hg hat
          obtain ⟨Ao107, co107, eo107⟩ := Kd.R_slice HO258.out
          (first | subst eo107 | (injection eo107 with f1_ f2_ f3_; have f4_ := f1_.symm; have f5_ := f3_.symm; clear f1_ f2_ f3_; subst f4_; subst f5_))
          refine hK.out _ _ ⟨(blk_cell BK208.out 0).trans rfl, (blk_cell BK208.out 1).trans rfl, (blk_cell BK208.out 2).trans rfl, (blk_cell BK208.out 3).trans rfl, (blk_cell BK208.out 4).trans rfl, HS5_⟩ (fun hHeld => ?_)
          clear hK K
          refine norm_ (a' := ?_) ?_ ?_
          rotate_left
          ·
           show Act.put _ (some 105) _ = _
           simp only [Act.put, List.setIfInBounds_toArray, List.set_cons_zero, List.set_cons_succ, i64_w, i32_w]
           rfl
          refine pure_ (i := 13) (N := some 106) (v := ?_) (a' := ?_) (bz 15 16383) rfl rfl (any_of HT_.out (by kernel_rfl)) (fun _ _ _ h => h) (Or.inl ⟨by rfl, ?_⟩) ?_ ?_
          rotate_left
          ·
           intro w'
           go_simp
           with_reducible rfl
          rotate_left
          ·
           simp only [Act.put, List.setIfInBounds_toArray, List.set_cons_zero, List.set_cons_succ, i64_w, i32_w]
           rfl
          refine last_ (i := 14) (N := none) (bz 15 32767) rfl rfl (one_of HT_.out (by kernel_rfl)) (by decide) (fun K hK => ?_)
          have hs108 : w106.cell? ⟨gb208, 2, none⟩ = some (u209002) := (blk_cell BK208.out 2).trans rfl
          have hfs108 := blk_frozen BK208.out 2
          have hns108_0 := NB207_208.out
          have hms108_0 := NB208_207.out
          refine skip_ (w1 := ?_) (by rfl) rfl ?_ ?_
          rotate_left
          ·
           go_simp
           rfl
          refine hK.out _ _ ?_
          clear hK K
          refine done_ (done_of HT_.out (by kernel_rfl)) ?_
          try go_wp2
          go_roundg k2
          case measure => have := HK1.out; have := HK2.out; omega
          case rel => exact ⟨(wrap64 (x15_2 - 1)), (t255), (y256), (.slice Ao107 y256.length co107), (by first | rfl | (simp; done) | (simp [*]; done)), H', ⟨by have := HK1.out; have := HK2.out; omega⟩, ⟨by (with_reducible repeat (first | apply Kd.R_alloc | apply Kd.R_drewN | apply Kd.R_drew)); exact Kd.R_mono (Kd.R_far (p := ⟨gb208, 2, none⟩) (Kd.R_types HO_9.out BK208.out (by decide)) (fun _ hk => hk.2) (.slice Ao107 y256.length co107)) (fun _ hk => trivial)⟩, ⟨by (with_reducible repeat (first | apply Kd.S_alloc | apply Kd.S_drewN | apply Kd.S_drew)); exact Kd.S_mono (Kd.S_far (p := ⟨gb208, 2, none⟩) (Kd.S_types HO_209000.out BK208.out (by decide)) (fun _ hk => hk.2) (.slice Ao107 y256.length co107)) (fun _ hk => trivial)⟩, ⟨by (with_reducible repeat (first | apply Kd.R_alloc | apply Kd.R_drewN | apply Kd.R_drew)); exact Kd.R_mono (Kd.R_far (p := ⟨gb208, 2, none⟩) (Kd.R_types HO258.out BK208.out (by decide)) (fun _ hk => hk.2) (.slice Ao107 y256.length co107)) (fun _ hk => trivial)⟩, ⟨by (with_reducible repeat (first | refine blk_drewN ?_ _ | refine blk_drew ?_ | refine blk_alloc ?_ _)); refine blk_far ?_ NB207_208.out _; (with_reducible repeat (first | refine blk_drewN ?_ _ | refine blk_drew ?_ | refine blk_alloc ?_ _)); exact BK207.out⟩, ⟨by (with_reducible repeat (first | refine blk_drewN ?_ _ | refine blk_drew ?_ | refine blk_alloc ?_ _)); refine blk_put (cs := #[.slice Ao101 x209000_1.length co101, .int .i64 t247, u209002, .int .i64 0, .slice none 0 0]) ?_ 2 _ rfl; (with_reducible repeat (first | refine blk_drewN ?_ _ | refine blk_drew ?_ | refine blk_alloc ?_ _)); exact BK208.out⟩, ⟨by repeat (first | (with_reducible first | exact HI0.out | apply IsS79.alloc | apply IsS79.drewN | apply IsS79.drew | apply IsS79.set_0 | refine IsS79.far ?_ NB0_207.out _ | refine IsS79.far ?_ NB0_208.out _) | exact HI0.out)⟩, ⟨by repeat (first | (with_reducible first | exact HK.out | apply KeepBut.set_ | apply keep_drewN | apply keep_drew | apply keep_alloc | refine keep_far ?_ GW207.out _ | refine keep_far ?_ GW208.out _) | exact HK.out)⟩, ⟨by repeat (first | (with_reducible first | exact HB.out | apply below_alloc | apply pw_below_drewN | apply below_drew1 | refine below_set ?_ (IsS79.ge HI0.out) | refine below_set ?_ GE207.out | refine below_set ?_ GE208.out) | exact HB.out)⟩⟩
         ·
          rw [if_neg c97] at H
          exact absurd H (by simp)
        ·
         rw [if_neg c95] at H
         exact absurd H (by simp)
       ·
        rw [if_neg c94] at H
        exact absurd H (by simp)
      ·
       rw [if_neg c92] at H
       have c92b0 : decide (0 < x15_2) = false := decide_eq_false c92
       clear c92
       replace H := Option.bind_eq_some_iff.mp H
       obtain ⟨t259, A1090, H⟩ := H
       replace H : ((swarfkit_Feed_Either.f x1000_2 (([0, 0, 1] : List Int))).bind fun bt263 => (swarfkit_CarOf.l3 k2 x9_1 0 bt263.2 x209000_1 t247 x209002_2 (mn 12 (wrap64 (t259 + bt263.1))) ([] : List Int))) = some (r1, r2, r3, r4, r5, r6, r7) := H
       have A109 := Aside0.mk A1090
       clear A1090
       obtain ⟨y260, hy260⟩ : ∃ y_ : List Int, y_ = (([0, 0, 1] : List Int)) := ⟨_, rfl⟩
       replace H : ((swarfkit_Feed_Either.f x1000_2 y260).bind fun bt263 => (swarfkit_CarOf.l3 k2 x9_1 0 bt263.2 x209000_1 t247 x209002_2 (mn 12 (wrap64 (t259 + bt263.1))) ([] : List Int))) = some (r1, r2, r3, r4, r5, r6, r7) := by first | (rw [hy260]; with_reducible exact H) | (have H2_ := (Option.bind_some _ _).symm.trans H; rw [hy260]; with_reducible exact H2_) | (have H2_ := (Option.bind_some _ _).symm.trans H; with_reducible exact H2_) | with_reducible exact H | (rw [hy260]; exact H) | exact H
       have Ny260 := Aside0.mk hy260
       clear hy260
       replace H := Option.bind_eq_some_iff.mp H
       obtain ⟨⟨t263, t264⟩, A1100, H⟩ := H
       replace H : (swarfkit_CarOf.l3 k2 x9_1 0 t264 x209000_1 t247 x209002_2 (mn 12 (wrap64 (t259 + t263))) ([] : List Int)) = some (r1, r2, r3, r4, r5, r6, r7) := H
       have A110 := Aside0.mk A1100
       clear A1100
       obtain ⟨ji111, hji111⟩ : ∃ j_ : Int, (mn 12 (wrap64 (t259 + t263))) = j_ := ⟨_, rfl⟩
       replace H : (swarfkit_CarOf.l3 k2 x9_1 0 t264 x209000_1 t247 x209002_2 ji111 ([] : List Int)) = some (r1, r2, r3, r4, r5, r6, r7) := by first | (rw [hji111] at H; exact H) | (simp only [hji111] at H ⊢; exact H)
       (try rw [hji111] at A109)
       (try rw [hji111] at A110)
       (try (have hji111h : ji111 ≤ 12 := by (rw [← hji111]; unfold mn; (repeat' split) <;> omega)))
       (try (have hji111g : ji111 ≤ 64 := by omega))
       have hji111_ : (if (wrap64 (t259 + t263)) < 12 then (wrap64 (t259 + t263)) else 12) = ji111 := hji111
       have H' := Aside0.mk H
       clear H
       have hnb112 := NB208_207.out
       have hnc112 := NB207_208.out
       have hnb113 := NB208_0.out
       have hnc113 := NB0_208.out
       have hcz114_0 : wr.cell? ⟨gb208, 0, none⟩ = some (u209000) := (blk_cell BK208.out 0).trans rfl
       have hcz114_1 : wr.cell? ⟨gb208, 1, none⟩ = some (.int .i64 t247) := (blk_cell BK208.out 1).trans rfl
       have hcz114_2 : wr.cell? ⟨gb208, 2, none⟩ = some (u209002) := (blk_cell BK208.out 2).trans rfl
       have hcz114_3 : wr.cell? ⟨gb208, 3, none⟩ = some (.int .i64 0) := (blk_cell BK208.out 3).trans rfl
       have hcz114_4 : wr.cell? ⟨gb208, 4, none⟩ = some (.slice none 0 0) := (blk_cell BK208.out 4).trans rfl
       have hfz114_0 := blk_frozen BK208.out 0
       have hfz114_1 := blk_frozen BK208.out 1
       have hfz114_2 := blk_frozen BK208.out 2
       have hfz114_3 := blk_frozen BK208.out 3
       have hfz114_4 := blk_frozen BK208.out 4
       obtain ⟨Ao115, co115, eo115⟩ := Kd.S_slice HO_209000.out
       subst eo115
       obtain ⟨Ao116, co116, eo116⟩ := Kd.R_slice HO_209002.out
       subst eo116
       obtain ⟨Ao117, co117, eo117⟩ := Kd.R_slice HO_9.out
       subst eo117
       go_wp2_with (first | ((with_reducible refine gate_callee (f := 28) rfl ?_); refine goesL_ (some 109) rfl rfl Try.func28 (by kernel_rfl) rfl #[.agg #[.slice Ao115 x209000_1.length co115, .int .i64 t247, .slice Ao116 x209002_2.length co116, .int .i64 0, .slice none 0 0], .slice Ao117 x9_1.length co117] rfl (by (try simp only [List.map_toArray, List.map_cons, List.map_nil]); first | done | rfl | (simp only [List.length_drop, List.length_take]; rfl)) ?_; (refine (swarfref04_Wrongs.calls k2 _ _ x209000_1 t247 _ _ x209002_2 0 _ _ ([] : List Int) _ _ x9_1 t259 _ ?side1 ?side2 ?side3 ?side4 ?side5 ?side6 ?side7 ?side8 A109.out).mono ?_); (case side1 => repeat (first | exact (Kd.S_reads' HO_209000.out).2.2 | (with_reducible refine Kd.C_alloc ?_ _) | (with_reducible refine Kd.C_drewN ?_ _) | (with_reducible refine Kd.C_drew ?_))); (case side2 => exact (Kd.S_reads' HO_209000.out).2.1); (case side3 => repeat (first | exact (Kd.R_reads' HO_209002.out).2.2 | (with_reducible refine Kd.C_alloc ?_ _) | (with_reducible refine Kd.C_drewN ?_ _) | (with_reducible refine Kd.C_drew ?_))); (case side4 => exact (Kd.R_reads' HO_209002.out).2.1); (case side5 => exact Kd.C_nil _ _); (case side6 => exact Nat.le_refl _); (case side7 => repeat (first | exact (Kd.R_reads' HO_9.out).2.2 | (with_reducible refine Kd.C_alloc ?_ _) | (with_reducible refine Kd.C_drewN ?_ _) | (with_reducible refine Kd.C_drew ?_))); (case side8 => exact (Kd.R_reads' HO_9.out).2.1); rintro e w118 ⟨rfl, hb⟩; refine ⟨_, rfl, ?_⟩; have n0_ := Aside0.mk (Kd.R_below (Kd.R_x HO_9.out) hb); have n1_ := Aside0.mk (Kd.S_below (Kd.S_x HO_209000.out) hb); have n2_ := Aside0.mk (Kd.R_below (Kd.R_x HO_209002.out) hb); have n3_ := Aside0.mk (blk_below (g := gb207) (o := .cells #[.slice none 0 0, .int .i64 0, .slice none 0 0, .int .i64 0, .slice none 0 0] 26 (0, 0)) (blk_x BK207.out) hb); have n4_ := Aside0.mk (blk_below (g := gb208) (o := .cells #[.slice Ao115 x209000_1.length co115, .int .i64 t247, .slice Ao116 x209002_2.length co116, .int .i64 0, .slice none 0 0] 26 (0, 0)) (blk_x BK208.out) hb); have n5_ := Aside0.mk (IsS79.below (by repeat (first | (with_reducible first | exact HI0.out | apply IsS79.alloc | apply IsS79.drewN | apply IsS79.drew | apply IsS79.set_0 | refine IsS79.far ?_ NB0_207.out _ | refine IsS79.far ?_ NB0_208.out _) | exact HI0.out)) hb); have n6_ := Aside0.mk (KeepBut.trans (by repeat (first | (with_reducible first | exact HK.out | apply KeepBut.set_ | apply keep_drewN | apply keep_drew | apply keep_alloc | refine keep_far ?_ GW207.out _ | refine keep_far ?_ GW208.out _) | exact HK.out)) (KeepBut.of_below hb g none) (.inl rfl)); have n7_ := Aside0.mk (below_step (by repeat (first | (with_reducible first | exact HB.out | apply below_alloc | apply pw_below_drewN | apply below_drew1 | refine below_set ?_ (IsS79.ge HI0.out) | refine below_set ?_ GE207.out | refine below_set ?_ GE208.out) | exact HB.out)) hb); clear HO_9; clear HO_209000; clear HO_209002; clear BK207; clear BK208; clear HI0; clear HK; clear HB; have HO_9 := n0_; have HO_209000 := n1_; have HO_209002 := n2_; have BK207 := n3_; have BK208 := n4_; have HI0 := n5_; have HK := n6_; have HB := n7_; clear n0_ n1_ n2_ n3_ n4_ n5_ n6_ n7_; (try clear hb); (try clear hb2); (try clear hk); (try clear hi)) | ((with_reducible refine gate_dst (N := 111) rfl ?_); (try (refine gate_guard (by rfl) ?_; dsimp only)); refine Kd.R_lit (Kd.int .i64) _ 3 ?hg (N := 111) ?hd (xs := ([0, 0, 1] : List Int)) (inner := [.int .i64 0, .int .i64 0, .int .i64 1]) (ok := fun _ => True) (okp := fun _ => True) ?hr ?hp (fun _ hk => hk) trivial (Below.refl _ _) (Nat.le_refl _) (by simp) ?_; (case hd => rfl); (case hg => rfl); (case hr => first | (go_simp; done) | (go_simp; rfl)); (case hp => exact (Reps.one (show Kd.M (Kd.int .i64) _ _ _ 0 [.int .i64 0] from rfl) (Reps.one (show Kd.M (Kd.int .i64) _ _ _ 0 [.int .i64 0] from rfl) (Reps.one (show Kd.M (Kd.int .i64) _ _ _ 1 [.int .i64 1] from rfl) (Reps.none _ _))))); intro v261 w119 ho120 hb hg_ hnew_; clear hg_ hnew_; (first | rw [← Ny260.out] at ho120 | (simp only [Int.reduceToNat] at ho120; rw [← Ny260.out] at ho120)); have n0_ := Aside0.mk (Kd.R_below (Kd.R_x HO_9.out) hb); have n1_ := Aside0.mk (Kd.S_elder' (Kd.S_x HO_209000.out) (Kd.R_base ho120) hb); have n2_ := Aside0.mk (Kd.R_below (Kd.R_x HO_209002.out) hb); have n3_ := Aside0.mk (Kd.R_lower ho120 (keep_size (w := w) (g := g) (row := none) (by repeat (first | (with_reducible first | exact HK.out | apply KeepBut.set_ | apply keep_drewN | apply keep_drew | apply keep_alloc | refine keep_far ?_ GW207.out _ | refine keep_far ?_ GW208.out _) | exact HK.out)))); have n4_ := Aside0.mk (blk_below (g := gb207) (o := .cells #[.slice none 0 0, .int .i64 0, .slice none 0 0, .int .i64 0, .slice none 0 0] 26 (0, 0)) (blk_x BK207.out) hb); have n5_ := Aside0.mk (blk_below (g := gb208) (o := .cells #[.slice Ao115 x209000_1.length co115, .int .i64 t247, .slice Ao116 x209002_2.length co116, .int .i64 0, .slice none 0 0] 26 (0, 0)) (blk_x BK208.out) hb); have n6_ := Aside0.mk (IsS79.below (by repeat (first | (with_reducible first | exact HI0.out | apply IsS79.alloc | apply IsS79.drewN | apply IsS79.drew | apply IsS79.set_0 | refine IsS79.far ?_ NB0_207.out _ | refine IsS79.far ?_ NB0_208.out _) | exact HI0.out)) hb); have n7_ := Aside0.mk (KeepBut.trans (by repeat (first | (with_reducible first | exact HK.out | apply KeepBut.set_ | apply keep_drewN | apply keep_drew | apply keep_alloc | refine keep_far ?_ GW207.out _ | refine keep_far ?_ GW208.out _) | exact HK.out)) (KeepBut.of_below hb g none) (.inl rfl)); have n8_ := Aside0.mk (below_step (by repeat (first | (with_reducible first | exact HB.out | apply below_alloc | apply pw_below_drewN | apply below_drew1 | refine below_set ?_ (IsS79.ge HI0.out) | refine below_set ?_ GE207.out | refine below_set ?_ GE208.out) | exact HB.out)) hb); clear HO_9; clear HO_209000; clear HO_209002; clear BK207; clear BK208; clear HI0; clear HK; clear HB; have HO_9 := n0_; have HO_209000 := n1_; have HO_209002 := n2_; have HO262 := n3_; have BK207 := n4_; have BK208 := n5_; have HI0 := n6_; have HK := n7_; have HB := n8_; clear n0_ n1_ n2_ n3_ n4_ n5_ n6_ n7_ n8_; clear hb ho120; obtain ⟨Ao121, co121, eo121⟩ := Kd.R_slice HO262.out; subst eo121) | ((with_reducible refine gate_callee (f := 24) rfl ?_); refine goesL_ (some 112) rfl rfl Try.func24 (by kernel_rfl) rfl #[.pointer (some ⟨g, 0, none⟩), .slice Ao121 y260.length co121] rfl (by (try simp only [List.map_toArray, List.map_cons, List.map_nil]); first | done | rfl | (simp only [List.length_drop, List.length_take]; rfl)) ?_; (with_reducible refine (swarfkit_Feed_Either.calls g x1000_2 _ _ y260 t263 t264 w0 _ ?side1 ?side2 ?side3 ?side4 ?side5 A110.out).mono ?_); (case side1 => repeat (first | (with_reducible first | exact HI0.out | apply IsS79.alloc | apply IsS79.drewN | apply IsS79.drew | apply IsS79.set_0 | refine IsS79.far ?_ NB0_207.out _ | refine IsS79.far ?_ NB0_208.out _) | exact HI0.out)); (case side2 => repeat (first | (with_reducible first | exact HB.out | apply below_alloc | apply pw_below_drewN | apply below_drew1 | refine below_set ?_ (IsS79.ge HI0.out) | refine below_set ?_ GE207.out | refine below_set ?_ GE208.out) | exact HB.out)); (case side3 => repeat (first | exact (Kd.R_reads' HO262.out).2.2 | (with_reducible refine Kd.C_alloc ?_ _) | (with_reducible refine Kd.C_drewN ?_ _) | (with_reducible refine Kd.C_drew ?_))); (case side4 => exact (Kd.R_reads' HO262.out).2.1); (case side5 => exact far_slice (IsS79.own_ne HI0.out HO262.out (by decide))); rintro e w122 ⟨rfl, hi, hb, hk⟩; refine ⟨_, rfl, ?_⟩; have n0_ := Aside0.mk (Kd.R_mono (Kd.R_keep (IsS79.apart (show IsS79 w0 _ g x1000_2 from by repeat (first | (with_reducible first | exact HI0.out | apply IsS79.alloc | apply IsS79.drewN | apply IsS79.drew | apply IsS79.set_0 | refine IsS79.far ?_ NB0_207.out _ | refine IsS79.far ?_ NB0_208.out _) | exact HI0.out)) (Kd.R_x HO_9.out) (by decide)) hk (fun _ h => h.2)) (fun _ h => h.1)); have n1_ := Aside0.mk (Kd.S_mono (Kd.S_keep (IsS79.apartS (show IsS79 w0 _ g x1000_2 from by repeat (first | (with_reducible first | exact HI0.out | apply IsS79.alloc | apply IsS79.drewN | apply IsS79.drew | apply IsS79.set_0 | refine IsS79.far ?_ NB0_207.out _ | refine IsS79.far ?_ NB0_208.out _) | exact HI0.out)) (Kd.S_x HO_209000.out) (by decide)) hk (fun _ h => h.2)) (fun _ h => h.1)); have n2_ := Aside0.mk (Kd.R_mono (Kd.R_keep (IsS79.apart (show IsS79 w0 _ g x1000_2 from by repeat (first | (with_reducible first | exact HI0.out | apply IsS79.alloc | apply IsS79.drewN | apply IsS79.drew | apply IsS79.set_0 | refine IsS79.far ?_ NB0_207.out _ | refine IsS79.far ?_ NB0_208.out _) | exact HI0.out)) (Kd.R_x HO_209002.out) (by decide)) hk (fun _ h => h.2)) (fun _ h => h.1)); have n3_ := Aside0.mk (KeepBut.blk hk (g' := gb207) (o := .cells #[.slice none 0 0, .int .i64 0, .slice none 0 0, .int .i64 0, .slice none 0 0] 26 (0, 0)) (blk_x BK207.out) NB207_0.out (by simp)); have n4_ := Aside0.mk (KeepBut.blk hk (g' := gb208) (o := .cells #[.slice Ao115 x209000_1.length co115, .int .i64 t247, .slice Ao116 x209002_2.length co116, .int .i64 0, .slice none 0 0] 26 (0, 0)) (blk_x BK208.out) NB208_0.out (by simp)); have n5_ := Aside0.mk (Kd.R_mono (Kd.R_keep (IsS79.apart (show IsS79 w0 _ g x1000_2 from by repeat (first | (with_reducible first | exact HI0.out | apply IsS79.alloc | apply IsS79.drewN | apply IsS79.drew | apply IsS79.set_0 | refine IsS79.far ?_ NB0_207.out _ | refine IsS79.far ?_ NB0_208.out _) | exact HI0.out)) (Kd.R_x HO262.out) (by decide)) hk (fun _ h => h.2)) (fun _ h => h.1)); have n6_ := Aside0.mk (KeepBut.trans (by repeat (first | (with_reducible first | exact HK.out | apply KeepBut.set_ | apply keep_drewN | apply keep_drew | apply keep_alloc | refine keep_far ?_ GW207.out _ | refine keep_far ?_ GW208.out _) | exact HK.out)) hk (.inl rfl)); have n7_ := Aside0.mk (hb); have n8_ := Aside0.mk (hi); clear HO_9; clear HO_209000; clear HO_209002; clear BK207; clear BK208; clear HO262; clear HK; clear HB; clear HI0; have HO_9 := n0_; have HO_209000 := n1_; have HO_209002 := n2_; have BK207 := n3_; have BK208 := n4_; have HO262 := n5_; have HK := n6_; have HB := n7_; have HI0 := n8_; clear n0_ n1_ n2_ n3_ n4_ n5_ n6_ n7_ n8_; (try clear hb); (try clear hb2); (try clear hk); (try clear hi); have hcz123_0 : w122.cell? ⟨gb208, 0, none⟩ = some (.slice Ao115 x209000_1.length co115) := (blk_cell BK208.out 0).trans rfl; have hcz123_1 : w122.cell? ⟨gb208, 1, none⟩ = some (.int .i64 t247) := (blk_cell BK208.out 1).trans rfl; have hcz123_2 : w122.cell? ⟨gb208, 2, none⟩ = some (.slice Ao116 x209002_2.length co116) := (blk_cell BK208.out 2).trans rfl; have hcz123_3 : w122.cell? ⟨gb208, 3, none⟩ = some (.int .i64 0) := (blk_cell BK208.out 3).trans rfl; have hcz123_4 : w122.cell? ⟨gb208, 4, none⟩ = some (.slice none 0 0) := (blk_cell BK208.out 4).trans rfl; have hfz123_0 := blk_frozen BK208.out 0; have hfz123_1 := blk_frozen BK208.out 1; have hfz123_2 := blk_frozen BK208.out 2; have hfz123_3 := blk_frozen BK208.out 3; have hfz123_4 := blk_frozen BK208.out 4))
       go_loopg [17] k2 (fun kq v17 w' => ∃ (x17_3 : Int) (x1000_3 : Int) (x209004_3 : List Int) (u209004 : Value), v17 = .int .i64 x17_3 ∧ Aside0 (swarfkit_CarOf.l3 kq x9_1 x17_3 x1000_3 x209000_1 t247 x209002_2 ji111 x209004_3 = some (r1, r2, r3, r4, r5, r6, r7)) ∧ Aside0 (kq ≤ k2) ∧ Aside0 (Kd.R Kd.bool 4 w' w.heap.size (fun _ => True) (.slice Ao117 x9_1.length co117) x9_1) ∧ Aside0 (Kd.S k50 50 w' w.heap.size (fun k_ => some k_ ≠ (u209004 : Value).ownBlock) (.slice Ao115 x209000_1.length co115) x209000_1) ∧ Aside0 (Kd.R k61 61 w' w.heap.size (fun _ => True) (.slice Ao116 x209002_2.length co116) x209002_2) ∧ Aside0 (Kd.R (Kd.int .i64) 3 w' w.heap.size (fun _ => True) u209004 x209004_3) ∧ Aside0 (w'.heap[gb207]? = some (.cells #[(.slice none 0 0), .int .i64 0, (.slice none 0 0), .int .i64 0, (.slice none 0 0)] 26 (0, 0))) ∧ Aside0 (w'.heap[gb208]? = some (.cells #[(.slice Ao115 x209000_1.length co115), .int .i64 t247, (.slice Ao116 x209002_2.length co116), .int .i64 ji111, u209004] 26 (0, 0))) ∧ Aside0 (IsS79 w0 w' g x1000_3) ∧ Aside0 (KeepBut w w' g none) ∧ Aside0 (Below w0.heap.size w0 w'))
       case atStart => exact ⟨(0), (t264), (([] : List Int)), (.slice none 0 0), (by first | rfl | (simp; done) | (simp [*]; done)), H', ⟨Nat.le_refl _⟩, ⟨by (with_reducible repeat (first | apply Kd.R_alloc | apply Kd.R_drewN | apply Kd.R_drew)); exact Kd.R_mono (Kd.R_far (p := ⟨gb208, 3, none⟩) (Kd.R_types HO_9.out BK208.out (by decide)) (fun _ hk => hk.2) (.int .i64 ji111)) (fun _ hk => trivial)⟩, ⟨by (with_reducible repeat (first | apply Kd.S_alloc | apply Kd.S_drewN | apply Kd.S_drew)); exact Kd.S_mono (Kd.S_far (p := ⟨gb208, 3, none⟩) (Kd.S_types HO_209000.out BK208.out (by decide)) (fun _ hk => hk.2) (.int .i64 ji111)) (fun _ hk => (by simp [Value.ownBlock]))⟩, ⟨by (with_reducible repeat (first | apply Kd.R_alloc | apply Kd.R_drewN | apply Kd.R_drew)); exact Kd.R_mono (Kd.R_far (p := ⟨gb208, 3, none⟩) (Kd.R_types HO_209002.out BK208.out (by decide)) (fun _ hk => hk.2) (.int .i64 ji111)) (fun _ hk => trivial)⟩, ⟨by first | exact Kd.R_nil _ _ _ _ _ | exact Kd.N_nil _ _ _ _ _ | exact Kd.V_nil _ _ _ _ _ | exact Kd.Q_nil _ _ _ _ _ | exact Kd.S_nil _ _ _ _ _⟩, ⟨by (with_reducible repeat (first | refine blk_drewN ?_ _ | refine blk_drew ?_ | refine blk_alloc ?_ _)); refine blk_far ?_ NB207_208.out _; (with_reducible repeat (first | refine blk_drewN ?_ _ | refine blk_drew ?_ | refine blk_alloc ?_ _)); exact BK207.out⟩, ⟨by (with_reducible repeat (first | refine blk_drewN ?_ _ | refine blk_drew ?_ | refine blk_alloc ?_ _)); refine blk_put (cs := #[.slice Ao115 x209000_1.length co115, .int .i64 t247, .slice Ao116 x209002_2.length co116, .int .i64 0, .slice none 0 0]) ?_ 3 _ rfl; (with_reducible repeat (first | refine blk_drewN ?_ _ | refine blk_drew ?_ | refine blk_alloc ?_ _)); exact BK208.out⟩, ⟨by repeat (first | (with_reducible first | exact HI0.out | apply IsS79.alloc | apply IsS79.drewN | apply IsS79.drew | apply IsS79.set_0 | refine IsS79.far ?_ NB0_207.out _ | refine IsS79.far ?_ NB0_208.out _) | exact HI0.out)⟩, ⟨by repeat (first | (with_reducible first | exact HK.out | apply KeepBut.set_ | apply keep_drewN | apply keep_drew | apply keep_alloc | refine keep_far ?_ GW207.out _ | refine keep_far ?_ GW208.out _) | exact HK.out)⟩, ⟨by repeat (first | (with_reducible first | exact HB.out | apply below_alloc | apply pw_below_drewN | apply below_drew1 | refine below_set ?_ (IsS79.ge HI0.out) | refine below_set ?_ GE207.out | refine below_set ?_ GE208.out) | exact HB.out)⟩⟩
       case round =>
        clear H'
        try clear c1
        try clear c2
        try clear p2
        try clear q2
        try clear hx2
        try clear c3
        try clear c4
        try clear c5
        try clear c6
        try clear p6
        try clear c7
        try clear c8
        try clear c8b0
        try clear c9
        try clear c11
        try clear c14
        try clear c15
        try clear c17
        try clear p23
        try clear q23
        try clear hx23
        try clear c24
        try clear c25
        try clear p25
        try clear q25
        try clear hx25
        try clear c27
        try clear c28
        try clear c29
        try clear c31
        try clear c31b0
        try clear c33
        try clear c34
        try clear c35
        try clear c36
        try clear c36b0
        try clear c37
        try clear c37b0
        try clear c46
        try clear c50
        try clear c51
        try clear c53
        try clear c54
        try clear c55
        try clear c56
        try clear c58
        try clear c59
        try clear p64
        try clear c67
        try clear c68
        try clear c69
        try clear c70
        try clear c72
        try clear c73
        try clear c88
        try clear c89
        try clear c92
        try clear c92b0
        try clear c94
        try clear c94b0
        try clear c95
        try clear c95b0
        try clear c97
        try clear c98
        try clear c99
        try clear c112
        try clear c113
        try clear hcz100_0
        try clear hcz100_1
        try clear hcz100_2
        try clear hcz100_3
        try clear hcz100_4
        try clear hcz114_0
        try clear hcz114_1
        try clear hcz114_2
        try clear hcz114_3
        try clear hcz114_4
        try clear hcz123_0
        try clear hcz123_1
        try clear hcz123_2
        try clear hcz123_3
        try clear hcz123_4
        try clear hcz16_0
        try clear hcz16_1
        try clear hcz16_2
        try clear hcz16_3
        try clear hcz16_4
        try clear hcz30_0
        try clear hcz30_1
        try clear hcz30_2
        try clear hcz30_3
        try clear hcz57_0
        try clear hcz57_1
        try clear hcz57_2
        try clear hcz57_3
        try clear hcz57_4
        try clear hcz60_0
        try clear hcz60_1
        try clear hcz60_2
        try clear hcz60_3
        try clear hcz66_0
        try clear hcz66_1
        try clear hcz66_2
        try clear hcz66_3
        try clear hcz66_4
        try clear hcz71_0
        try clear hcz71_1
        try clear hcz71_2
        try clear hcz71_3
        try clear hcz71_4
        try clear hcz74_0
        try clear hcz74_1
        try clear hcz74_2
        try clear hcz74_3
        try clear hcz79_0
        try clear hcz79_1
        try clear hcz79_2
        try clear hcz79_3
        try clear hcz79_4
        try clear hcz90_0
        try clear hcz90_1
        try clear hcz90_2
        try clear hcz90_3
        try clear hcz90_4
        try clear hfz100_0
        try clear hfz100_1
        try clear hfz100_2
        try clear hfz100_3
        try clear hfz100_4
        try clear hfz114_0
        try clear hfz114_1
        try clear hfz114_2
        try clear hfz114_3
        try clear hfz114_4
        try clear hfz123_0
        try clear hfz123_1
        try clear hfz123_2
        try clear hfz123_3
        try clear hfz123_4
        try clear hfz16_0
        try clear hfz16_1
        try clear hfz16_2
        try clear hfz16_3
        try clear hfz16_4
        try clear hfz30_0
        try clear hfz30_1
        try clear hfz30_2
        try clear hfz30_3
        try clear hfz57_0
        try clear hfz57_1
        try clear hfz57_2
        try clear hfz57_3
        try clear hfz57_4
        try clear hfz60_0
        try clear hfz60_1
        try clear hfz60_2
        try clear hfz60_3
        try clear hfz66_0
        try clear hfz66_1
        try clear hfz66_2
        try clear hfz66_3
        try clear hfz66_4
        try clear hfz71_0
        try clear hfz71_1
        try clear hfz71_2
        try clear hfz71_3
        try clear hfz71_4
        try clear hfz74_0
        try clear hfz74_1
        try clear hfz74_2
        try clear hfz74_3
        try clear hfz79_0
        try clear hfz79_1
        try clear hfz79_2
        try clear hfz79_3
        try clear hfz79_4
        try clear hfz90_0
        try clear hfz90_1
        try clear hfz90_2
        try clear hfz90_3
        try clear hfz90_4
        try clear hx230_0
        try clear hx253_0
        try clear p2
        try clear p23
        try clear p230
        try clear p253
        try clear p6
        try clear p64
        try clear q2
        try clear q23
        try clear q230
        try clear q253
        obtain ⟨x17_3, x1000_3, x209004_3, u209004, rfl, HA, HK3, HO_9, HO_209000, HO_209002, HO_209004, BK207, BK208, HI0, HK, HB⟩ := hrel
        cases gk with
        | zero => exact absurd HA.out (by simp [swarfkit_CarOf.l3])
        | succ k3 =>
         have H := HA.out
         clear HA
         simp only [swarfkit_CarOf.l3] at H
         have HC124 := Aside0.mk H
         clear H
         go_upto_region 23 with (fail)
         go_cut [123] (fun v123 wc => ∃ (kq : Nat) (x123_123 : Bool), v123 = .bool x123_123 ∧ Aside0 (swarfkit_CarOf.j4 kq x9_1 x17_3 x123_123 x1000_3 x209000_1 t247 x209002_2 ji111 x209004_3 = some (r1, r2, r3, r4, r5, r6, r7)) ∧ Aside0 (kq ≤ k3) ∧ Aside0 (Kd.R Kd.bool 4 wc w.heap.size (fun _ => True) (.slice Ao117 x9_1.length co117) x9_1) ∧ Aside0 (Kd.S k50 50 wc w.heap.size (fun k_ => some k_ ≠ (u209004 : Value).ownBlock) (.slice Ao115 x209000_1.length co115) x209000_1) ∧ Aside0 (Kd.R k61 61 wc w.heap.size (fun _ => True) (.slice Ao116 x209002_2.length co116) x209002_2) ∧ Aside0 (Kd.R (Kd.int .i64) 3 wc w.heap.size (fun _ => True) u209004 x209004_3) ∧ Aside0 (wc.heap[gb207]? = some (.cells #[(.slice none 0 0), .int .i64 0, (.slice none 0 0), .int .i64 0, (.slice none 0 0)] 26 (0, 0))) ∧ Aside0 (wc.heap[gb208]? = some (.cells #[(.slice Ao115 x209000_1.length co115), .int .i64 t247, (.slice Ao116 x209002_2.length co116), .int .i64 ji111, u209004] 26 (0, 0))) ∧ Aside0 (IsS79 w0 wc g x1000_3) ∧ Aside0 (KeepBut w wc g none) ∧ Aside0 (Below w0.heap.size w0 wc))
         case first =>
          have H := HC124.out
          clear HC124
          by_cases c125 : x17_3 ≤ 8
          ·
           rw [if_pos c125] at H
           have c125b0 : decide (x17_3 ≤ 8) = true := decide_eq_true c125
           clear c125
           (first | rw [c125b0] | (simp only [i64_w, i32_w]; rw [c125b0]) | skip)
           have H' := Aside0.mk H
           clear H
           have hnb126 := NB208_207.out
           have hnc126 := NB207_208.out
           have hnb127 := NB208_0.out
           have hnc127 := NB0_208.out
           have hcz128_0 : wr.cell? ⟨gb208, 0, none⟩ = some (.slice Ao115 x209000_1.length co115) := (blk_cell BK208.out 0).trans rfl
           have hcz128_1 : wr.cell? ⟨gb208, 1, none⟩ = some (.int .i64 t247) := (blk_cell BK208.out 1).trans rfl
           have hcz128_2 : wr.cell? ⟨gb208, 2, none⟩ = some (.slice Ao116 x209002_2.length co116) := (blk_cell BK208.out 2).trans rfl
           have hcz128_3 : wr.cell? ⟨gb208, 3, none⟩ = some (.int .i64 ji111) := (blk_cell BK208.out 3).trans rfl
           have hcz128_4 : wr.cell? ⟨gb208, 4, none⟩ = some (u209004) := (blk_cell BK208.out 4).trans rfl
           have hfz128_0 := blk_frozen BK208.out 0
           have hfz128_1 := blk_frozen BK208.out 1
           have hfz128_2 := blk_frozen BK208.out 2
           have hfz128_3 := blk_frozen BK208.out 3
           have hfz128_4 := blk_frozen BK208.out 4
           obtain ⟨Ao129, co129, eo129⟩ := Kd.R_slice HO_209004.out
           subst eo129
           go_wp2
           go_meet
           case rel => exact ⟨_, (decide ((x209004_3.length : Int) < 3)), (by first | rfl | (simp; done) | (simp [*]; done)), H', ⟨by have := HK1.out; have := HK2.out; have := HK3.out; first | omega | exact Nat.le_refl _⟩, ⟨by (with_reducible repeat (first | apply Kd.R_alloc | apply Kd.R_drewN | apply Kd.R_drew)); exact HO_9.out⟩, ⟨by (with_reducible repeat (first | apply Kd.S_alloc | apply Kd.S_drewN | apply Kd.S_drew)); exact HO_209000.out⟩, ⟨by (with_reducible repeat (first | apply Kd.R_alloc | apply Kd.R_drewN | apply Kd.R_drew)); exact HO_209002.out⟩, ⟨by (with_reducible repeat (first | apply Kd.R_alloc | apply Kd.R_drewN | apply Kd.R_drew)); exact HO_209004.out⟩, ⟨by (with_reducible repeat (first | refine blk_drewN ?_ _ | refine blk_drew ?_ | refine blk_alloc ?_ _)); exact BK207.out⟩, ⟨by (with_reducible repeat (first | refine blk_drewN ?_ _ | refine blk_drew ?_ | refine blk_alloc ?_ _)); exact BK208.out⟩, ⟨by repeat (first | (with_reducible first | exact HI0.out | apply IsS79.alloc | apply IsS79.drewN | apply IsS79.drew | apply IsS79.set_0 | refine IsS79.far ?_ NB0_207.out _ | refine IsS79.far ?_ NB0_208.out _) | exact HI0.out)⟩, ⟨by repeat (first | (with_reducible first | exact HK.out | apply KeepBut.set_ | apply keep_drewN | apply keep_drew | apply keep_alloc | refine keep_far ?_ GW207.out _ | refine keep_far ?_ GW208.out _) | exact HK.out)⟩, ⟨by repeat (first | (with_reducible first | exact HB.out | apply below_alloc | apply pw_below_drewN | apply below_drew1 | refine below_set ?_ (IsS79.ge HI0.out) | refine below_set ?_ GE207.out | refine below_set ?_ GE208.out) | exact HB.out)⟩⟩
          ·
           rw [if_neg c125] at H
           have c125b0 : decide (x17_3 ≤ 8) = false := decide_eq_false c125
           clear c125
           (first | rw [c125b0] | (simp only [i64_w, i32_w]; rw [c125b0]) | skip)
           have H' := Aside0.mk H
           clear H
           go_wp2
           go_meet
           case rel => exact ⟨_, (false), (by first | rfl | (simp; done) | (simp [*]; done)), H', ⟨by have := HK1.out; have := HK2.out; have := HK3.out; first | omega | exact Nat.le_refl _⟩, ⟨by (with_reducible repeat (first | apply Kd.R_alloc | apply Kd.R_drewN | apply Kd.R_drew)); exact HO_9.out⟩, ⟨by (with_reducible repeat (first | apply Kd.S_alloc | apply Kd.S_drewN | apply Kd.S_drew)); exact HO_209000.out⟩, ⟨by (with_reducible repeat (first | apply Kd.R_alloc | apply Kd.R_drewN | apply Kd.R_drew)); exact HO_209002.out⟩, ⟨by (with_reducible repeat (first | apply Kd.R_alloc | apply Kd.R_drewN | apply Kd.R_drew)); exact HO_209004.out⟩, ⟨by (with_reducible repeat (first | refine blk_drewN ?_ _ | refine blk_drew ?_ | refine blk_alloc ?_ _)); exact BK207.out⟩, ⟨by (with_reducible repeat (first | refine blk_drewN ?_ _ | refine blk_drew ?_ | refine blk_alloc ?_ _)); exact BK208.out⟩, ⟨by repeat (first | (with_reducible first | exact HI0.out | apply IsS79.alloc | apply IsS79.drewN | apply IsS79.drew | apply IsS79.set_0 | refine IsS79.far ?_ NB0_207.out _ | refine IsS79.far ?_ NB0_208.out _) | exact HI0.out)⟩, ⟨by repeat (first | (with_reducible first | exact HK.out | apply KeepBut.set_ | apply keep_drewN | apply keep_drew | apply keep_alloc | refine keep_far ?_ GW207.out _ | refine keep_far ?_ GW208.out _) | exact HK.out)⟩, ⟨by repeat (first | (with_reducible first | exact HB.out | apply below_alloc | apply pw_below_drewN | apply below_drew1 | refine below_set ?_ (IsS79.ge HI0.out) | refine below_set ?_ GE207.out | refine below_set ?_ GE208.out) | exact HB.out)⟩⟩
         case rest =>
          clear HC124
          try clear c1
          try clear c2
          try clear p2
          try clear q2
          try clear hx2
          try clear c3
          try clear c4
          try clear c5
          try clear c6
          try clear p6
          try clear c7
          try clear c8
          try clear c8b0
          try clear c9
          try clear c11
          try clear c12
          try clear c14
          try clear c15
          try clear c17
          try clear p23
          try clear q23
          try clear hx23
          try clear c24
          try clear c25
          try clear p25
          try clear q25
          try clear hx25
          try clear c27
          try clear c28
          try clear c29
          try clear c31
          try clear c31b0
          try clear c33
          try clear c34
          try clear c35
          try clear c36
          try clear c36b0
          try clear c37
          try clear c37b0
          try clear c46
          try clear c50
          try clear c51
          try clear c53
          try clear c54
          try clear c55
          try clear c56
          try clear c58
          try clear c59
          try clear p64
          try clear c67
          try clear c68
          try clear c69
          try clear c70
          try clear c72
          try clear c73
          try clear c88
          try clear c89
          try clear c92
          try clear c92b0
          try clear c94
          try clear c94b0
          try clear c95
          try clear c95b0
          try clear c97
          try clear c98
          try clear c99
          try clear c112
          try clear c113
          try clear c125
          try clear c125b0
          try clear c126
          try clear c127
          try clear hcz100_0
          try clear hcz100_1
          try clear hcz100_2
          try clear hcz100_3
          try clear hcz100_4
          try clear hcz114_0
          try clear hcz114_1
          try clear hcz114_2
          try clear hcz114_3
          try clear hcz114_4
          try clear hcz123_0
          try clear hcz123_1
          try clear hcz123_2
          try clear hcz123_3
          try clear hcz123_4
          try clear hcz128_0
          try clear hcz128_1
          try clear hcz128_2
          try clear hcz128_3
          try clear hcz128_4
          try clear hcz16_0
          try clear hcz16_1
          try clear hcz16_2
          try clear hcz16_3
          try clear hcz16_4
          try clear hcz30_0
          try clear hcz30_1
          try clear hcz30_2
          try clear hcz30_3
          try clear hcz57_0
          try clear hcz57_1
          try clear hcz57_2
          try clear hcz57_3
          try clear hcz57_4
          try clear hcz60_0
          try clear hcz60_1
          try clear hcz60_2
          try clear hcz60_3
          try clear hcz66_0
          try clear hcz66_1
          try clear hcz66_2
          try clear hcz66_3
          try clear hcz66_4
          try clear hcz71_0
          try clear hcz71_1
          try clear hcz71_2
          try clear hcz71_3
          try clear hcz71_4
          try clear hcz74_0
          try clear hcz74_1
          try clear hcz74_2
          try clear hcz74_3
          try clear hcz79_0
          try clear hcz79_1
          try clear hcz79_2
          try clear hcz79_3
          try clear hcz79_4
          try clear hcz90_0
          try clear hcz90_1
          try clear hcz90_2
          try clear hcz90_3
          try clear hcz90_4
          try clear hfz100_0
          try clear hfz100_1
          try clear hfz100_2
          try clear hfz100_3
          try clear hfz100_4
          try clear hfz114_0
          try clear hfz114_1
          try clear hfz114_2
          try clear hfz114_3
          try clear hfz114_4
          try clear hfz123_0
          try clear hfz123_1
          try clear hfz123_2
          try clear hfz123_3
          try clear hfz123_4
          try clear hfz128_0
          try clear hfz128_1
          try clear hfz128_2
          try clear hfz128_3
          try clear hfz128_4
          try clear hfz16_0
          try clear hfz16_1
          try clear hfz16_2
          try clear hfz16_3
          try clear hfz16_4
          try clear hfz30_0
          try clear hfz30_1
          try clear hfz30_2
          try clear hfz30_3
          try clear hfz57_0
          try clear hfz57_1
          try clear hfz57_2
          try clear hfz57_3
          try clear hfz57_4
          try clear hfz60_0
          try clear hfz60_1
          try clear hfz60_2
          try clear hfz60_3
          try clear hfz66_0
          try clear hfz66_1
          try clear hfz66_2
          try clear hfz66_3
          try clear hfz66_4
          try clear hfz71_0
          try clear hfz71_1
          try clear hfz71_2
          try clear hfz71_3
          try clear hfz71_4
          try clear hfz74_0
          try clear hfz74_1
          try clear hfz74_2
          try clear hfz74_3
          try clear hfz79_0
          try clear hfz79_1
          try clear hfz79_2
          try clear hfz79_3
          try clear hfz79_4
          try clear hfz90_0
          try clear hfz90_1
          try clear hfz90_2
          try clear hfz90_3
          try clear hfz90_4
          try clear hx230_0
          try clear hx253_0
          try clear p2
          try clear p23
          try clear p230
          try clear p25
          try clear p253
          try clear p6
          try clear p64
          try clear q2
          try clear q23
          try clear q230
          try clear q25
          try clear q253
          obtain ⟨kq, x123_123, rfl, HA, HJ123, HO_9, HO_209000, HO_209002, HO_209004, BK207, BK208, HI0, HK, HB⟩ := hcut
          cases kq with
          | zero => exact absurd HA.out (by simp [swarfkit_CarOf.j4])
          | succ kj123 =>
           have H := HA.out
           clear HA
           simp only [swarfkit_CarOf.j4] at H
           by_cases c130 : x123_123 = true
           ·
            subst c130
            have H1 : ((swarfkit_Feed_Often.f x1000_3 1 5).bind fun bt265 => (if bt265.1 = true then (if x209004_3.length < 17592186044416 then (swarfkit_CarOf.l3 kj123 x9_1 (wrap64 (x17_3 + 1)) bt265.2 x209000_1 t247 x209002_2 ji111 (x209004_3 ++ [x17_3])) else (none)) else (swarfkit_CarOf.l3 kj123 x9_1 (wrap64 (x17_3 + 1)) bt265.2 x209000_1 t247 x209002_2 ji111 x209004_3))) = some (r1, r2, r3, r4, r5, r6, r7) := by rw [if_pos rfl] at H; exact H
            clear H
            have H := H1
            clear H1
            replace H := Option.bind_eq_some_iff.mp H
            obtain ⟨⟨t265, t266⟩, A1310, H⟩ := H
            replace H : (if t265 = true then (if x209004_3.length < 17592186044416 then (swarfkit_CarOf.l3 kj123 x9_1 (wrap64 (x17_3 + 1)) t266 x209000_1 t247 x209002_2 ji111 (x209004_3 ++ [x17_3])) else (none)) else (swarfkit_CarOf.l3 kj123 x9_1 (wrap64 (x17_3 + 1)) t266 x209000_1 t247 x209002_2 ji111 x209004_3)) = some (r1, r2, r3, r4, r5, r6, r7) := H
            have A131 := Aside0.mk A1310
            clear A1310
            by_cases c132 : t265 = true
            ·
             subst c132
             have H1 : (if x209004_3.length < 17592186044416 then (swarfkit_CarOf.l3 kj123 x9_1 (wrap64 (x17_3 + 1)) t266 x209000_1 t247 x209002_2 ji111 (x209004_3 ++ [x17_3])) else (none)) = some (r1, r2, r3, r4, r5, r6, r7) := by rw [if_pos rfl] at H; exact H
             clear H
             have H := H1
             clear H1
             by_cases c133 : x209004_3.length < 17592186044416
             ·
              rw [if_pos c133] at H
              have LMc133 := Aside0.mk c133
              clear c133
              obtain ⟨y267, hy267⟩ : ∃ y_ : List Int, y_ = (x209004_3 ++ [x17_3]) := ⟨_, rfl⟩
              replace H : (swarfkit_CarOf.l3 kj123 x9_1 (wrap64 (x17_3 + 1)) t266 x209000_1 t247 x209002_2 ji111 y267) = some (r1, r2, r3, r4, r5, r6, r7) := by first | (rw [hy267]; with_reducible exact H) | (have H2_ := (Option.bind_some _ _).symm.trans H; rw [hy267]; with_reducible exact H2_) | (have H2_ := (Option.bind_some _ _).symm.trans H; with_reducible exact H2_) | with_reducible exact H | (rw [hy267]; exact H) | exact H
              have Ny267 := Aside0.mk hy267
              clear hy267
              have H' := Aside0.mk H
              clear H
              go_wp2_with (first | ((with_reducible refine gate_callee (f := 35) rfl ?_); refine goesL_ (some 127) rfl rfl Try.func35 (by kernel_rfl) rfl #[.pointer (some ⟨g, 0, none⟩), .int .i64 1, .int .i64 5] rfl (by (try simp only [List.map_toArray, List.map_cons, List.map_nil]); first | done | rfl | (simp only [List.length_drop, List.length_take]; rfl)) ?_; (with_reducible refine (swarfkit_Feed_Often.calls g x1000_3 1 5 true t266 w0 _ ?side1 ?side2 A131.out).mono ?_); (case side1 => repeat (first | (with_reducible first | exact HI0.out | apply IsS79.alloc | apply IsS79.drewN | apply IsS79.drew | apply IsS79.set_0 | refine IsS79.far ?_ NB0_207.out _ | refine IsS79.far ?_ NB0_208.out _) | exact HI0.out)); (case side2 => repeat (first | (with_reducible first | exact HB.out | apply below_alloc | apply pw_below_drewN | apply below_drew1 | refine below_set ?_ (IsS79.ge HI0.out) | refine below_set ?_ GE207.out | refine below_set ?_ GE208.out) | exact HB.out)); rintro e w134 ⟨rfl, hi, hb, hk⟩; refine ⟨_, rfl, ?_⟩; have n0_ := Aside0.mk (Kd.R_mono (Kd.R_keep (IsS79.apart (show IsS79 w0 _ g x1000_3 from by repeat (first | (with_reducible first | exact HI0.out | apply IsS79.alloc | apply IsS79.drewN | apply IsS79.drew | apply IsS79.set_0 | refine IsS79.far ?_ NB0_207.out _ | refine IsS79.far ?_ NB0_208.out _) | exact HI0.out)) (Kd.R_x HO_9.out) (by decide)) hk (fun _ h => h.2)) (fun _ h => h.1)); have n1_ := Aside0.mk (Kd.S_mono (Kd.S_keep (IsS79.apartS (show IsS79 w0 _ g x1000_3 from by repeat (first | (with_reducible first | exact HI0.out | apply IsS79.alloc | apply IsS79.drewN | apply IsS79.drew | apply IsS79.set_0 | refine IsS79.far ?_ NB0_207.out _ | refine IsS79.far ?_ NB0_208.out _) | exact HI0.out)) (Kd.S_x HO_209000.out) (by decide)) hk (fun _ h => h.2)) (fun _ h => h.1)); have n2_ := Aside0.mk (Kd.R_mono (Kd.R_keep (IsS79.apart (show IsS79 w0 _ g x1000_3 from by repeat (first | (with_reducible first | exact HI0.out | apply IsS79.alloc | apply IsS79.drewN | apply IsS79.drew | apply IsS79.set_0 | refine IsS79.far ?_ NB0_207.out _ | refine IsS79.far ?_ NB0_208.out _) | exact HI0.out)) (Kd.R_x HO_209002.out) (by decide)) hk (fun _ h => h.2)) (fun _ h => h.1)); have n3_ := Aside0.mk (Kd.R_mono (Kd.R_keep (IsS79.apart (show IsS79 w0 _ g x1000_3 from by repeat (first | (with_reducible first | exact HI0.out | apply IsS79.alloc | apply IsS79.drewN | apply IsS79.drew | apply IsS79.set_0 | refine IsS79.far ?_ NB0_207.out _ | refine IsS79.far ?_ NB0_208.out _) | exact HI0.out)) (Kd.R_x HO_209004.out) (by decide)) hk (fun _ h => h.2)) (fun _ h => h.1)); have n4_ := Aside0.mk (KeepBut.blk hk (g' := gb207) (o := .cells #[.slice none 0 0, .int .i64 0, .slice none 0 0, .int .i64 0, .slice none 0 0] 26 (0, 0)) (blk_x BK207.out) NB207_0.out (by simp)); have n5_ := Aside0.mk (KeepBut.blk hk (g' := gb208) (o := .cells #[.slice Ao115 x209000_1.length co115, .int .i64 t247, .slice Ao116 x209002_2.length co116, .int .i64 ji111, u209004] 26 (0, 0)) (blk_x BK208.out) NB208_0.out (by simp)); have n6_ := Aside0.mk (KeepBut.trans (by repeat (first | (with_reducible first | exact HK.out | apply KeepBut.set_ | apply keep_drewN | apply keep_drew | apply keep_alloc | refine keep_far ?_ GW207.out _ | refine keep_far ?_ GW208.out _) | exact HK.out)) hk (.inl rfl)); have n7_ := Aside0.mk (hb); have n8_ := Aside0.mk (hi); clear HO_9; clear HO_209000; clear HO_209002; clear HO_209004; clear BK207; clear BK208; clear HK; clear HB; clear HI0; have HO_9 := n0_; have HO_209000 := n1_; have HO_209002 := n2_; have HO_209004 := n3_; have BK207 := n4_; have BK208 := n5_; have HK := n6_; have HB := n7_; have HI0 := n8_; clear n0_ n1_ n2_ n3_ n4_ n5_ n6_ n7_ n8_; (try clear hb); (try clear hb2); (try clear hk); (try clear hi); have hnb135 := NB208_207.out; have hnc135 := NB207_208.out; have hnb136 := NB208_0.out; have hnc136 := NB0_208.out; have hcz137_0 : w134.cell? ⟨gb208, 0, none⟩ = some (.slice Ao115 x209000_1.length co115) := (blk_cell BK208.out 0).trans rfl; have hcz137_1 : w134.cell? ⟨gb208, 1, none⟩ = some (.int .i64 t247) := (blk_cell BK208.out 1).trans rfl; have hcz137_2 : w134.cell? ⟨gb208, 2, none⟩ = some (.slice Ao116 x209002_2.length co116) := (blk_cell BK208.out 2).trans rfl; have hcz137_3 : w134.cell? ⟨gb208, 3, none⟩ = some (.int .i64 ji111) := (blk_cell BK208.out 3).trans rfl; have hcz137_4 : w134.cell? ⟨gb208, 4, none⟩ = some (u209004) := (blk_cell BK208.out 4).trans rfl; have hfz137_0 := blk_frozen BK208.out 0; have hfz137_1 := blk_frozen BK208.out 1; have hfz137_2 := blk_frozen BK208.out 2; have hfz137_3 := blk_frozen BK208.out 3; have hfz137_4 := blk_frozen BK208.out 4) | ((with_reducible refine gate_builtin (b := .append) (xs := #[.tmp 129, .tmp 131]) rfl ?_); (try (refine gate_guard (by rfl) ?_; dsimp only)); at_builtin; refine Kd.R_append (Kd.int .i64) w.heap.size rfl (.tmp 129) (.tmp 131) 24 3 (.int .i64 0) 8 rfl Try.underlying24 info3 rfl (by decide) (by omega) u209004 x209004_3 x17_3 [.int .i64 x17_3] (fun _ => True) (fun _ => False) rfl rfl ?aP (fun _ hk => hk.elim) ?aF ?aO (Below.refl _ _) ?aS ?aL ?_; (case aP => exact rfl); (case aF => exact (fun _ _ => trivial)); (case aO => exact (Kd.R_x HO_209004.out)); (case aS => exact (keep_size (w := w) (g := g) (row := none) (by repeat (first | (with_reducible first | exact HK.out | apply KeepBut.set_ | apply keep_drewN | apply keep_drew | apply keep_alloc | refine keep_far ?_ GW207.out _ | refine keep_far ?_ GW208.out _) | exact HK.out)))); (case aL => have := LMc133.out; omega); intro v268 w138 ho hb hg hat; rw [← Ny267.out] at ho; have n0_ := Aside0.mk (Kd.R_over' (Kd.R_x HO_9.out) (Kd.R_typed (Kd.R_x HO_209004.out)) (by decide) hg); have n1_ := Aside0.mk (Kd.S_after (ok := (fun _ => True)) (by (with_reducible repeat (first | apply Kd.S_alloc | apply Kd.S_drewN | apply Kd.S_drew)); exact Kd.S_mono HO_209000.out (fun _ hk => ⟨trivial, hk⟩)) hg hat); have n2_ := Aside0.mk (Kd.R_over' (Kd.R_x HO_209002.out) (Kd.R_typed (Kd.R_x HO_209004.out)) (by decide) hg); have n3_ := Aside0.mk (blk_grown (g := gb207) (o := .cells #[.slice none 0 0, .int .i64 0, .slice none 0 0, .int .i64 0, .slice none 0 0] 26 (0, 0)) (blk_x BK207.out) hg (Kd.R_ne HO_209004.out BK207.out (by decide))); have n4_ := Aside0.mk (blk_grown (g := gb208) (o := .cells #[.slice Ao115 x209000_1.length co115, .int .i64 t247, .slice Ao116 x209002_2.length co116, .int .i64 ji111, u209004] 26 (0, 0)) (blk_x BK208.out) hg (Kd.R_ne HO_209004.out BK208.out (by decide))); have n5_ := Aside0.mk (IsS79.grown (by repeat (first | (with_reducible first | exact HI0.out | apply IsS79.alloc | apply IsS79.drewN | apply IsS79.drew | apply IsS79.set_0 | refine IsS79.far ?_ NB0_207.out _ | refine IsS79.far ?_ NB0_208.out _) | exact HI0.out)) hg (IsS79.own_ne HI0.out HO_209004.out (by decide))); have n6_ := Aside0.mk (below_weaken (by repeat (first | (with_reducible first | exact HB.out | apply below_alloc | apply pw_below_drewN | apply below_drew1 | refine below_set ?_ (IsS79.ge HI0.out) | refine below_set ?_ GE207.out | refine below_set ?_ GE208.out) | exact HB.out)) HL.out hb); have n7_ := Aside0.mk (KeepBut.trans (by repeat (first | (with_reducible first | exact HK.out | apply KeepBut.set_ | apply keep_drewN | apply keep_drew | apply keep_alloc | refine keep_far ?_ GW207.out _ | refine keep_far ?_ GW208.out _) | exact HK.out)) (KeepBut.of_grown hg g) (Kd.R_base2 HO_209004.out)); have n8_ := Aside0.mk (ho); clear HO_9; clear HO_209000; clear HO_209002; clear BK207; clear BK208; clear HI0; clear HB; clear HK; clear HO_209004; have HO_9 := n0_; have HO_209000 := n1_; have HO_209002 := n2_; have BK207 := n3_; have BK208 := n4_; have HI0 := n5_; have HB := n6_; have HK := n7_; have HO269 := n8_; clear n0_ n1_ n2_ n3_ n4_ n5_ n6_ n7_ n8_; clear ho hb hg hat; obtain ⟨Ao139, co139, eo139⟩ := Kd.R_slice HO269.out; subst eo139; have hcz140_0 : w138.cell? ⟨gb208, 0, none⟩ = some (.slice Ao115 x209000_1.length co115) := (blk_cell BK208.out 0).trans rfl; have hcz140_1 : w138.cell? ⟨gb208, 1, none⟩ = some (.int .i64 t247) := (blk_cell BK208.out 1).trans rfl; have hcz140_2 : w138.cell? ⟨gb208, 2, none⟩ = some (.slice Ao116 x209002_2.length co116) := (blk_cell BK208.out 2).trans rfl; have hcz140_3 : w138.cell? ⟨gb208, 3, none⟩ = some (.int .i64 ji111) := (blk_cell BK208.out 3).trans rfl; have hcz140_4 : w138.cell? ⟨gb208, 4, none⟩ = some (u209004) := (blk_cell BK208.out 4).trans rfl; have hfz140_0 := blk_frozen BK208.out 0; have hfz140_1 := blk_frozen BK208.out 1; have hfz140_2 := blk_frozen BK208.out 2; have hfz140_3 := blk_frozen BK208.out 3; have hfz140_4 := blk_frozen BK208.out 4))
              go_roundg kj123
              case measure => have := HK1.out; have := HK2.out; have := HK3.out; have := HJ123.out; omega
              case rel => exact ⟨(wrap64 (x17_3 + 1)), (t266), (y267), (.slice Ao139 y267.length co139), (by first | rfl | (simp; done) | (simp [*]; done)), H', ⟨by have := HK1.out; have := HK2.out; have := HK3.out; have := HJ123.out; omega⟩, ⟨by (with_reducible repeat (first | apply Kd.R_alloc | apply Kd.R_drewN | apply Kd.R_drew)); exact Kd.R_mono (Kd.R_far (p := ⟨gb208, 4, none⟩) (Kd.R_types HO_9.out BK208.out (by decide)) (fun _ hk => hk.2) (.slice Ao139 y267.length co139)) (fun _ hk => trivial)⟩, ⟨by (with_reducible repeat (first | apply Kd.S_alloc | apply Kd.S_drewN | apply Kd.S_drew)); exact Kd.S_mono (Kd.S_far (p := ⟨gb208, 4, none⟩) (Kd.S_types HO_209000.out BK208.out (by decide)) (fun _ hk => hk.2) (.slice Ao139 y267.length co139)) (fun _ hk => hk.1.2)⟩, ⟨by (with_reducible repeat (first | apply Kd.R_alloc | apply Kd.R_drewN | apply Kd.R_drew)); exact Kd.R_mono (Kd.R_far (p := ⟨gb208, 4, none⟩) (Kd.R_types HO_209002.out BK208.out (by decide)) (fun _ hk => hk.2) (.slice Ao139 y267.length co139)) (fun _ hk => trivial)⟩, ⟨by (with_reducible repeat (first | apply Kd.R_alloc | apply Kd.R_drewN | apply Kd.R_drew)); exact Kd.R_mono (Kd.R_far (p := ⟨gb208, 4, none⟩) (Kd.R_types HO269.out BK208.out (by decide)) (fun _ hk => hk.2) (.slice Ao139 y267.length co139)) (fun _ hk => trivial)⟩, ⟨by (with_reducible repeat (first | refine blk_drewN ?_ _ | refine blk_drew ?_ | refine blk_alloc ?_ _)); refine blk_far ?_ NB207_208.out _; (with_reducible repeat (first | refine blk_drewN ?_ _ | refine blk_drew ?_ | refine blk_alloc ?_ _)); exact BK207.out⟩, ⟨by (with_reducible repeat (first | refine blk_drewN ?_ _ | refine blk_drew ?_ | refine blk_alloc ?_ _)); refine blk_put (cs := #[.slice Ao115 x209000_1.length co115, .int .i64 t247, .slice Ao116 x209002_2.length co116, .int .i64 ji111, u209004]) ?_ 4 _ rfl; (with_reducible repeat (first | refine blk_drewN ?_ _ | refine blk_drew ?_ | refine blk_alloc ?_ _)); exact BK208.out⟩, ⟨by repeat (first | (with_reducible first | exact HI0.out | apply IsS79.alloc | apply IsS79.drewN | apply IsS79.drew | apply IsS79.set_0 | refine IsS79.far ?_ NB0_207.out _ | refine IsS79.far ?_ NB0_208.out _) | exact HI0.out)⟩, ⟨by repeat (first | (with_reducible first | exact HK.out | apply KeepBut.set_ | apply keep_drewN | apply keep_drew | apply keep_alloc | refine keep_far ?_ GW207.out _ | refine keep_far ?_ GW208.out _) | exact HK.out)⟩, ⟨by repeat (first | (with_reducible first | exact HB.out | apply below_alloc | apply pw_below_drewN | apply below_drew1 | refine below_set ?_ (IsS79.ge HI0.out) | refine below_set ?_ GE207.out | refine below_set ?_ GE208.out) | exact HB.out)⟩⟩
             ·
              rw [if_neg c133] at H
              exact absurd H (by simp)
            ·
             replace c132 := Bool.eq_false_iff.mpr c132
             subst c132
             have H1 : (swarfkit_CarOf.l3 kj123 x9_1 (wrap64 (x17_3 + 1)) t266 x209000_1 t247 x209002_2 ji111 x209004_3) = some (r1, r2, r3, r4, r5, r6, r7) := by rw [if_neg (show ¬ (false = true) by decide)] at H; exact H
             clear H
             have H := H1
             clear H1
             have H' := Aside0.mk H
             clear H
             go_wp2_with (first | ((with_reducible refine gate_callee (f := 35) rfl ?_); refine goesL_ (some 127) rfl rfl Try.func35 (by kernel_rfl) rfl #[.pointer (some ⟨g, 0, none⟩), .int .i64 1, .int .i64 5] rfl (by (try simp only [List.map_toArray, List.map_cons, List.map_nil]); first | done | rfl | (simp only [List.length_drop, List.length_take]; rfl)) ?_; (with_reducible refine (swarfkit_Feed_Often.calls g x1000_3 1 5 false t266 w0 _ ?side1 ?side2 A131.out).mono ?_); (case side1 => repeat (first | (with_reducible first | exact HI0.out | apply IsS79.alloc | apply IsS79.drewN | apply IsS79.drew | apply IsS79.set_0 | refine IsS79.far ?_ NB0_207.out _ | refine IsS79.far ?_ NB0_208.out _) | exact HI0.out)); (case side2 => repeat (first | (with_reducible first | exact HB.out | apply below_alloc | apply pw_below_drewN | apply below_drew1 | refine below_set ?_ (IsS79.ge HI0.out) | refine below_set ?_ GE207.out | refine below_set ?_ GE208.out) | exact HB.out)); rintro e w141 ⟨rfl, hi, hb, hk⟩; refine ⟨_, rfl, ?_⟩; have n0_ := Aside0.mk (Kd.R_mono (Kd.R_keep (IsS79.apart (show IsS79 w0 _ g x1000_3 from by repeat (first | (with_reducible first | exact HI0.out | apply IsS79.alloc | apply IsS79.drewN | apply IsS79.drew | apply IsS79.set_0 | refine IsS79.far ?_ NB0_207.out _ | refine IsS79.far ?_ NB0_208.out _) | exact HI0.out)) (Kd.R_x HO_9.out) (by decide)) hk (fun _ h => h.2)) (fun _ h => h.1)); have n1_ := Aside0.mk (Kd.S_mono (Kd.S_keep (IsS79.apartS (show IsS79 w0 _ g x1000_3 from by repeat (first | (with_reducible first | exact HI0.out | apply IsS79.alloc | apply IsS79.drewN | apply IsS79.drew | apply IsS79.set_0 | refine IsS79.far ?_ NB0_207.out _ | refine IsS79.far ?_ NB0_208.out _) | exact HI0.out)) (Kd.S_x HO_209000.out) (by decide)) hk (fun _ h => h.2)) (fun _ h => h.1)); have n2_ := Aside0.mk (Kd.R_mono (Kd.R_keep (IsS79.apart (show IsS79 w0 _ g x1000_3 from by repeat (first | (with_reducible first | exact HI0.out | apply IsS79.alloc | apply IsS79.drewN | apply IsS79.drew | apply IsS79.set_0 | refine IsS79.far ?_ NB0_207.out _ | refine IsS79.far ?_ NB0_208.out _) | exact HI0.out)) (Kd.R_x HO_209002.out) (by decide)) hk (fun _ h => h.2)) (fun _ h => h.1)); have n3_ := Aside0.mk (Kd.R_mono (Kd.R_keep (IsS79.apart (show IsS79 w0 _ g x1000_3 from by repeat (first | (with_reducible first | exact HI0.out | apply IsS79.alloc | apply IsS79.drewN | apply IsS79.drew | apply IsS79.set_0 | refine IsS79.far ?_ NB0_207.out _ | refine IsS79.far ?_ NB0_208.out _) | exact HI0.out)) (Kd.R_x HO_209004.out) (by decide)) hk (fun _ h => h.2)) (fun _ h => h.1)); have n4_ := Aside0.mk (KeepBut.blk hk (g' := gb207) (o := .cells #[.slice none 0 0, .int .i64 0, .slice none 0 0, .int .i64 0, .slice none 0 0] 26 (0, 0)) (blk_x BK207.out) NB207_0.out (by simp)); have n5_ := Aside0.mk (KeepBut.blk hk (g' := gb208) (o := .cells #[.slice Ao115 x209000_1.length co115, .int .i64 t247, .slice Ao116 x209002_2.length co116, .int .i64 ji111, u209004] 26 (0, 0)) (blk_x BK208.out) NB208_0.out (by simp)); have n6_ := Aside0.mk (KeepBut.trans (by repeat (first | (with_reducible first | exact HK.out | apply KeepBut.set_ | apply keep_drewN | apply keep_drew | apply keep_alloc | refine keep_far ?_ GW207.out _ | refine keep_far ?_ GW208.out _) | exact HK.out)) hk (.inl rfl)); have n7_ := Aside0.mk (hb); have n8_ := Aside0.mk (hi); clear HO_9; clear HO_209000; clear HO_209002; clear HO_209004; clear BK207; clear BK208; clear HK; clear HB; clear HI0; have HO_9 := n0_; have HO_209000 := n1_; have HO_209002 := n2_; have HO_209004 := n3_; have BK207 := n4_; have BK208 := n5_; have HK := n6_; have HB := n7_; have HI0 := n8_; clear n0_ n1_ n2_ n3_ n4_ n5_ n6_ n7_ n8_; (try clear hb); (try clear hb2); (try clear hk); (try clear hi)))
             go_roundg kj123
             case measure => have := HK1.out; have := HK2.out; have := HK3.out; have := HJ123.out; omega
             case rel => exact ⟨(wrap64 (x17_3 + 1)), (t266), (x209004_3), (u209004), (by first | rfl | (simp; done) | (simp [*]; done)), H', ⟨by have := HK1.out; have := HK2.out; have := HK3.out; have := HJ123.out; omega⟩, ⟨by (with_reducible repeat (first | apply Kd.R_alloc | apply Kd.R_drewN | apply Kd.R_drew)); exact HO_9.out⟩, ⟨by (with_reducible repeat (first | apply Kd.S_alloc | apply Kd.S_drewN | apply Kd.S_drew)); exact HO_209000.out⟩, ⟨by (with_reducible repeat (first | apply Kd.R_alloc | apply Kd.R_drewN | apply Kd.R_drew)); exact HO_209002.out⟩, ⟨by (with_reducible repeat (first | apply Kd.R_alloc | apply Kd.R_drewN | apply Kd.R_drew)); exact HO_209004.out⟩, ⟨by (with_reducible repeat (first | refine blk_drewN ?_ _ | refine blk_drew ?_ | refine blk_alloc ?_ _)); exact BK207.out⟩, ⟨by (with_reducible repeat (first | refine blk_drewN ?_ _ | refine blk_drew ?_ | refine blk_alloc ?_ _)); exact BK208.out⟩, ⟨by repeat (first | (with_reducible first | exact HI0.out | apply IsS79.alloc | apply IsS79.drewN | apply IsS79.drew | apply IsS79.set_0 | refine IsS79.far ?_ NB0_207.out _ | refine IsS79.far ?_ NB0_208.out _) | exact HI0.out)⟩, ⟨by repeat (first | (with_reducible first | exact HK.out | apply KeepBut.set_ | apply keep_drewN | apply keep_drew | apply keep_alloc | refine keep_far ?_ GW207.out _ | refine keep_far ?_ GW208.out _) | exact HK.out)⟩, ⟨by repeat (first | (with_reducible first | exact HB.out | apply below_alloc | apply pw_below_drewN | apply below_drew1 | refine below_set ?_ (IsS79.ge HI0.out) | refine below_set ?_ GE207.out | refine below_set ?_ GE208.out) | exact HB.out)⟩⟩
           ·
            replace c130 := Bool.eq_false_iff.mpr c130
            subst c130
            have H1 : (some (x209000_1, t247, x209002_2, ji111, x209004_3, x9_1, x1000_3)) = some (r1, r2, r3, r4, r5, r6, r7) := by rw [if_neg (show ¬ (false = true) by decide)] at H; exact H
            clear H
            have H := H1
            clear H1
            simp only [Option.some.injEq, Prod.mk.injEq] at H
            obtain ⟨rfl, rfl, rfl, rfl, rfl, rfl, rfl⟩ := H
            have hnb142 := NB208_207.out
            have hnc142 := NB207_208.out
            have hnb143 := NB208_0.out
            have hnc143 := NB0_208.out
            have hcz144_0 : wc.cell? ⟨gb208, 0, none⟩ = some (.slice Ao115 x209000_1.length co115) := (blk_cell BK208.out 0).trans rfl
            have hcz144_1 : wc.cell? ⟨gb208, 1, none⟩ = some (.int .i64 t247) := (blk_cell BK208.out 1).trans rfl
            have hcz144_2 : wc.cell? ⟨gb208, 2, none⟩ = some (.slice Ao116 x209002_2.length co116) := (blk_cell BK208.out 2).trans rfl
            have hcz144_3 : wc.cell? ⟨gb208, 3, none⟩ = some (.int .i64 ji111) := (blk_cell BK208.out 3).trans rfl
            have hcz144_4 : wc.cell? ⟨gb208, 4, none⟩ = some (u209004) := (blk_cell BK208.out 4).trans rfl
            have hfz144_0 := blk_frozen BK208.out 0
            have hfz144_1 := blk_frozen BK208.out 1
            have hfz144_2 := blk_frozen BK208.out 2
            have hfz144_3 := blk_frozen BK208.out 3
            have hfz144_4 := blk_frozen BK208.out 4
            have hnb145 := NB207_0.out
            have hnc145 := NB0_207.out
            have hcz146_0 : wc.cell? ⟨gb207, 0, none⟩ = some (.slice none 0 0) := (blk_cell BK207.out 0).trans rfl
            have hcz146_1 : wc.cell? ⟨gb207, 1, none⟩ = some (.int .i64 0) := (blk_cell BK207.out 1).trans rfl
            have hcz146_2 : wc.cell? ⟨gb207, 2, none⟩ = some (.slice none 0 0) := (blk_cell BK207.out 2).trans rfl
            have hcz146_3 : wc.cell? ⟨gb207, 3, none⟩ = some (.int .i64 0) := (blk_cell BK207.out 3).trans rfl
            have hcz146_4 : wc.cell? ⟨gb207, 4, none⟩ = some (.slice none 0 0) := (blk_cell BK207.out 4).trans rfl
            have hfz146_0 := blk_frozen BK207.out 0
            have hfz146_1 := blk_frozen BK207.out 1
            have hfz146_2 := blk_frozen BK207.out 2
            have hfz146_3 := blk_frozen BK207.out 3
            have hfz146_4 := blk_frozen BK207.out 4
            obtain ⟨Ao147, co147, eo147⟩ := Kd.R_slice HO_209004.out
            subst eo147
            go_wp2
            refine bodyPost_ret (results_ct rfl _ _ gb207 26 #[.slice Ao115 x209000_1.length co115, .int .i64 t247, .slice Ao116 x209002_2.length co116, .int .i64 ji111, .slice Ao147 x209004_3.length co147] (0, 0) _ rfl (by (with_reducible repeat (first | refine blk_drewN ?_ _ | refine blk_drew ?_ | refine blk_alloc ?_ _)); refine blk_put (cs := #[.slice Ao115 x209000_1.length co115, .int .i64 t247, .slice Ao116 x209002_2.length co116, .int .i64 ji111, .slice none 0 0]) ?_ 4 _ rfl; (with_reducible repeat (first | refine blk_drewN ?_ _ | refine blk_drew ?_ | refine blk_alloc ?_ _)); refine blk_put (cs := #[.slice Ao115 x209000_1.length co115, .int .i64 t247, .slice Ao116 x209002_2.length co116, .int .i64 0, .slice none 0 0]) ?_ 3 _ rfl; (with_reducible repeat (first | refine blk_drewN ?_ _ | refine blk_drew ?_ | refine blk_alloc ?_ _)); refine blk_put (cs := #[.slice Ao115 x209000_1.length co115, .int .i64 t247, .slice none 0 0, .int .i64 0, .slice none 0 0]) ?_ 2 _ rfl; (with_reducible repeat (first | refine blk_drewN ?_ _ | refine blk_drew ?_ | refine blk_alloc ?_ _)); refine blk_put (cs := #[.slice Ao115 x209000_1.length co115, .int .i64 0, .slice none 0 0, .int .i64 0, .slice none 0 0]) ?_ 1 _ rfl; (with_reducible repeat (first | refine blk_drewN ?_ _ | refine blk_drew ?_ | refine blk_alloc ?_ _)); refine blk_put (cs := #[.slice none 0 0, .int .i64 0, .slice none 0 0, .int .i64 0, .slice none 0 0]) ?_ 0 _ rfl; (with_reducible repeat (first | refine blk_drewN ?_ _ | refine blk_drew ?_ | refine blk_alloc ?_ _)); exact BK207.out) Try.underlying26 rfl (by kernel_rfl)) rfl ?_
            exact ⟨_, _, _, _, by first | rfl | (simp [errW_none, errW_some] <;> rfl) | (simp only [← hji111]; first | rfl | (simp [errW_none, errW_some] <;> rfl)) | (simp [*, errW_none, errW_some] <;> rfl), by (with_reducible repeat (first | apply Kd.S_alloc | apply Kd.S_drewN | apply Kd.S_drew)); exact Kd.S_mono (Kd.S_far (p := ⟨gb207, 4, none⟩) (Kd.S_far (p := ⟨gb207, 3, none⟩) (Kd.S_far (p := ⟨gb207, 2, none⟩) (Kd.S_far (p := ⟨gb207, 1, none⟩) (Kd.S_far (p := ⟨gb207, 0, none⟩) (Kd.S_types HO_209000.out BK207.out (by decide)) (fun _ hk => hk.2) (.slice Ao115 x209000_1.length co115)) (fun _ hk => hk.2) (.int .i64 t247)) (fun _ hk => hk.2) (.slice Ao116 x209002_2.length co116)) (fun _ hk => hk.2) (.int .i64 ji111)) (fun _ hk => hk.2) (.slice Ao147 x209004_3.length co147)) (fun _ hk => hk.1), by (with_reducible repeat (first | apply Kd.R_alloc | apply Kd.R_drewN | apply Kd.R_drew)); exact Kd.R_mono (Kd.R_far (p := ⟨gb207, 4, none⟩) (Kd.R_far (p := ⟨gb207, 3, none⟩) (Kd.R_far (p := ⟨gb207, 2, none⟩) (Kd.R_far (p := ⟨gb207, 1, none⟩) (Kd.R_far (p := ⟨gb207, 0, none⟩) (Kd.R_types HO_209002.out BK207.out (by decide)) (fun _ hk => hk.2) (.slice Ao115 x209000_1.length co115)) (fun _ hk => hk.2) (.int .i64 t247)) (fun _ hk => hk.2) (.slice Ao116 x209002_2.length co116)) (fun _ hk => hk.2) (.int .i64 ji111)) (fun _ hk => hk.2) (.slice Ao147 x209004_3.length co147)) (fun _ hk => trivial), by (with_reducible repeat (first | apply Kd.R_alloc | apply Kd.R_drewN | apply Kd.R_drew)); exact Kd.R_mono (Kd.R_far (p := ⟨gb207, 4, none⟩) (Kd.R_far (p := ⟨gb207, 3, none⟩) (Kd.R_far (p := ⟨gb207, 2, none⟩) (Kd.R_far (p := ⟨gb207, 1, none⟩) (Kd.R_far (p := ⟨gb207, 0, none⟩) (Kd.R_types HO_209004.out BK207.out (by decide)) (fun _ hk => hk.2) (.slice Ao115 x209000_1.length co115)) (fun _ hk => hk.2) (.int .i64 t247)) (fun _ hk => hk.2) (.slice Ao116 x209002_2.length co116)) (fun _ hk => hk.2) (.int .i64 ji111)) (fun _ hk => hk.2) (.slice Ao147 x209004_3.length co147)) (fun _ hk => trivial), by (with_reducible repeat (first | apply Kd.R_alloc | apply Kd.R_drewN | apply Kd.R_drew)); exact Kd.R_mono (Kd.R_far (p := ⟨gb207, 4, none⟩) (Kd.R_far (p := ⟨gb207, 3, none⟩) (Kd.R_far (p := ⟨gb207, 2, none⟩) (Kd.R_far (p := ⟨gb207, 1, none⟩) (Kd.R_far (p := ⟨gb207, 0, none⟩) (Kd.R_types HO_9.out BK207.out (by decide)) (fun _ hk => hk.2) (.slice Ao115 x209000_1.length co115)) (fun _ hk => hk.2) (.int .i64 t247)) (fun _ hk => hk.2) (.slice Ao116 x209002_2.length co116)) (fun _ hk => hk.2) (.int .i64 ji111)) (fun _ hk => hk.2) (.slice Ao147 x209004_3.length co147)) (fun _ hk => trivial), by repeat (first | (with_reducible first | exact HI0.out | apply IsS79.alloc | apply IsS79.drewN | apply IsS79.drew | apply IsS79.set_0 | refine IsS79.far ?_ NB0_207.out _ | refine IsS79.far ?_ NB0_208.out _) | exact HI0.out), by repeat (first | (with_reducible first | exact HB.out | apply below_alloc | apply pw_below_drewN | apply below_drew1 | refine below_set ?_ (IsS79.ge HI0.out) | refine below_set ?_ GE207.out | refine below_set ?_ GE208.out) | exact HB.out), by repeat (first | (with_reducible first | exact HK.out | apply KeepBut.set_ | apply keep_drewN | apply keep_drew | apply keep_alloc | refine keep_far ?_ GW207.out _ | refine keep_far ?_ GW208.out _) | exact HK.out)⟩
end Go.Proofs.Ytkkmfcdikkiodaa.PC4
namespace Go.Proofs.Ytkkmfcdikkiodaa.PC4
set_option linter.unusedVariables false
open Go.RowKit Go.Proofs.YtkkmfcdikkiodaaW.PrintWords Go.Proofs.YtkkmfcdikkiodaaW.PrintLast Go.Proofs.YtkkmfcdikkiodaaW.PrintMore
theorem u64_bd (n : Int) : 0 ≤ IntKind.u64.wrap n ∧ IntKind.u64.wrap n < 18446744073709551616 := by
  have : IntKind.u64.wrap n = n % 18446744073709551616 := by simp [IntKind.wrap, IntKind.bits, IntKind.signed]
  omega
theorem u64_id {n : Int} (h0 : 0 ≤ n) (h : n < 18446744073709551616) : IntKind.u64.wrap n = n := by
  have : IntKind.u64.wrap n = n % 18446744073709551616 := by simp [IntKind.wrap, IntKind.bits, IntKind.signed]
  omega
theorem below_ok (s n : Int) (h1 : 1 ≤ n) (h : n ≤ 1000000000) : ∃ r s', swarfkit_Feed_Below.f s n = some (r, s') ∧ 0 ≤ r ∧ r < n := by
  unfold swarfkit_Feed_Below.f
  by_cases h2 : n < 2
  · rw [if_pos h2]
    exact ⟨0, s, rfl, by omega, by omega⟩
  · rw [if_neg h2]
    unfold swarfkit_Feed_next.f
    simp only [Option.bind_some]
    rw [u64_id (by omega) (by omega), if_neg (by omega)]
    refine ⟨_, _, rfl, ?_⟩
    obtain ⟨ha, hb⟩ := u64_bd (feedN s * 2685821657736338717)
    have hm : feedM (feedN s) = IntKind.u64.wrap (feedN s * 2685821657736338717) := rfl
    rw [hm]
    generalize IntKind.u64.wrap (feedN s * 2685821657736338717) = x at *
    have hx : 0 ≤ x / 256 := by omega
    rw [Int.tmod_eq_emod_of_nonneg hx]
    have h3 := Int.emod_nonneg (x / 256) (show n ≠ 0 by omega)
    have h4 := Int.emod_lt_of_pos (x / 256) (show 0 < n by omega)
    rw [wrap64_id (by omega) (by omega)]
    exact ⟨h3, h4⟩
theorem often_ok (s n m : Int) (h1 : 1 ≤ m) (h : m ≤ 1000000000) : ∃ b s', swarfkit_Feed_Often.f s n m = some (b, s') := by
  obtain ⟨r, s', h2, _⟩ := below_ok s m h1 h
  exact ⟨_, _, by unfold swarfkit_Feed_Often.f; rw [h2]; rfl⟩
theorem between_ok (s lo hi : Int) (h : lo ≤ hi) (h0 : 0 ≤ lo) (h1 : hi ≤ 1000000) : ∃ r s', swarfkit_Feed_Between.f s lo hi = some (r, s') ∧ lo ≤ r ∧ r ≤ hi := by
  obtain ⟨r, s', h2, h3, h4⟩ := below_ok s (hi - lo + 1) (by omega) (by omega)
  refine ⟨lo + r, s', ?_, by omega, by omega⟩
  unfold swarfkit_Feed_Between.f
  rw [wrap64_id (n := hi - lo) (by omega) (by omega), wrap64_id (by omega) (by omega), h2]
  simp only [Option.bind_some]
  rw [wrap64_id (by omega) (by omega)]
theorem either_ok (s : Int) (l : List Int) (h0 : l ≠ []) (h : l.length ≤ 1000) : ∃ r s', swarfkit_Feed_Either.f s l = some (r, s') ∧ r ∈ l := by
  have hl : 0 < l.length := List.length_pos_iff.2 h0
  obtain ⟨r, s', h2, h3, h4⟩ := below_ok s l.length (by omega) (by omega)
  refine ⟨rd l r, s', ?_, ?_⟩
  · unfold swarfkit_Feed_Either.f
    rw [if_neg (by omega), h2]
    simp only [Option.bind_some]
    rw [if_pos h3, if_pos h4]
  · obtain ⟨k, rfl⟩ : ∃ k : Nat, r = k := ⟨r.toNat, by omega⟩
    have hk : k < l.length := by omega
    rw [rd_getD, List.getD, List.getElem?_eq_getElem hk]
    exact List.getElem_mem hk
end Go.Proofs.Ytkkmfcdikkiodaa.PC4
