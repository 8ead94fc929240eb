/- Lemmas on the way to this: Which voyages and stowages are valid, how deep bow and stern may lie and whether the barge is level enough is said alike by the program and by the reference, and nothing is changed. -/
import Derived.Test.YtodmemndaaiolaaCShipDrafts3
import Derived.Test.YtodmemndaaiolaaCShipDrafts2
import Derived.ChangeKeysEq
import Derived.Laws.StructEq
import Derived.Outline
import Derived.RegionTactic
import Derived.BigRegion
import Derived.ChangeAlike
import Derived.Deep.DeepCutAuto
import Derived.Deep.CutRange
import Derived.Test.YtodmemndaaiolaaCShipDrafts1
import Derived.RangeFuncNested
import Derived.RangeFuncBound
import Derived.RangeFuncCalls
import Derived.RangeFuncLeaves
import Derived.Shelf.Abstract
import Derived.Shelf.RegionOpen
import Derived.OwnWalkIn
import Derived.TacticsInMore
import Derived.LoopNIn
import Derived.LoopIn
import Derived.WalkMore
import Derived.Laws.CopyOwn
import Derived.Laws.MakeOwn
import Derived.Lib.SliceRun
import Derived.BigQuiet
import Derived.Deep.LoopGhost
import Derived.OrdersIn
import Derived.TacticsIn
import Derived.Sort.LoopGhostIn
import Derived.Sort.CutIn
namespace Go.Proofs.Ytodmemndaaiolaa.PC7
set_option linter.unusedVariables false
set_option linter.unusedSimpArgs false
open Go.RowKit Go.Proofs.YtodmemndaaiolaaW.PrintWords Go.Proofs.YtodmemndaaiolaaW.PrintLast Go.Proofs.YtodmemndaaiolaaW.PrintMore
def LevBd (x : S62) : Prop := (0 ≤ x.f0 ∧ x.f0 ≤ 2880) ∧ 0 ≤ x.f1.f0 ∧ x.f1.f0 ≤ x.f1.f1 ∧ x.f1.f1 ≤ 10000
def LevB : List S62 → Prop
  | [] => True
  | [a] => LevBd a
  | a :: b :: r => LevBd a ∧ a.f0 < b.f0 ∧ LevB (b :: r)
structure SillB (s : S59) : Prop where
  tr : 0 ≤ s.f0.f0 ∧ s.f0.f0 ≤ s.f0.f1 ∧ s.f0.f1 ≤ 2880
  ne : 1 ≤ s.f1.length ∧ s.f1.length ≤ 6
  lv : LevB s.f1
  zero : (s.f1.getD 0 z62).f0 = 0
def HoldB (h : S85) : Prop := (0 ≤ h.f1 ∧ h.f1 ≤ 10000) ∧ (0 ≤ h.f2 ∧ h.f2 ≤ 10000)
def LotB (c : S79) : Prop := 0 ≤ c.f0.f0 ∧ c.f0.f0 ≤ c.f0.f1 ∧ c.f0.f1 ≤ 5000
theorem ladS_okB {B : Int} {h : S85} {c : S79} {q : Q4} (hh : HoldB h) (hc : LotB c) (hB : 0 ≤ B ∧ B ≤ 1000000000000) (hq : QOK B q) : QOK (B + 50000000) (ladS h c.f0 q) := by
  obtain ⟨⟨a3, a4⟩, a5, a6⟩ := hh
  obtain ⟨c1, c2, c3⟩ := hc
  obtain ⟨⟨q1, q2⟩, ⟨q3, q4⟩, q5, q6⟩ := hq
  have m1 := mul_bd (A := 5000) (B := 10000) c1 (by omega) a3 a4
  have m2 := mul_bd (A := 5000) (B := 10000) c1 (by omega) a5 a6
  have m3 := mul_bd (A := 5000) (B := 10000) (show 0 ≤ c.f0.f1 by omega) (by omega) a3 a4
  have m4 := mul_bd (A := 5000) (B := 10000) (show 0 ≤ c.f0.f1 by omega) (by omega) a5 a6
  have m5 := Int.mul_le_mul_of_nonneg_right c2 a3
  have m6 := Int.mul_le_mul_of_nonneg_right c2 a5
  have e : ladS h c.f0 q = ⟨q.b0 + c.f0.f0 * h.f1, q.b1 + c.f0.f0 * h.f2, q.h0 + c.f0.f1 * h.f1, q.h1 + c.f0.f1 * h.f2⟩ := by
    unfold ladS
    rw [wrap64_id (n := c.f0.f0 * h.f1) (by omega) (by omega), wrap64_id (n := c.f0.f0 * h.f2) (by omega) (by omega), wrap64_id (n := c.f0.f1 * h.f1) (by omega) (by omega), wrap64_id (n := c.f0.f1 * h.f2) (by omega) (by omega),
      wrap64_id (by omega) (by omega), wrap64_id (by omega) (by omega), wrap64_id (by omega) (by omega), wrap64_id (by omega) (by omega)]
  rw [e]
  refine ⟨⟨?_, ?_⟩, ⟨?_, ?_⟩, ?_, ?_⟩ <;> simp only <;> omega
theorem lad_both (L U R V : Int) (holds : List S85) (sills : List S59) (lots : List S79) (hho : ∀ h, h ∈ holds → HoldB h) (hlo : ∀ c, c ∈ lots → LotB c) (hhn : holds.length ≤ 1000) (hln : lots.length ≤ 1000) (s : List Int) (hs : s.length = lots.length) (hr : ∀ y, y ∈ s → -1 ≤ y ∧ y < (holds.length : Int)) (d : Nat) :
    ∀ (i : Nat) (q : Q4), i + d = lots.length → QOK (10000000 + 50000000 * (i : Int)) q → ∃ r, ladO holds lots i (s.drop i) q = some r ∧ QOK (10000000 + 50000000 * (lots.length : Int)) r ∧
      Ev (fun k => swarfref07_Ends.l0 k s (lots.map fun c => c.f0.f0) q.b0 q.b1 (i : Int) L U R holds V sills lots) (r.b0, r.b1) ∧ Ev (fun k => swarfref07_Ends.l0 k s (lots.map fun c => c.f0.f1) q.h0 q.h1 (i : Int) L U R holds V sills lots) (r.h0, r.h1) := by
  induction d with
  | zero =>
    intro i q hi hq
    refine ⟨q, by rw [List.drop_eq_nil_of_le (by omega)]; rfl, by rw [show lots.length = i by omega]; exact hq, Ev.succ ?_, Ev.succ ?_⟩
    · simp (disch := omega) only [swarfref07_Ends.l0, if_neg]; exact Ev.now _
    · simp (disch := omega) only [swarfref07_Ends.l0, if_neg]; exact Ev.now _
  | succ d ih =>
    intro i q hi hq
    have hil : i < lots.length := by omega
    have his : i < s.length := by omega
    obtain ⟨r1, r2⟩ := hr _ (getD_mem s i 0 his)
    have hcl := hlo _ (getD_mem lots i z79 hil)
    have e1 : rd (lots.map fun c => c.f0.f0) (i : Int) = (lots.getD i z79).f0.f0 := by rw [rdI]; simp [List.getD, hil]
    have e2 : rd (lots.map fun c => c.f0.f1) (i : Int) = (lots.getD i z79).f0.f1 := by rw [rdI]; simp [List.getD, hil]
    have l1 : (lots.map fun c => c.f0.f0).length = lots.length := List.length_map _
    have l2 : (lots.map fun c => c.f0.f1).length = lots.length := List.length_map _
    rw [drop_cons_of s i his 0]
    by_cases ha : s.getD i 0 < 0
    · obtain ⟨r, k1, k2, k3, k4⟩ := ih (i + 1) q (by omega) ⟨hq.b0, hq.b1, by have := hq.h0; omega, by have := hq.h1; omega⟩
      refine ⟨r, by simp only [ladO, if_pos ha]; exact k1, k2, Ev.succ ?_, Ev.succ ?_⟩
      · simp (disch := omega) only [swarfref07_Ends.l0, if_pos, if_neg, rdI]; rw [wrapS (by omega)]; exact k3
      · simp (disch := omega) only [swarfref07_Ends.l0, if_pos, if_neg, rdI]; rw [wrapS (by omega)]; exact k4
    · obtain ⟨g, hg⟩ := Int.eq_ofNat_of_zero_le (show 0 ≤ s.getD i 0 by omega)
      have hho' := hho _ (getD_mem holds g z85 (by omega))
      have hq' := ladS_okB hho' hcl (B := 10000000 + 50000000 * (i : Int)) ⟨by omega, by omega⟩ hq
      obtain ⟨r, k1, k2, k3, k4⟩ := ih (i + 1) (ladS (holds.getD g z85) (lots.getD i z79).f0 q) (by omega) (by rw [show 10000000 + 50000000 * ((i + 1 : Nat) : Int) = 10000000 + 50000000 * (i : Int) + 50000000 by omega]; exact hq')
      refine ⟨r, ?_, k2, Ev.succ ?_, Ev.succ ?_⟩
      · simp only [ladO, if_neg ha, if_pos r2, if_pos hil, rd79]; rw [hg, rd85]; exact k1
      · simp (disch := omega) only [swarfref07_Ends.l0, if_pos, rdI s, e1, l1]
        rw [hg, rd85, wrapS (by omega)]; exact k3
      · simp (disch := omega) only [swarfref07_Ends.l0, if_pos, rdI s, e2, l2]
        rw [hg, rd85, wrapS (by omega)]; exact k4
theorem lightest_ev (L U R V : Int) (holds : List S85) (sills : List S59) (lots : List S79) (hl : lots.length ≤ 1000) (d : Nat) : ∀ (i : Nat) (acc : List Int), i + d = lots.length → acc.length = i → Ev (fun k => swarfref07_Lightest.l0 k acc (i : Int) L U R holds V sills lots) (acc ++ (lots.drop i).map fun c => c.f0.f0) := by
  induction d with
  | zero =>
    intro i acc hi ha
    rw [List.drop_eq_nil_of_le (by omega), List.map_nil, List.append_nil]
    refine Ev.succ ?_
    simp (disch := omega) only [swarfref07_Lightest.l0, if_neg]; exact Ev.now _
  | succ d ih =>
    intro i acc hi ha
    rw [drop_cons_of lots i (by omega) z79, List.map_cons]
    refine Ev.succ ?_
    simp (disch := omega) only [swarfref07_Lightest.l0, if_pos, rd79]
    rw [wrapS (by omega)]
    have h := ih (i + 1) (acc ++ [(lots.getD i z79).f0.f0]) (by omega) (by simp [ha])
    rw [List.append_assoc] at h
    exact h
theorem heaviest_ev (L U R V : Int) (holds : List S85) (sills : List S59) (lots : List S79) (hl : lots.length ≤ 1000) (d : Nat) : ∀ (i : Nat) (acc : List Int), i + d = lots.length → acc.length = i → Ev (fun k => swarfref07_Heaviest.l0 k acc (i : Int) L U R holds V sills lots) (acc ++ (lots.drop i).map fun c => c.f0.f1) := by
  induction d with
  | zero =>
    intro i acc hi ha
    rw [List.drop_eq_nil_of_le (by omega), List.map_nil, List.append_nil]
    refine Ev.succ ?_
    simp (disch := omega) only [swarfref07_Heaviest.l0, if_neg]; exact Ev.now _
  | succ d ih =>
    intro i acc hi ha
    rw [drop_cons_of lots i (by omega) z79, List.map_cons]
    refine Ev.succ ?_
    simp (disch := omega) only [swarfref07_Heaviest.l0, if_pos, rd79]
    rw [wrapS (by omega)]
    have h := ih (i + 1) (acc ++ [(lots.getD i z79).f0.f1]) (by omega) (by simp [ha])
    rw [List.append_assoc] at h
    exact h
def ansO : Option Int → Int
  | some t => t
  | none => -1
theorem eq93 (a b c d : Int) (w : World) : (Op.equalIn 10000 93 (.agg #[.int .i64 a, .int .i64 b]) (.agg #[.int .i64 c, .int .i64 d])).run Try.prog w = .ok (a == c && b == d) w := by
 obtain ⟨i, hi, _⟩ := info_parts infoInt
 rw [show (10000 : Nat) = 9999 + 1 from rfl, run_equalIn_array w 9999 _ _ Try.underlying93 hi]
 have h3 : ∀ x y : Int, (Op.equalIn 9999 3 (.int .i64 x) (.int .i64 y)).run Try.prog w = .ok (x == y) w := fun x y => run_equalIn_int w 9998 3 .i64 .i64 x y Try.underlying3
 have hc : Try.prog.cellsOf 3 = 1 := by kernel_rfl
 simp [List.range_succ, Op.eqItems, hc, h3, go_sem]
 by_cases h1 : a = c <;> by_cases h2 : b = d <;> simp [h1, h2]
noncomputable def ship_Drafts.f (a0_0 : Int) (a0_1 : Int) (a0_2 : Int) (l0_3 : List (S85)) (a0_4 : Int) (l0_5 : List (S59)) (l0_6 : List (S79)) (l1 : List Int) : Option (Int × Int × Int × Int × Int) :=
 (stowE a0_0 a0_1 a0_2 l0_3 a0_4 l0_5 l0_6 l1).bind fun e => if e = 0 then (if l1.length ≤ 140737488351232 then (ladenO a0_0 l0_3 l0_6 l1).bind fun q => some (q.b0, q.h0, q.b1, q.h1, 0) else none) else some (0, 0, 0, 0, e)
set_option maxHeartbeats 8000000 in
set_option maxRecDepth 100000 in
theorem drafts_calls (x : VoyV) (A1 : Option Addr) (c1 : Nat) (l1 : List Int) (r1 r2 r3 r4 r5 : Int) (w : World) (hx : x.Ok w) (hr1 : Kd.C (Kd.int .i64) w A1 l1.length l1) (hc1 : l1.length ≤ c1) (h : ship_Drafts.f x.light x.under x.trim x.holds x.leaves x.sills x.lots l1 = some (r1, r2, r3, r4, r5)) :
  Calls Try.prog 35 #[.agg #[.int .i64 x.light, .int .i64 x.under, .int .i64 x.trim, .slice x.A3 x.holds.length x.c3, .int .i64 x.leaves, .slice x.A5 x.sills.length x.c5, .slice x.A6 x.lots.length x.c6], .slice A1 l1.length c1] w fun e w' => e = .returned (.tuple #[.agg #[.int .i64 r1, .int .i64 r2], .agg #[.int .i64 r3, .int .i64 r4], .int .i64 r5]) ∧ Below w.heap.size w w' := by
 have hu26 := Try.underlying26
 have hu93 := Try.underlying93
 have hu95 := Try.underlying95
 have hu56 := Try.underlying56
 unfold ship_Drafts.f at h
 obtain ⟨er, hst, h⟩ := Option.bind_eq_some_iff.1 h
 obtain ⟨ks, hst⟩ := limO_ev hst
 have HX := Aside0.mk hx
 have HR1 := Aside0.mk hr1
 have HST := Aside0.mk hst
 have H := Aside0.mk h
 clear hx hr1 hst h
 go_enter Try.func35, Try.ntmps35
 go_wp2_with (first
  | (refine box_r (N := 2) rfl (cs := #[.int .i64 x.light, .int .i64 x.under, .int .i64 x.trim, .slice x.A3 x.holds.length x.c3, .int .i64 x.leaves, .slice x.A5 x.sills.length x.c5, .slice x.A6 x.lots.length x.c6]) (t := 26) ?_; intro gb hg w2 hbox hb; have BK := Aside0.mk hbox; have HB := Aside0.mk hb; clear hg hbox hb)
  | (refine box_r (N := 4) rfl (cs := #[.int .i64 0, .int .i64 0]) (t := 56) ?_; intro g4 hg w3 hbox hb; have B4 := Aside0.mk hbox; replace BK := Aside0.mk (blk_below BK.out hb); have GE4 : Aside0 (w.heap.size ≤ g4) := ⟨by rw [hg]; exact HB.out.size⟩; replace HB := Aside0.mk (below_step HB.out hb); clear hg hbox hb)
  | (refine box_r (N := 5) rfl (cs := #[.int .i64 0, .int .i64 0]) (t := 56) ?_; intro g5 hg w4 hbox hb; have B5 := Aside0.mk hbox; replace BK := Aside0.mk (blk_below BK.out hb); have N45 : Aside0 (g4 ≠ g5) := ⟨by have := blk_lt B4.out; omega⟩; replace B4 := Aside0.mk (blk_below B4.out hb); have GE5 : Aside0 (w.heap.size ≤ g5) := ⟨by rw [hg]; exact HB.out.size⟩; replace HB := Aside0.mk (below_step HB.out hb); have hz0_ := (blk_cell BK.out 0).trans rfl; have hz1_ := (blk_cell BK.out 1).trans rfl; have hz2_ := (blk_cell BK.out 2).trans rfl; have hz3_ := (blk_cell BK.out 3).trans rfl; have hz4_ := (blk_cell BK.out 4).trans rfl; have hz5_ := (blk_cell BK.out 5).trans rfl; have hz6_ := (blk_cell BK.out 6).trans rfl; clear hg hbox hb))
 refine (ship_CheckStowage.calls ks x.light x.under x.trim x.A3 x.c3 x.holds x.leaves x.A5 x.c5 x.sills x.A6 x.c6 x.lots A1 c1 l1 er w4 (HX.out.below HB.out).h (HX.out.below HB.out).hc (HX.out.below HB.out).s (HX.out.below HB.out).sc (HX.out.below HB.out).l (HX.out.below HB.out).lc (Kd.C_below HR1.out HB.out) hc1 HST.out).mono ?_
 rintro e w5 ⟨rfl, hb5⟩
 replace BK := Aside0.mk (blk_below BK.out hb5)
 replace B4 := Aside0.mk (blk_below B4.out hb5)
 replace B5 := Aside0.mk (blk_below B5.out hb5)
 replace HB := Aside0.mk (below_step HB.out hb5)
 clear hb5 hz0_ hz1_ hz2_ hz3_ hz4_ hz5_ hz6_
 by_cases her : er = 0
 case neg =>
  have hh := H.out; rw [if_neg her] at hh; have hnb : (er == 0) = false := beq_eq_false_iff_ne.2 her; simp only [Option.some.injEq, Prod.mk.injEq] at hh; obtain ⟨rfl, rfl, rfl, rfl, rfl⟩ := hh; clear her H; have hy0_ := (blk_cell B4.out 0).trans rfl; have hy1_ := (blk_cell B4.out 1).trans rfl; have F5 := Aside0.mk (blk_far (blk_far B5.out (p := ⟨g4, 0, none⟩) N45.out.symm (.int .i64 0)) (p := ⟨g4, 1, none⟩) N45.out.symm (.int .i64 0)); have hy2_ := (blk_cell F5.out 0).trans rfl; have hy3_ := (blk_cell F5.out 1).trans rfl; have hf4_ := blk_frozen B4.out; have hf5_ := blk_frozen F5.out; go_wp2; have P4 := Aside0.mk (blk_far (blk_far (blk_put (cs' := #[.int .i64 0, .int .i64 0]) (blk_set B4.out 0 (.int .i64 0)) 1 (.int .i64 0) rfl) (p := ⟨g5, 0, none⟩) N45.out (.int .i64 0)) (p := ⟨g5, 1, none⟩) N45.out (.int .i64 0)); have P5 := Aside0.mk (blk_put (cs' := #[.int .i64 0, .int .i64 0]) (blk_set F5.out 0 (.int .i64 0)) 1 (.int .i64 0) rfl); have HBe := Aside0.mk (below_set (j := 1) (v := .int .i64 0) (below_set (j := 0) (v := .int .i64 0) (below_set (j := 1) (v := .int .i64 0) (below_set (j := 0) (v := .int .i64 0) HB.out GE4.out) GE4.out) GE5.out) GE5.out); exact bodyPost_ret (results_list (rs := [.cell 4 56, .cell 5 56, .tmp 6]) rfl (by simp) (.cell g4 56 #[.int .i64 0, .int .i64 0] (0, 0) _ rfl P4.out Try.underlying56 rfl (by kernel_rfl) (.cell g5 56 #[.int .i64 0, .int .i64 0] (0, 0) _ rfl P5.out Try.underlying56 rfl (by kernel_rfl) (.tmp .nil)))) rfl ⟨rfl, HBe.out⟩
 have hh := H.out
 rw [if_pos her] at hh
 by_cases hl1 : l1.length ≤ 140737488351232
 case neg => rw [if_neg hl1] at hh; cases hh
 rw [if_pos hl1] at hh
 obtain ⟨z, hz, hh⟩ := Option.bind_eq_some_iff.1 hh
 simp only [Option.some.injEq, Prod.mk.injEq] at hh
 obtain ⟨rfl, rfl, rfl, rfl, rfl⟩ := hh
 subst her
 have HZ := Aside0.mk hz
 clear hz H
 have hz0_ := (blk_cell BK.out 0).trans rfl
 have hz1_ := (blk_cell BK.out 1).trans rfl
 have hz2_ := (blk_cell BK.out 2).trans rfl
 have hz3_ := (blk_cell BK.out 3).trans rfl
 have hz4_ := (blk_cell BK.out 4).trans rfl
 have hz5_ := (blk_cell BK.out 5).trans rfl
 have hz6_ := (blk_cell BK.out 6).trans rfl
 go_wp2_with (fail)
 refine (laden_calls x A1 c1 l1 z w5 (HX.out.below HB.out) (Kd.C_below HR1.out HB.out) hc1 hl1 HZ.out).mono ?_
 rintro e w6 ⟨rfl, hb6⟩
 replace B4 := Aside0.mk (blk_below B4.out hb6)
 replace B5 := Aside0.mk (blk_below B5.out hb6)
 replace HB := Aside0.mk (below_step HB.out hb6)
 clear hb6 BK hz0_ hz1_ hz2_ hz3_ hz4_ hz5_ hz6_
 go_upto_region 5 with (fail)
 obtain ⟨g8, hg_⟩ : ∃ b, b = w6.heap.size := ⟨_, rfl⟩
 have Ng8 := Aside0.mk (blk_new w6 (.cells #[.int .i64 x.light, .int .i64 x.under, .int .i64 x.trim, .slice x.A3 x.holds.length x.c3, .int .i64 x.leaves, .slice x.A5 x.sills.length x.c5, .slice x.A6 x.lots.length x.c6, .int .i64 z.b0, .int .i64 z.b1, .int .i64 z.h0, .int .i64 z.h1] 95 (0, 0)))
 have hbw : Below w6.heap.size w6 (w6.alloc (.cells #[.int .i64 x.light, .int .i64 x.under, .int .i64 x.trim, .slice x.A3 x.holds.length x.c3, .int .i64 x.leaves, .slice x.A5 x.sills.length x.c5, .slice x.A6 x.lots.length x.c6, .int .i64 z.b0, .int .i64 z.b1, .int .i64 z.h0, .int .i64 z.h1] 95 (0, 0))) := below_alloc (Below.refl _ _) _
 have hgs_ : w.heap.size ≤ g8 := by rw [hg_]; exact HB.out.size
 generalize hw_ : w6.alloc (.cells #[.int .i64 x.light, .int .i64 x.under, .int .i64 x.trim, .slice x.A3 x.holds.length x.c3, .int .i64 x.leaves, .slice x.A5 x.sills.length x.c5, .slice x.A6 x.lots.length x.c6, .int .i64 z.b0, .int .i64 z.b1, .int .i64 z.h0, .int .i64 z.h1] 95 (0, 0)) = w7 at *
 rw [← hg_] at Ng8 ⊢
 replace B4 := Aside0.mk (blk_below B4.out hbw)
 replace B5 := Aside0.mk (blk_below B5.out hbw)
 replace HB := Aside0.mk (below_step HB.out hbw)
 have GEg8 : Aside0 (w.heap.size ≤ g8) := ⟨hgs_⟩
 clear hbw hw_ hg_ hgs_
 by_cases heq : z.b0 = z.h0 ∧ z.b1 = z.h1
 ·
  skip
  (have hE : ∀ w : World, (Op.equalIn 10000 93 (.agg #[.int .i64 z.b0, .int .i64 z.b1]) (.agg #[.int .i64 z.h0, .int .i64 z.h1])).run Try.prog w = .ok true w := fun w => by rw [eq93]; congr 1; simp; exact heq); have HEQ := Aside0.mk heq; clear heq; have hz7_ := (blk_cell Ng8.out 7).trans rfl; have hz8_ := (blk_cell Ng8.out 8).trans rfl; have hz9_ := (blk_cell Ng8.out 9).trans rfl; have hz10_ := (blk_cell Ng8.out 10).trans rfl
  go_upto_region 6 with (fail)
  clear hE; have hd_ := below_drew1 (Below.refl w7.heap.size w7); replace B4 := Aside0.mk (blk_drew B4.out); replace B5 := Aside0.mk (blk_drew B5.out); have B8 := Aside0.mk (blk_drew Ng8.out); replace HB := Aside0.mk (below_step HB.out hd_); clear hd_ Ng8; refine start_ (n := 17) (S := fun w' => w'.cell? ⟨g8, 7, none⟩ = some (.int .i64 z.b0) ∧ w'.cell? ⟨g8, 8, none⟩ = some (.int .i64 z.b1)) (ds := [15]) #[false, false, false, false, false, false, false, false, false, false, false, false, false, false, false, false, false] (by kernel_rfl) rfl rfl ⟨hz7_, hz8_⟩ (fun hHeld => ?_); generalize w7.drew = wd at B4 B5 B8 HB hHeld ⊢; refine pure_y 0 (some 25) (bz 17 1) ?_; refine pure_y 1 (some 26) (bz 17 3) ?_; refine pure_y 3 (some 28) (bz 17 11) ?_; refine pure_y 4 (some 29) (bz 17 27) ?_; refine pure_y 7 (some 32) (bz 17 155) ?_; refine pure_y 8 (some 33) (bz 17 411) ?_; refine pure_y 10 (some 35) (bz 17 1435) ?_; refine pure_y 11 (some 36) (bz 17 3483) ?_; refine take_y 2 (some 27) (bz 17 3487) hHeld ?_; refine take_y 5 (some 30) (bz 17 3519) hHeld ?_; refine pure_y 6 (some 31) (bz 17 3583) ?_; refine take_y 9 (some 34) (bz 17 4095) hHeld ?_; refine take_y 12 (some 37) (bz 17 8191) hHeld ?_; refine pure_y 13 (some 38) (bz 17 16383) ?_; (refine one_y 14 (none) (bz 17 32767) fun K hK => ?_); have hy0_ := (blk_cell B4.out 0).trans rfl; have hy1_ := (blk_cell B4.out 1).trans rfl; have hf4_ := blk_frozen B4.out; refine skip_ (w1 := ?_) (by rfl) rfl ?_ ?_; rotate_left; (go_simp; rfl); clear hy0_ hy1_ hf4_; refine hK.out _ _ ⟨(blk_cell (blk_far (blk_far B8.out (p := ⟨g4, 0, none⟩) (blk_ne_ B8.out B4.out (by decide)) (.int .i64 z.b0)) (p := ⟨g4, 1, none⟩) (blk_ne_ B8.out B4.out (by decide)) (.int .i64 z.b0)) 7).trans rfl, (blk_cell (blk_far (blk_far B8.out (p := ⟨g4, 0, none⟩) (blk_ne_ B8.out B4.out (by decide)) (.int .i64 z.b0)) (p := ⟨g4, 1, none⟩) (blk_ne_ B8.out B4.out (by decide)) (.int .i64 z.b0)) 8).trans rfl⟩ (fun hHeld => ?_); clear hK K; refine last_ (i := 15) (N := none) (bz 17 65535) rfl rfl (by kernel_rfl) (by decide) (fun K hK => ?_); have F5 := Aside0.mk (blk_far (blk_far B5.out (p := ⟨g4, 0, none⟩) N45.out.symm (.int .i64 z.b0)) (p := ⟨g4, 1, none⟩) N45.out.symm (.int .i64 z.b0)); have hy2_ := (blk_cell F5.out 0).trans rfl; have hy3_ := (blk_cell F5.out 1).trans rfl; have hf5_ := blk_frozen F5.out; refine skip_ (w1 := ?_) (by rfl) rfl ?_ ?_; rotate_left; (go_simp; rfl); refine hK.out _ _ ?_; clear hK K; refine pure_y 16 (some 6) (bz 17 131071) ?_; refine done_ (by kernel_rfl) ?_; clear hHeld hy2_ hy3_ hf5_; go_wp2; obtain ⟨he1_, he2_⟩ := HEQ.out; rw [← he1_, ← he2_]; have P4 := Aside0.mk (blk_far (blk_far (blk_put (cs' := #[.int .i64 z.b0, .int .i64 z.b0]) (blk_set B4.out 0 (.int .i64 z.b0)) 1 (.int .i64 z.b0) rfl) (p := ⟨g5, 0, none⟩) N45.out (.int .i64 z.b1)) (p := ⟨g5, 1, none⟩) N45.out (.int .i64 z.b1)); have P5 := Aside0.mk (blk_put (cs' := #[.int .i64 z.b1, .int .i64 z.b1]) (blk_set F5.out 0 (.int .i64 z.b1)) 1 (.int .i64 z.b1) rfl); have HBe := Aside0.mk (below_set (j := 1) (v := .int .i64 z.b1) (below_set (j := 0) (v := .int .i64 z.b1) (below_set (j := 1) (v := .int .i64 z.b0) (below_set (j := 0) (v := .int .i64 z.b0) HB.out GE4.out) GE4.out) GE5.out) GE5.out); exact bodyPost_ret (results_list (rs := [.cell 4 56, .cell 5 56, .tmp 6]) rfl (by simp) (.cell g4 56 #[.int .i64 z.b0, .int .i64 z.b0] (0, 0) _ rfl P4.out Try.underlying56 rfl (by kernel_rfl) (.cell g5 56 #[.int .i64 z.b1, .int .i64 z.b1] (0, 0) _ rfl P5.out Try.underlying56 rfl (by kernel_rfl) (.tmp .nil)))) rfl ⟨rfl, HBe.out⟩
 ·
  skip
  (have hE : ∀ w : World, (Op.equalIn 10000 93 (.agg #[.int .i64 z.b0, .int .i64 z.b1]) (.agg #[.int .i64 z.h0, .int .i64 z.h1])).run Try.prog w = .ok false w := fun w => by rw [eq93]; congr 1; simp; exact fun h1 h2 => heq ⟨h1, h2⟩); have HEQ := Aside0.mk heq; clear heq; have hz7_ := (blk_cell Ng8.out 7).trans rfl; have hz8_ := (blk_cell Ng8.out 8).trans rfl; have hz9_ := (blk_cell Ng8.out 9).trans rfl; have hz10_ := (blk_cell Ng8.out 10).trans rfl
  go_upto_region 7 with (fail)
  clear hE; have hd_ := below_drew1 (Below.refl w7.heap.size w7); replace B4 := Aside0.mk (blk_drew B4.out); replace B5 := Aside0.mk (blk_drew B5.out); have B8 := Aside0.mk (blk_drew Ng8.out); replace HB := Aside0.mk (below_step HB.out hd_); clear hd_ Ng8; refine start_ (n := 17) (S := fun w' => w'.cell? ⟨g8, 7, none⟩ = some (.int .i64 z.b0) ∧ w'.cell? ⟨g8, 8, none⟩ = some (.int .i64 z.b1) ∧ w'.cell? ⟨g8, 9, none⟩ = some (.int .i64 z.h0) ∧ w'.cell? ⟨g8, 10, none⟩ = some (.int .i64 z.h1)) (ds := [15]) #[false, false, false, false, false, false, false, false, false, false, false, false, false, false, false, false, false] (by kernel_rfl) rfl rfl ⟨hz7_, hz8_, hz9_, hz10_⟩ (fun hHeld => ?_); generalize w7.drew = wd at B4 B5 B8 HB hHeld ⊢; refine pure_y 0 (some 39) (bz 17 1) ?_; refine pure_y 1 (some 40) (bz 17 3) ?_; refine pure_y 3 (some 42) (bz 17 11) ?_; refine pure_y 4 (some 43) (bz 17 27) ?_; refine pure_y 7 (some 46) (bz 17 155) ?_; refine pure_y 8 (some 47) (bz 17 411) ?_; refine pure_y 10 (some 49) (bz 17 1435) ?_; refine pure_y 11 (some 50) (bz 17 3483) ?_; refine take_y 2 (some 41) (bz 17 3487) hHeld ?_; refine take_y 5 (some 44) (bz 17 3519) hHeld ?_; refine pure_y 6 (some 45) (bz 17 3583) ?_; refine take_y 9 (some 48) (bz 17 4095) hHeld ?_; refine take_y 12 (some 51) (bz 17 8191) hHeld ?_; refine pure_y 13 (some 52) (bz 17 16383) ?_; (refine one_y 14 (none) (bz 17 32767) fun K hK => ?_); have hy0_ := (blk_cell B4.out 0).trans rfl; have hy1_ := (blk_cell B4.out 1).trans rfl; have hf4_ := blk_frozen B4.out; refine skip_ (w1 := ?_) (by rfl) rfl ?_ ?_; rotate_left; (go_simp; rfl); clear hy0_ hy1_ hf4_; refine hK.out _ _ ⟨(blk_cell (blk_far (blk_far B8.out (p := ⟨g4, 0, none⟩) (blk_ne_ B8.out B4.out (by decide)) (.int .i64 z.b0)) (p := ⟨g4, 1, none⟩) (blk_ne_ B8.out B4.out (by decide)) (.int .i64 z.h0)) 7).trans rfl, (blk_cell (blk_far (blk_far B8.out (p := ⟨g4, 0, none⟩) (blk_ne_ B8.out B4.out (by decide)) (.int .i64 z.b0)) (p := ⟨g4, 1, none⟩) (blk_ne_ B8.out B4.out (by decide)) (.int .i64 z.h0)) 8).trans rfl, (blk_cell (blk_far (blk_far B8.out (p := ⟨g4, 0, none⟩) (blk_ne_ B8.out B4.out (by decide)) (.int .i64 z.b0)) (p := ⟨g4, 1, none⟩) (blk_ne_ B8.out B4.out (by decide)) (.int .i64 z.h0)) 9).trans rfl, (blk_cell (blk_far (blk_far B8.out (p := ⟨g4, 0, none⟩) (blk_ne_ B8.out B4.out (by decide)) (.int .i64 z.b0)) (p := ⟨g4, 1, none⟩) (blk_ne_ B8.out B4.out (by decide)) (.int .i64 z.h0)) 10).trans rfl⟩ (fun hHeld => ?_); clear hK K; refine last_ (i := 15) (N := none) (bz 17 65535) rfl rfl (by kernel_rfl) (by decide) (fun K hK => ?_); have F5 := Aside0.mk (blk_far (blk_far B5.out (p := ⟨g4, 0, none⟩) N45.out.symm (.int .i64 z.b0)) (p := ⟨g4, 1, none⟩) N45.out.symm (.int .i64 z.h0)); have hy2_ := (blk_cell F5.out 0).trans rfl; have hy3_ := (blk_cell F5.out 1).trans rfl; have hf5_ := blk_frozen F5.out; refine skip_ (w1 := ?_) (by rfl) rfl ?_ ?_; rotate_left; (go_simp; rfl); refine hK.out _ _ ?_; clear hK K; refine pure_y 16 (some 6) (bz 17 131071) ?_; refine done_ (by kernel_rfl) ?_; clear hHeld hy2_ hy3_ hf5_; go_wp2; have P4 := Aside0.mk (blk_far (blk_far (blk_put (cs' := #[.int .i64 z.b0, .int .i64 z.h0]) (blk_set B4.out 0 (.int .i64 z.b0)) 1 (.int .i64 z.h0) rfl) (p := ⟨g5, 0, none⟩) N45.out (.int .i64 z.b1)) (p := ⟨g5, 1, none⟩) N45.out (.int .i64 z.h1)); have P5 := Aside0.mk (blk_put (cs' := #[.int .i64 z.b1, .int .i64 z.h1]) (blk_set F5.out 0 (.int .i64 z.b1)) 1 (.int .i64 z.h1) rfl); have HBe := Aside0.mk (below_set (j := 1) (v := .int .i64 z.h1) (below_set (j := 0) (v := .int .i64 z.b1) (below_set (j := 1) (v := .int .i64 z.h0) (below_set (j := 0) (v := .int .i64 z.b0) HB.out GE4.out) GE4.out) GE5.out) GE5.out); exact bodyPost_ret (results_list (rs := [.cell 4 56, .cell 5 56, .tmp 6]) rfl (by simp) (.cell g4 56 #[.int .i64 z.b0, .int .i64 z.h0] (0, 0) _ rfl P4.out Try.underlying56 rfl (by kernel_rfl) (.cell g5 56 #[.int .i64 z.b1, .int .i64 z.h1] (0, 0) _ rfl P5.out Try.underlying56 rfl (by kernel_rfl) (.tmp .nil)))) rfl ⟨rfl, HBe.out⟩
theorem ship_Drafts.calls (a0_0 : Int) (a0_1 : Int) (a0_2 : Int) (A0_3 : Option Addr) (c0_3 : Nat) (l0_3 : List (S85)) (a0_4 : Int) (A0_5 : Option Addr) (c0_5 : Nat) (l0_5 : List (S59)) (A0_6 : Option Addr) (c0_6 : Nat) (l0_6 : List (S79)) (A1 : Option Addr) (c1 : Nat) (l1 : List Int) (r1 : Int) (r2 : Int) (r3 : Int) (r4 : Int) (r5 : Int) (w : World) (hr0_3 : Kd.C k85 w A0_3 l0_3.length l0_3) (hc0_3 : l0_3.length ≤ c0_3) (hr0_5 : Kd.C k59 w A0_5 l0_5.length l0_5) (hc0_5 : l0_5.length ≤ c0_5) (hr0_6 : Kd.C k79 w A0_6 l0_6.length l0_6) (hc0_6 : l0_6.length ≤ c0_6) (hr1 : Kd.C (Kd.int .i64) w A1 l1.length l1) (hc1 : l1.length ≤ c1) (h : ship_Drafts.f a0_0 a0_1 a0_2 l0_3 a0_4 l0_5 l0_6 l1 = some (r1, r2, r3, r4, r5)) :
  Calls Try.prog 35 #[.agg #[.int .i64 a0_0, .int .i64 a0_1, .int .i64 a0_2, .slice A0_3 l0_3.length c0_3, .int .i64 a0_4, .slice A0_5 l0_5.length c0_5, .slice A0_6 l0_6.length c0_6], .slice A1 l1.length c1] w fun e w' => e = .returned (.tuple #[.agg #[.int .i64 r1, .int .i64 r2], .agg #[.int .i64 r3, .int .i64 r4], .int .i64 r5]) ∧ Below w.heap.size w w' := drafts_calls ⟨a0_0, a0_1, a0_2, A0_3, c0_3, l0_3, a0_4, A0_5, c0_5, l0_5, A0_6, c0_6, l0_6⟩ A1 c1 l1 r1 r2 r3 r4 r5 w ⟨hr0_3, hc0_3, hr0_5, hc0_5, hr0_6, hc0_6⟩ hr1 hc1 h
end Go.Proofs.Ytodmemndaaiolaa.PC7
namespace Go.Proofs.Ytodmemndaaiolaa.PC7
open Go.RowKit Go.Proofs.YtodmemndaaiolaaW.PrintWords Go.Proofs.YtodmemndaaiolaaW.PrintLast Go.Proofs.YtodmemndaaiolaaW.PrintMore
attribute [local go_sem] max2_int min2_int max_two min_two max_three min_three max_four min_four
set_option linter.unusedVariables false
set_option linter.unusedSimpArgs false
def swarfref07_Drafts.f (k : Nat) (a0_0 : Int) (a0_1 : Int) (a0_2 : Int) (l0_3 : List (S85)) (a0_4 : Int) (l0_5 : List (S59)) (l0_6 : List (S79)) (l1 : List Int) : Option (Int × Int × Int × Int × Int) := (swarfref07_CheckStowage.f k a0_0 a0_1 a0_2 l0_3 a0_4 l0_5 l0_6 l1).bind fun t728 => (if t728 = 0 then ((swarfref07_drafts.f k a0_0 a0_1 a0_2 l0_3 a0_4 l0_5 l0_6 l1).bind fun bt729 => (some (bt729.1, bt729.2.1, bt729.2.2.1, bt729.2.2.2, 0))) else (some (0, 0, 0, 0, t728)))
set_option maxHeartbeats 8000000 in
set_option maxRecDepth 100000 in
theorem swarfref07_Drafts.calls (k : Nat) (a0_0 : Int) (a0_1 : Int) (a0_2 : Int) (A0_3 : Option Addr) (c0_3 : Nat) (l0_3 : List (S85)) (a0_4 : Int) (A0_5 : Option Addr) (c0_5 : Nat) (l0_5 : List (S59)) (A0_6 : Option Addr) (c0_6 : Nat) (l0_6 : List (S79)) (A1 : Option Addr) (c1 : Nat) (l1 : List Int) (r1 : Int) (r2 : Int) (r3 : Int) (r4 : Int) (r5 : Int) (w : World) (hr0_3 : Kd.C k85 w A0_3 l0_3.length l0_3) (hc0_3 : l0_3.length ≤ c0_3) (hr0_5 : Kd.C k59 w A0_5 l0_5.length l0_5) (hc0_5 : l0_5.length ≤ c0_5) (hr0_6 : Kd.C k79 w A0_6 l0_6.length l0_6) (hc0_6 : l0_6.length ≤ c0_6) (hr1 : Kd.C (Kd.int .i64) w A1 l1.length l1) (hc1 : l1.length ≤ c1) (h : swarfref07_Drafts.f k a0_0 a0_1 a0_2 l0_3 a0_4 l0_5 l0_6 l1 = some (r1, r2, r3, r4, r5)) :
  Calls Try.prog 36 #[.agg #[.int .i64 a0_0, .int .i64 a0_1, .int .i64 a0_2, .slice A0_3 l0_3.length c0_3, .int .i64 a0_4, .slice A0_5 l0_5.length c0_5, .slice A0_6 l0_6.length c0_6], .slice A1 l1.length c1] w fun e w' => e = .returned (.tuple #[.agg #[.int .i64 r1, .int .i64 r2], .agg #[.int .i64 r3, .int .i64 r4], .int .i64 r5]) ∧ Below w.heap.size w w' := by
 have hu26 := Try.underlying26
 have hu56 := Try.underlying56
 have HR0_3 := Aside0.mk hr0_3
 have HC0_3 := Aside0.mk hc0_3
 clear hr0_3 hc0_3
 have HR0_5 := Aside0.mk hr0_5
 have HC0_5 := Aside0.mk hc0_5
 clear hr0_5 hc0_5
 have HR0_6 := Aside0.mk hr0_6
 have HC0_6 := Aside0.mk hc0_6
 clear hr0_6 hc0_6
 have HR1 := Aside0.mk hr1
 have HC1 := Aside0.mk hc1
 clear hr1 hc1
 have HB := Aside0.mk (Below.refl w.heap.size w)
 have H : ((swarfref07_CheckStowage.f k a0_0 a0_1 a0_2 l0_3 a0_4 l0_5 l0_6 l1).bind fun t728 => (if t728 = 0 then ((swarfref07_drafts.f k a0_0 a0_1 a0_2 l0_3 a0_4 l0_5 l0_6 l1).bind fun bt729 => (some (bt729.1, bt729.2.1, bt729.2.2.1, bt729.2.2.2, 0))) else (some (0, 0, 0, 0, t728)))) = some (r1, r2, r3, r4, r5) := h
 clear h
 replace H := Option.bind_eq_some_iff.mp H
 obtain ⟨t728, A30, H⟩ := H
 try dsimp only at H
 have A3 := Aside0.mk A30
 clear A30
 by_cases c4 : t728 = 0
 ·
  rw [if_pos c4] at H; have c4b0 : (t728 == 0) = true := beq_iff_eq.mpr c4; have c4b1 : (t728 != 0) = false := bne_eq_false_iff_eq.mpr c4; clear c4; replace H := Option.bind_eq_some_iff.mp H; obtain ⟨⟨t729, t730, t731, t732⟩, A50, H⟩ := H
  try dsimp only at H
  have A5 := Aside0.mk A50; clear A50; simp only [Option.some.injEq, Prod.mk.injEq] at H; obtain ⟨rfl, rfl, rfl, rfl, rfl⟩ := H; go_enter Try.func36, Try.ntmps36
  try go_wp2_with (first | (refine box_r (N := 2) rfl (cs := #[.int .i64 a0_0, .int .i64 a0_1, .int .i64 a0_2, .slice A0_3 l0_3.length c0_3, .int .i64 a0_4, .slice A0_5 l0_5.length c0_5, .slice A0_6 l0_6.length c0_6]) (t := 26) ?_; intro gb725 hg w6 hbox hb; have BK725 := Aside0.mk (hbox); have GW725 := gw_x hg HB; have GE725 := GW725; replace HB := Aside0.mk (below_step (below_x HB.out) hb); clear hb hbox hg) | (refine box_r (N := 4) rfl (cs := #[.int .i64 0, .int .i64 0]) (t := 56) ?_; intro gb726 hg w7 hbox hb; have BK726 := Aside0.mk (hbox); have GW726 := gw_x hg HB; have GE726 := GW726; replace HB := bl_x HB hb; have NB725_726 := nb_x hg BK725; have NB726_725 := nb_y hg BK725; replace BK725 := bk_x BK725 hb; clear hb hbox hg) | (refine box_r (N := 5) rfl (cs := #[.int .i64 0, .int .i64 0]) (t := 56) ?_; intro gb727 hg w8 hbox hb; have BK727 := Aside0.mk (hbox); have GW727 := gw_x hg HB; have GE727 := GW727; replace HB := bl_x HB hb; have NB725_727 := nb_x hg BK725; have NB727_725 := nb_y hg BK725; replace BK725 := bk_x BK725 hb; have NB726_727 := nb_x hg BK726; have NB727_726 := nb_y hg BK726; replace BK726 := bk_x BK726 hb; clear hb hbox hg; have hnb9 := NB725_726.out; have hnc9 := NB726_725.out; have hnb10 := NB725_727.out; have hnc10 := NB727_725.out; obtain ⟨hfz11_0, _, _, _, _, _, _, _⟩ := cf7 BK725) | (refine goesG_x 41 rfl (some 12) Try.func41 #[.agg #[.int .i64 a0_0, .int .i64 a0_1, .int .i64 a0_2, .slice A0_3 l0_3.length c0_3, .int .i64 a0_4, .slice A0_5 l0_5.length c0_5, .slice A0_6 l0_6.length c0_6], .slice A1 l1.length c1] ?_; (with_reducible refine (swarfref07_CheckStowage.calls k a0_0 a0_1 a0_2 _ _ l0_3 a0_4 _ _ l0_5 _ _ l0_6 _ _ l1 t728 _ ?side1 ?side2 ?side3 ?side4 ?side5 ?side6 ?side7 ?side8 A3.out).mono ?_); (case side1 => exact Kd.C_x HR0_3.out HB.out); (case side2 => exact HC0_3.out); (case side3 => exact Kd.C_x HR0_5.out HB.out); (case side4 => exact HC0_5.out); (case side5 => exact Kd.C_x HR0_6.out HB.out); (case side6 => exact HC0_6.out); (case side7 => exact Kd.C_x HR1.out HB.out); (case side8 => exact HC1.out); rintro e w12 ⟨rfl, hb⟩; refine ⟨_, rfl, ?_⟩; replace BK725 := bk_x BK725 hb; replace BK726 := bk_x BK726 hb; replace BK727 := bk_x BK727 hb; replace HB := bl_x HB hb; (try clear hb); (try clear hk); (try clear hi); obtain ⟨hfz13_0, _, _, _, _, _, _, _⟩ := cf7 BK725) | (refine goesG_x 70 rfl (some 21) Try.func70 #[.agg #[.int .i64 a0_0, .int .i64 a0_1, .int .i64 a0_2, .slice A0_3 l0_3.length c0_3, .int .i64 a0_4, .slice A0_5 l0_5.length c0_5, .slice A0_6 l0_6.length c0_6], .slice A1 l1.length c1] ?_; (with_reducible refine (swarfref07_drafts.calls k a0_0 a0_1 a0_2 _ _ l0_3 a0_4 _ _ l0_5 _ _ l0_6 _ _ l1 t729 t730 t731 t732 _ ?side1 ?side2 ?side3 ?side4 ?side5 ?side6 ?side7 ?side8 A5.out).mono ?_); (case side1 => exact Kd.C_x HR0_3.out HB.out); (case side2 => exact HC0_3.out); (case side3 => exact Kd.C_x HR0_5.out HB.out); (case side4 => exact HC0_5.out); (case side5 => exact Kd.C_x HR0_6.out HB.out); (case side6 => exact HC0_6.out); (case side7 => exact Kd.C_x HR1.out HB.out); (case side8 => exact HC1.out); rintro e w14 ⟨rfl, hb⟩; refine ⟨_, rfl, ?_⟩; replace BK725 := bk_x BK725 hb; replace BK726 := bk_x BK726 hb; replace BK727 := bk_x BK727 hb; replace HB := bl_x HB hb; (try clear hb); (try clear hk); (try clear hi)) | (refine box_r (N := 8) rfl (cs := #[.int .i64 0, .int .i64 0]) (t := 56) ?_; intro gb733 hg w15 hbox hb; have BK733 := Aside0.mk (hbox); have GW733 := gw_x hg HB; have GE733 := GW733; replace HB := bl_x HB hb; have NB725_733 := nb_x hg BK725; have NB733_725 := nb_y hg BK725; replace BK725 := bk_x BK725 hb; have NB726_733 := nb_x hg BK726; have NB733_726 := nb_y hg BK726; replace BK726 := bk_x BK726 hb; have NB727_733 := nb_x hg BK727; have NB733_727 := nb_y hg BK727; replace BK727 := bk_x BK727 hb; clear hb hbox hg) | (refine box_r (N := 9) rfl (cs := #[.int .i64 0, .int .i64 0]) (t := 56) ?_; intro gb734 hg w16 hbox hb; have BK734 := Aside0.mk (hbox); have GW734 := gw_x hg HB; have GE734 := GW734; replace HB := bl_x HB hb; have NB725_734 := nb_x hg BK725; have NB734_725 := nb_y hg BK725; replace BK725 := bk_x BK725 hb; have NB726_734 := nb_x hg BK726; have NB734_726 := nb_y hg BK726; replace BK726 := bk_x BK726 hb; have NB727_734 := nb_x hg BK727; have NB734_727 := nb_y hg BK727; replace BK727 := bk_x BK727 hb; have NB733_734 := nb_x hg BK733; have NB734_733 := nb_y hg BK733; replace BK733 := bk_x BK733 hb; clear hb hbox hg; have hnb17 := NB733_725.out; have hnc17 := NB725_733.out; have hnb18 := NB733_726.out; have hnc18 := NB726_733.out; have hnb19 := NB733_727.out; have hnc19 := NB727_733.out; have hnb20 := NB733_734.out; have hnc20 := NB734_733.out; obtain ⟨hfz21_0, _, _⟩ := cf2 BK733; have hnb22 := NB734_725.out; have hnc22 := NB725_734.out; have hnb23 := NB734_726.out; have hnc23 := NB726_734.out; have hnb24 := NB734_727.out; have hnc24 := NB727_734.out; obtain ⟨hfz25_0, _, _⟩ := cf2 BK734))
  have n0_ : Aside0 (((((w16.setCell ⟨gb733, 0, none⟩ (.int .i64 t729)).setCell ⟨gb733, 1, none⟩ (.int .i64 t730)).setCell ⟨gb734, 0, none⟩ (.int .i64 t731)).setCell ⟨gb734, 1, none⟩ (.int .i64 t732)).heap[gb725]? = some (.cells #[.int .i64 a0_0, .int .i64 a0_1, .int .i64 a0_2, .slice A0_3 l0_3.length c0_3, .int .i64 a0_4, .slice A0_5 l0_5.length c0_5, .slice A0_6 l0_6.length c0_6] 26 (0, 0))) := ⟨blk_w BK725.out⟩; have n1_ : Aside0 (((((w16.setCell ⟨gb733, 0, none⟩ (.int .i64 t729)).setCell ⟨gb733, 1, none⟩ (.int .i64 t730)).setCell ⟨gb734, 0, none⟩ (.int .i64 t731)).setCell ⟨gb734, 1, none⟩ (.int .i64 t732)).heap[gb726]? = some (.cells #[.int .i64 0, .int .i64 0] 56 (0, 0))) := ⟨blk_w BK726.out⟩; have n2_ : Aside0 (((((w16.setCell ⟨gb733, 0, none⟩ (.int .i64 t729)).setCell ⟨gb733, 1, none⟩ (.int .i64 t730)).setCell ⟨gb734, 0, none⟩ (.int .i64 t731)).setCell ⟨gb734, 1, none⟩ (.int .i64 t732)).heap[gb727]? = some (.cells #[.int .i64 0, .int .i64 0] 56 (0, 0))) := ⟨blk_w BK727.out⟩; have n3_ : Aside0 (((((w16.setCell ⟨gb733, 0, none⟩ (.int .i64 t729)).setCell ⟨gb733, 1, none⟩ (.int .i64 t730)).setCell ⟨gb734, 0, none⟩ (.int .i64 t731)).setCell ⟨gb734, 1, none⟩ (.int .i64 t732)).heap[gb733]? = some (.cells #[.int .i64 t729, .int .i64 t730] 56 (0, 0))) := ⟨blk_z BK733.out⟩; have n4_ : Aside0 (((((w16.setCell ⟨gb733, 0, none⟩ (.int .i64 t729)).setCell ⟨gb733, 1, none⟩ (.int .i64 t730)).setCell ⟨gb734, 0, none⟩ (.int .i64 t731)).setCell ⟨gb734, 1, none⟩ (.int .i64 t732)).heap[gb734]? = some (.cells #[.int .i64 t731, .int .i64 t732] 56 (0, 0))) := ⟨by (with_reducible repeat (first | refine blk_drewN ?_ _ | refine blk_drew ?_ | refine blk_alloc ?_ _)); refine blk_put (cs := #[.int .i64 t731, .int .i64 0]) ?_ 1 _ rfl; (with_reducible repeat (first | refine blk_drewN ?_ _ | refine blk_drew ?_ | refine blk_alloc ?_ _)); refine blk_put (cs := #[.int .i64 0, .int .i64 0]) ?_ 0 _ rfl; exact blk_w BK734.out⟩; have n5_ : Aside0 (Below w.heap.size w ((((w16.setCell ⟨gb733, 0, none⟩ (.int .i64 t729)).setCell ⟨gb733, 1, none⟩ (.int .i64 t730)).setCell ⟨gb734, 0, none⟩ (.int .i64 t731)).setCell ⟨gb734, 1, none⟩ (.int .i64 t732))) := ⟨by exact below_y HB.out⟩
  (try clear BK725)
  (try clear BK726)
  (try clear BK727)
  (try clear BK733)
  (try clear BK734)
  (try clear HB)
  generalize ((((w16.setCell ⟨gb733, 0, none⟩ (.int .i64 t729)).setCell ⟨gb733, 1, none⟩ (.int .i64 t730)).setCell ⟨gb734, 0, none⟩ (.int .i64 t731)).setCell ⟨gb734, 1, none⟩ (.int .i64 t732)) = w26 at n0_ n1_ n2_ n3_ n4_ n5_ ⊢; have BK725 := n0_; have BK726 := n1_; have BK727 := n2_; have BK733 := n3_; have BK734 := n4_; have HB := n5_; clear n0_ n1_ n2_ n3_ n4_ n5_; replace BK725 := Aside0.mk (blk_drew BK725.out); replace BK726 := Aside0.mk (blk_drew BK726.out); replace BK727 := Aside0.mk (blk_drew BK727.out); replace BK733 := Aside0.mk (blk_drew BK733.out); replace BK734 := Aside0.mk (blk_drew BK734.out); replace HB := Aside0.mk (below_drew1 HB.out); refine start_ (n := 5) (S := fun w' => w'.cell? ⟨gb733, 0, none⟩ = some (.int .i64 t729) ∧ w'.cell? ⟨gb733, 1, none⟩ = some (.int .i64 t730) ∧ w'.cell? ⟨gb734, 0, none⟩ = some (.int .i64 t731) ∧ w'.cell? ⟨gb734, 1, none⟩ = some (.int .i64 t732)) (ds := []) #[false, false, false, false, false] (by kernel_rfl) rfl rfl ⟨(blk_cell BK733.out 0).trans rfl, (blk_cell BK733.out 1).trans rfl, (blk_cell BK734.out 0).trans rfl, (blk_cell BK734.out 1).trans rfl⟩ (fun hHeld => ?_); generalize w26.drew = w27 at BK725 BK726 BK727 BK733 BK734 HB hHeld ⊢; refine take_y 0 (some 24) #[true, false, false, false, false] hHeld ?_; refine take_y 1 (some 25) #[true, true, false, false, false] hHeld ?_; (refine one_y 2 (none) #[true, true, true, false, false] fun K hK => ?_); have hs28 : w27.cell? ⟨gb726, 0, none⟩ = some (.int .i64 0) := (blk_cell BK726.out 0).trans rfl; have hfs28 := blk_frozen BK726.out 0; have hns28_0 := NB725_726.out; have hns28_2 := NB727_726.out; have hns28_3 := NB733_726.out; have hns28_4 := NB734_726.out; have hms28_0 := NB726_725.out; have hms28_2 := NB726_727.out; have hms28_3 := NB726_733.out; have hms28_4 := NB726_734.out; have hs29 : w27.cell? ⟨gb726, 1, none⟩ = some (.int .i64 0) := (blk_cell BK726.out 1).trans rfl; have hfs29 := blk_frozen BK726.out 1; have hns29_0 := NB725_726.out; have hns29_2 := NB727_726.out; have hns29_3 := NB733_726.out; have hns29_4 := NB734_726.out; have hms29_0 := NB726_725.out; have hms29_2 := NB726_727.out; have hms29_3 := NB726_733.out; have hms29_4 := NB726_734.out; refine skip_ (w1 := ?_) (by rfl) rfl ?_ ?_; rotate_left
  ·
   go_simp
   rfl
  refine hK.out _ _ ⟨(cf2_y NB733_726.out hHeld.1), (cf2_y NB733_726.out hHeld.2.1), (cf2_y NB734_726.out hHeld.2.2.1), (cf2_y NB734_726.out hHeld.2.2.2)⟩ (fun hHeld => ?_); clear hK K; (refine one_y 3 (none) #[true, true, true, true, false] fun K hK => ?_); have hs30 : w27.cell? ⟨gb727, 0, none⟩ = some (.int .i64 0) := (blk_cell BK727.out 0).trans rfl; have hfs30 := blk_frozen BK727.out 0; have hns30_0 := NB725_727.out; have hns30_1 := NB726_727.out; have hns30_3 := NB733_727.out; have hns30_4 := NB734_727.out; have hms30_0 := NB727_725.out; have hms30_1 := NB727_726.out; have hms30_3 := NB727_733.out; have hms30_4 := NB727_734.out; have hs31 : w27.cell? ⟨gb727, 1, none⟩ = some (.int .i64 0) := (blk_cell BK727.out 1).trans rfl; have hfs31 := blk_frozen BK727.out 1; have hns31_0 := NB725_727.out; have hns31_1 := NB726_727.out; have hns31_3 := NB733_727.out; have hns31_4 := NB734_727.out; have hms31_0 := NB727_725.out; have hms31_1 := NB727_726.out; have hms31_3 := NB727_733.out; have hms31_4 := NB727_734.out; refine skip_ (w1 := ?_) (by rfl) rfl ?_ ?_; rotate_left
  ·
   go_simp
   rfl
  refine hK.out _ _ ⟨(cf2_y NB733_727.out hHeld.1), (cf2_y NB733_727.out hHeld.2.1), (cf2_y NB734_727.out hHeld.2.2.1), (cf2_y NB734_727.out hHeld.2.2.2)⟩ (fun hHeld => ?_); clear hK K; refine pure_y 4 (some 6) #[true, true, true, true, true] ?_; refine done_ (by kernel_rfl) ?_
  try go_wp2
  refine bodyPost_ret (results_list (rs := [.cell 4 56, .cell 5 56, .tmp 6]) rfl (by simp) (.cell gb726 56 #[.int .i64 t729, .int .i64 t730] (0, 0) _ rfl (blk_z BK726.out) Try.underlying56 rfl (by kernel_rfl) (.cell gb727 56 #[.int .i64 t731, .int .i64 t732] (0, 0) _ rfl (by (with_reducible repeat (first | refine blk_drewN ?_ _ | refine blk_drew ?_ | refine blk_alloc ?_ _)); refine blk_put (cs := #[.int .i64 t731, .int .i64 0]) ?_ 1 _ rfl; (with_reducible repeat (first | refine blk_drewN ?_ _ | refine blk_drew ?_ | refine blk_alloc ?_ _)); refine blk_put (cs := #[.int .i64 0, .int .i64 0]) ?_ 0 _ rfl; exact blk_w BK727.out) Try.underlying56 rfl (by kernel_rfl) (.tmp .nil)))) rfl ?_; exact rt_y HB
 ·
  rw [if_neg c4] at H; have c4b0 : (t728 == 0) = false := beq_eq_false_iff_ne.mpr c4; have c4b1 : (t728 != 0) = true := bne_iff_ne.mpr c4; simp only [Option.some.injEq, Prod.mk.injEq] at H; obtain ⟨rfl, rfl, rfl, rfl, rfl⟩ := H; go_enter Try.func36, Try.ntmps36
  go_wp2_with (first | (refine box_r (N := 2) rfl (cs := #[.int .i64 a0_0, .int .i64 a0_1, .int .i64 a0_2, .slice A0_3 l0_3.length c0_3, .int .i64 a0_4, .slice A0_5 l0_5.length c0_5, .slice A0_6 l0_6.length c0_6]) (t := 26) ?_; intro gb725 hg w32 hbox hb; have BK725 := Aside0.mk (hbox); have GW725 := gw_x hg HB; have GE725 := GW725; replace HB := Aside0.mk (below_step (below_x HB.out) hb); clear hb hbox hg) | (refine box_r (N := 4) rfl (cs := #[.int .i64 0, .int .i64 0]) (t := 56) ?_; intro gb726 hg w33 hbox hb; have BK726 := Aside0.mk (hbox); have GW726 := gw_x hg HB; have GE726 := GW726; replace HB := bl_x HB hb; have NB725_726 := nb_x hg BK725; have NB726_725 := nb_y hg BK725; replace BK725 := bk_x BK725 hb; clear hb hbox hg) | (refine box_r (N := 5) rfl (cs := #[.int .i64 0, .int .i64 0]) (t := 56) ?_; intro gb727 hg w34 hbox hb; have BK727 := Aside0.mk (hbox); have GW727 := gw_x hg HB; have GE727 := GW727; replace HB := bl_x HB hb; have NB725_727 := nb_x hg BK725; have NB727_725 := nb_y hg BK725; replace BK725 := bk_x BK725 hb; have NB726_727 := nb_x hg BK726; have NB727_726 := nb_y hg BK726; replace BK726 := bk_x BK726 hb; clear hb hbox hg; have hnb35 := NB725_726.out; have hnc35 := NB726_725.out; have hnb36 := NB725_727.out; have hnc36 := NB727_725.out; obtain ⟨hfz37_0, _, _, _, _, _, _, _⟩ := cf7 BK725) | (refine goesG_x 41 rfl (some 12) Try.func41 #[.agg #[.int .i64 a0_0, .int .i64 a0_1, .int .i64 a0_2, .slice A0_3 l0_3.length c0_3, .int .i64 a0_4, .slice A0_5 l0_5.length c0_5, .slice A0_6 l0_6.length c0_6], .slice A1 l1.length c1] ?_; (with_reducible refine (swarfref07_CheckStowage.calls k a0_0 a0_1 a0_2 _ _ l0_3 a0_4 _ _ l0_5 _ _ l0_6 _ _ l1 t728 _ ?side1 ?side2 ?side3 ?side4 ?side5 ?side6 ?side7 ?side8 A3.out).mono ?_); (case side1 => exact Kd.C_x HR0_3.out HB.out); (case side2 => exact HC0_3.out); (case side3 => exact Kd.C_x HR0_5.out HB.out); (case side4 => exact HC0_5.out); (case side5 => exact Kd.C_x HR0_6.out HB.out); (case side6 => exact HC0_6.out); (case side7 => exact Kd.C_x HR1.out HB.out); (case side8 => exact HC1.out); rintro e w38 ⟨rfl, hb⟩; refine ⟨_, rfl, ?_⟩; replace BK725 := bk_x BK725 hb; replace BK726 := bk_x BK726 hb; replace BK727 := bk_x BK727 hb; replace HB := bl_x HB hb; (try clear hb); (try clear hk); (try clear hi); have hnb39 := NB726_727.out; have hnc39 := NB727_726.out; obtain ⟨hfz40_0, _, _⟩ := cf2 BK726; obtain ⟨hfz41_0, _, _⟩ := cf2 BK727))
  refine bodyPost_ret (results_list (rs := [.cell 4 56, .cell 5 56, .tmp 6]) rfl (by simp) (.cell gb726 56 #[.int .i64 0, .int .i64 0] (0, 0) _ rfl (blk_z BK726.out) Try.underlying56 rfl (by kernel_rfl) (.cell gb727 56 #[.int .i64 0, .int .i64 0] (0, 0) _ rfl (by (with_reducible repeat (first | refine blk_drewN ?_ _ | refine blk_drew ?_ | refine blk_alloc ?_ _)); refine blk_put (cs := #[.int .i64 0, .int .i64 0]) ?_ 1 _ rfl; (with_reducible repeat (first | refine blk_drewN ?_ _ | refine blk_drew ?_ | refine blk_alloc ?_ _)); refine blk_put (cs := #[.int .i64 0, .int .i64 0]) ?_ 0 _ rfl; exact blk_w BK727.out) Try.underlying56 rfl (by kernel_rfl) (.tmp .nil)))) rfl ?_; exact rt_y HB
end Go.Proofs.Ytodmemndaaiolaa.PC7
namespace Go.Proofs.Ytodmemndaaiolaa.PC7
set_option linter.unusedVariables false
set_option linter.unusedSimpArgs false
open Go.RowKit Go.Proofs.YtodmemndaaiolaaW.PrintWords Go.Proofs.YtodmemndaaiolaaW.PrintLast Go.Proofs.YtodmemndaaiolaaW.PrintMore
theorem drafts_both {L U R V : Int} {holds : List S85} {sills : List S59} {lots : List S79} (hn : Narrow holds sills lots) (s : List Int) (hsl : s.length ≤ 1000) :
    ∃ a b c d e : Int, ship_Drafts.f L U R holds V sills lots s = some (a, b, c, d, e) ∧ Ev (fun k => swarfref07_Drafts.f k L U R holds V sills lots s) (a, b, c, d, e) := by
  have hc := limO_of (shipCS_ev (L := L) (U := U) (R := R) (V := V) hn s hsl)
  have hr := refCS_ev (L := L) (U := U) (R := R) (V := V) hn s hsl
  by_cases h0 : stowingE L U R holds V sills lots s = 0
  · obtain ⟨hv, hs, hrg⟩ := stowing_zero h0
    rw [h0] at hc hr
    have hli := hv.light; have hln := hv.ln
    have hw : wrap64 (1000 * L) = 1000 * L := wrap64_id (by omega) (by omega)
    have hq0 : QOK (10000000 + 50000000 * ((0 : Nat) : Int)) ⟨wrap64 (1000 * L), wrap64 (1000 * L), wrap64 (1000 * L), wrap64 (1000 * L)⟩ := by
      rw [hw]; exact ⟨⟨by show 0 ≤ 1000 * L; omega, Int.le_refl _⟩, ⟨by show 0 ≤ 1000 * L; omega, Int.le_refl _⟩, by show 1000 * L ≤ _; omega, by show 1000 * L ≤ _; omega⟩
    obtain ⟨q, k1, k2, k3, k4⟩ := lad_both L U R V holds sills lots (fun x hx => ⟨(hv.ho x hx).2.1, (hv.ho x hx).2.2⟩) (fun c hc => by obtain ⟨a, b, c, _⟩ := hv.lo c hc; exact ⟨a, b, c⟩) hn.h hn.l s hs hrg lots.length 0 _ (by omega) hq0
    rw [List.drop_zero] at k1
    have hlg := lightest_ev L U R V holds sills lots (by omega) lots.length 0 [] (by omega) rfl
    have hhv := heaviest_ev L U R V holds sills lots (by omega) lots.length 0 [] (by omega) rfl
    rw [List.drop_zero, List.nil_append] at hlg hhv
    have hdr : Ev (fun k => swarfref07_drafts.f k L U R holds V sills lots s) (q.b0, q.h0, q.b1, q.h1) := by
      unfold swarfref07_drafts.f
      refine Ev.bind (show Ev (fun k => swarfref07_Lightest.f k L U R holds V sills lots) _ from hlg) ?_
      refine Ev.bind (show Ev (fun k => swarfref07_Ends.f k L U R holds V sills lots s (lots.map fun c => c.f0.f0)) _ from k3) ?_
      refine Ev.bind (show Ev (fun k => swarfref07_Heaviest.f k L U R holds V sills lots) _ from hhv) ?_
      exact Ev.bind (show Ev (fun k => swarfref07_Ends.f k L U R holds V sills lots s (lots.map fun c => c.f0.f1)) _ from k4) (Ev.now _)
    refine ⟨q.b0, q.h0, q.b1, q.h1, 0, ?_, ?_⟩
    · unfold ship_Drafts.f
      refine Option.bind_eq_some_iff.2 ⟨_, hc, ?_⟩
      rw [if_pos rfl, if_pos (by omega)]
      exact Option.bind_eq_some_iff.2 ⟨_, k1, rfl⟩
    · unfold swarfref07_Drafts.f
      refine Ev.bind hr ?_
      simp only [if_true]
      exact Ev.bind hdr (Ev.now _)
  · refine ⟨0, 0, 0, 0, stowingE L U R holds V sills lots s, ?_, ?_⟩
    · unfold ship_Drafts.f
      exact Option.bind_eq_some_iff.2 ⟨_, hc, by rw [if_neg h0]⟩
    · unfold swarfref07_Drafts.f
      refine Ev.bind hr ?_
      simp only [if_neg h0]; exact Ev.now _
end Go.Proofs.Ytodmemndaaiolaa.PC7
namespace Go.Proofs.Ytodmemndaaiolaa.PC7
open Go.RowKit Go.Proofs.YtodmemndaaiolaaW.PrintWords Go.Proofs.YtodmemndaaiolaaW.PrintLast Go.Proofs.YtodmemndaaiolaaW.PrintMore
attribute [local go_sem] max2_int min2_int max_two min_two max_three min_three max_four min_four
set_option linter.unusedVariables false
set_option linter.unusedSimpArgs false
end Go.Proofs.Ytodmemndaaiolaa.PC7
namespace Go.Proofs.Ytodmemndaaiolaa.PC7
set_option linter.unusedVariables false
set_option linter.unusedSimpArgs false
open Go.RowKit Go.Proofs.YtodmemndaaiolaaW.PrintWords Go.Proofs.YtodmemndaaiolaaW.PrintLast Go.Proofs.YtodmemndaaiolaaW.PrintMore
end Go.Proofs.Ytodmemndaaiolaa.PC7
namespace Go.Proofs.Ytodmemndaaiolaa.PC7
set_option linter.unusedVariables false
open Go.RowKit Go.Shelf Go.Proofs.YtodmemndaaiolaaW.PrintWords Go.Proofs.YtodmemndaaiolaaW.PrintLast Go.Proofs.YtodmemndaaiolaaW.PrintMore
def GivesR {α : Type} (n g : Nat) (lb : Array Value) (encs : α → Array Value) (Rx : Nat → α → World → Prop) (Kp : World → World → Prop) (S : List α → Prop) (w : World) : Prop :=
  ∀ (l : Nat) (J : Nat → List α → World → Prop) (W : World), Below w.heap.size w W → (∀ b, AbidesFrom W.heap.size (J b)) → (∀ b pre A i v, W.heap.size ≤ b → J b pre A → A.cell? ⟨b, i, none⟩ ≠ none → J b pre (A.setCell ⟨b, i, none⟩ v)) →
    (∀ b pre x W1, W.heap.size ≤ b → J b pre W1 → Rx b x W1 → YieldAt Fence.wide (n - 1) Try.prog l (encs x) W1 fun e W' => e = .returned (.bool true) ∧ J b (pre ++ [x]) W' ∧ Kp W1 W') →
    (∀ b, W.heap.size ≤ b → J b [] W) → CallsIn Fence.wide n Try.prog g (#[.func (.yield l) #[] #[]] ++ lb) W fun e W' => (∃ v, e = .returned v) ∧ ∃ b xs, W.heap.size ≤ b ∧ S xs ∧ J b xs W'
def roundOwes {α : Type} (Kp : World → World → Prop) (I : List α → World → Prop) (xs : List α) (W : World) : Exit → Act → World → Prop
  | .normal, _, W' => KeepsOthers W W' ∧ Kp W W' ∧ I xs W'
  | _, _, _ => False
theorem loop_far {W : World} {l b i : Nat} {r : Loop} {v : Value} (h : W.heap[l]? = some (.loop r)) (hc : W.cell? ⟨b, i, none⟩ ≠ none) : (W.setCell ⟨b, i, none⟩ v).heap[l]? = some (.loop r) := by
  have hne : l ≠ b := fun e => by subst e; simp [World.cell?, h] at hc
  rw [Below.heap_setCell _ _ _ _ hne]; exact h
theorem defer_far {W : World} {l b i : Nat} {v : Value} {d : Option (List Deferred)} (h : W.heap[l]? = some (.deferred d)) (hc : W.cell? ⟨b, i, none⟩ ≠ none) : (W.setCell ⟨b, i, none⟩ v).heap[l]? = some (.deferred d) := by
  have hne : l ≠ b := fun e => by subst e; simp [World.cell?, h] at hc
  rw [Below.heap_setCell _ _ _ _ hne]; exact h
theorem range_gives {α : Type} {g : Operand} {ps : Array Tmp} {assign body : Code} {Q : Exit → Act → World → Prop} {a : Act} {w w0 : World} {n gf : Nat} {lb : Array Value} (h1 : 1 ≤ n)
    (hg : a.eval g = .func (.func gf) #[] lb) (eg : ∀ args w, (callFunc gf args).run Try.prog w = .ok (.enter gf args) w)
    {encs : α → Array Value} {Rx : Nat → α → World → Prop} {Kp : World → World → Prop} {S : List α → Prop} (hseq : GivesR (n - 1) gf lb encs Rx Kp S w0)
    (hKt : ∀ {A B C : World}, Kp A B → Kp B C → Kp A C) (hKb : ∀ (W : World) (l : Nat) (o o' : Obj), W.heap[l]? = some o → o.isCells = false → Kp W (W.putObj l o'))
    (hRb : ∀ (b : Nat) (x : α) (W : World) (l : Nat) (o o' : Obj), W.heap[l]? = some o → o.isCells = false → Rx b x W → Rx b x (W.putObj l o'))
    (hb0 : Below w0.heap.size w0 w) (hps : ∀ x, (encs x).size = ps.size) (I : Nat → List α → World → Prop) (hI : ∀ b, OwnFrom w.heap.size (I b)) (hIs : ∀ b pre A i v, w.heap.size ≤ b → I b pre A → A.cell? ⟨b, i, none⟩ ≠ none → I b pre (A.setCell ⟨b, i, none⟩ v)) (h0 : ∀ b, w.heap.size ≤ b → I b [] w) (a₁ : α → Act)
    (hassign : ∀ (l : Nat) (x : α) (W : World) (K : Act → World → Prop), K (a₁ x) W →
      assign.wpIn (Fence.wide.inRound l) (n - 1 - 1) Try.prog (Exit.then K (fun _ _ _ => False)) { tmps := (ps.zip (encs x)).foldl (fun t (p, v) => t.setIfInBounds p v) a.tmps, defers := [] } W)
    (hbody : ∀ (l b : Nat) (pre : List α) (x : α) (W : World), w.heap.size ≤ b → I b pre W → Rx b x W → body.wpIn (Fence.wide.inRound l) (n - 1 - 1) Try.prog (roundOwes Kp (I b) (pre ++ [x]) W) (a₁ x) W)
    (hdone : ∀ (D b : Nat) (xs : List α) (W : World), w.heap.size ≤ D → w.heap.size ≤ b → S xs → I b xs W → W.heap[D]? = some (.deferred (some [])) → Q .normal { a with defers := { target := .collected D, args := #[] } :: a.defers } W) :
    (Code.rangeFunc g ps assign body).wpIn Fence.wide n Try.prog Q a w := by
  refine wpIn_rangeFunc fun fn hfn => ?_
  obtain ⟨r0, hr0⟩ : ∃ r : Loop, r = { state := .ready, pending := none, fn, tmps := a.tmps, params := ps, assign, body, defers := w.heap.size } := ⟨_, rfl⟩
  have hsz : ∀ W : World, W = (w.alloc (.deferred (some []))).alloc (.loop r0) → W.heap[w.heap.size + 1]? = some (.loop r0) ∧ W.heap[w.heap.size]? = some (.deferred (some [])) ∧ W.heap.size = w.heap.size + 2 := by
    rintro W rfl
    refine ⟨?_, (Below.heap_alloc _ _ _ (by simp)).trans (World.alloc_heap_new w _), by simp⟩
    have := World.alloc_heap_new (w.alloc (.deferred (some []))) (.loop r0)
    rwa [World.size_alloc] at this
  obtain ⟨Ws, hWs⟩ : ∃ W : World, W = (w.alloc (.deferred (some []))).alloc (.loop r0) := ⟨_, rfl⟩
  obtain ⟨hL, hD, hS⟩ := hsz Ws hWs
  refine ⟨w.heap.size + 1, [{ target := .collected w.heap.size, args := #[] }], Ws, { target := .fn (.func gf) lb, args := #[.func (.yield (w.heap.size + 1)) #[] #[]] }, Ws, gf, #[.func (.yield (w.heap.size + 1)) #[] #[]] ++ lb, Ws, ?_, ?_, ?_, ?_, fun _ => h1, ?_⟩
  · rw [hWs, hr0]; exact run_enterLoop_outer _ _ _ _ _
  · simp only [resolve, hg]; simp [go_sem]
  · intro f' hf'; simp [Target.leads] at hf'; subst hf'; trivial
  · simp [invoke, go_sem, eg]
  have walkNo : ∀ {A : World} {row : Option Nat}, (∀ r, row = some r → Ws.heap.size ≤ r ∧ ∃ o : Obj, A.heap[r]? = some o ∧ o.isWalk = true) → ∀ r, row = some r → w.heap.size ≤ r ∧ ∃ o : Obj, A.heap[r]? = some o ∧ o.isCells = false := by
    intro A row hr r e
    obtain ⟨hB, o, ho, hw⟩ := hr r e
    exact ⟨by omega, o, ho, Obj.not_cells_of_walk hw⟩
  refine (hseq (w.heap.size + 1) (fun b pre W => I b pre W ∧ W.heap[w.heap.size + 1]? = some (.loop r0) ∧ W.heap[w.heap.size]? = some (.deferred (some []))) Ws (by rw [hWs]; exact hb0.trans ((((Below.refl _ w).alloc (Nat.le_refl _) _).alloc (by simp) _).mono hb0.size)) ?_ ?_ ?_
    (fun b hb => ⟨by rw [hWs]; exact (hI b).alloc _ ((hI b).alloc _ (h0 b (by omega))), hL, hD⟩)).mono ?_
  · intro b s A B row hs hgr hr
    exact ⟨hI b s A B row hs.1 hgr (walkNo hr), (grownBy_keeps hgr (fun r e => (hr r e).2) hs.2.1 rfl).trans hs.2.1, (grownBy_keeps hgr (fun r e => (hr r e).2) hs.2.2 rfl).trans hs.2.2⟩
  · rintro b pre A i v hb ⟨hi, hl, hd⟩ hc
    exact ⟨hIs b pre A i v (by omega) hi hc, loop_far hl hc, defer_far hd hc⟩
  · rintro b pre x W hb ⟨hi, hl, hd⟩ hrx
    have hy := run_yield (P := Try.prog) (args := encs x) hl (by rw [hr0]; exact hps x)
    rw [hr0] at hy
    refine ⟨fn, _, assign, body, hy, roundIn_of_wpIn hfn (hassign _ x W _ ?_)⟩
    clear hy
    have hlt := (Array.getElem?_eq_some_iff.1 hl).1
    refine ⟨_, run_beginRound hl (by rw [hr0]), ?_⟩
    have hl2 : (W.putObj (w.heap.size + 1) (.loop { r0 with state := .busy })).heap[w.heap.size + 1]? = some (.loop { r0 with state := .busy }) := World.putObj_heap_same hlt
    have hd2 : (W.putObj (w.heap.size + 1) (.loop { r0 with state := .busy })).heap[w.heap.size]? = some (.deferred (some [])) := (World.putObj_heap_other (by omega)).trans hd
    refine wpIn_mono (hbody _ b pre x _ (by omega) ((hI b).putObj _ hi (by omega) hl rfl) (hRb b x _ _ _ _ hl rfl hrx)) ?_
    rintro e a3 W3 hp
    cases e with
    | normal =>
      obtain ⟨hk3, hkp3, hi3⟩ := hp
      have hl3 := hk3.same _ _ hl2 rfl
      have hd3 := hk3.same _ _ hd2 rfl
      have hend := run_endRound (P := Try.prog) none hl3
      refine ⟨_, _, hend, rfl, ⟨(hI b).putObj _ hi3 (by omega) hl3 rfl, ?_, (World.putObj_heap_other (by omega)).trans hd3⟩, hKt (hKb _ _ _ _ hl rfl) (hKt hkp3 (hKb _ _ _ _ hl3 rfl))⟩
      refine (World.putObj_heap_same (Array.getElem?_eq_some_iff.1 hl3).1).trans ?_
      rw [hr0]
      rfl
    | ret => exact hp.elim
    | exit id => exact hp.elim
    | goto t => exact hp.elim
    | panic ch => exact hp.elim
    | outgrown => exact hp.elim
  · rintro e W2 ⟨⟨v, rfl⟩, b, xs, hb, hS2, hi, hl, hd⟩
    have hend := run_endLoop (P := Try.prog) hl (by rw [hr0]; simp)
    have hpend : r0.pending = none := by rw [hr0]
    rw [hpend] at hend
    exact ⟨none, _, hend, hdone _ b xs _ (Nat.le_refl _) (by omega) hS2 ((hI b).putObj _ hi (by omega) hl rfl) ((World.putObj_heap_other (by omega)).trans hd)⟩
end Go.Proofs.Ytodmemndaaiolaa.PC7
namespace Go.Proofs.Ytodmemndaaiolaa.PC7
set_option linter.unusedVariables false
def nextL (H : Int) : List Int → Option (List Int)
  | [] => none
  | d :: t => match nextL H t with
    | some t' => some (d :: t')
    | none => if d = H - 1 then none else some ((d + 1) :: List.replicate t.length (-1))
theorem nextL_app (H : Int) (t t' : List Int) (h : nextL H t = some t') : ∀ a : List Int, nextL H (a ++ t) = some (a ++ t')
  | [] => h
  | d :: a => by simp only [List.cons_append, nextL, nextL_app H t t' h a]
theorem nextL_rep (H : Int) : ∀ k, nextL H (List.replicate k (H - 1)) = none
  | 0 => rfl
  | k + 1 => by rw [List.replicate_succ]; simp only [nextL, nextL_rep H k, if_true]
theorem nextL_at (H d : Int) (a : List Int) (k : Nat) (h : d ≠ H - 1) : nextL H (a ++ d :: List.replicate k (H - 1)) = some (a ++ (d + 1) :: List.replicate k (-1)) := by
  refine nextL_app H _ _ ?_ a
  simp only [nextL, nextL_rep, if_neg h, List.length_replicate]
inductive Runs {α : Type} (f : α → Option α) : List α → Option α → Prop
  | one (x : α) (e : Option α) (h : f x = e) : Runs f [x] e
  | cons (x y : α) (r : List α) (e : Option α) (h : f x = some y) (hr : Runs f (y :: r) e) : Runs f (x :: y :: r) e
theorem Runs.app {α : Type} {f : α → Option α} {A : List α} {eA : Option α} (h : Runs f A eA) : ∀ {b : α} {B : List α} {e : Option α}, eA = some b → Runs f (b :: B) e → Runs f (A ++ b :: B) e := by
  induction h with
  | one x e0 hx => intro b B e hb hB; subst hb; exact .cons _ _ _ _ hx hB
  | cons x y r e0 hx hr ih => intro b B e hb hB; exact .cons _ _ _ _ hx (ih hb hB)
theorem Runs.get {α : Type} {f : α → Option α} {L : List α} {e : Option α} (h : Runs f L e) : e = none → ∀ k x, L[k]? = some x → f x = L[k + 1]? := by
  induction h with
  | one x e hx => intro he k y hy; cases k with
    | zero => simp at hy; subst hy; rw [hx, he]; rfl
    | succ k => simp at hy
  | cons x y r e hx hr ih => intro he k z hz; cases k with
    | zero => simp at hz; subst hz; rw [hx]; rfl
    | succ k => exact ih he k z hz
theorem Runs.consed (H d : Int) (n : Nat) {L : List (List Int)} {e : Option (List Int)} (h : Runs (nextL H) L e) : e = none → (∀ t ∈ L, t.length = n) →
    Runs (nextL H) (L.map (d :: ·)) (if d = H - 1 then none else some ((d + 1) :: List.replicate n (-1))) := by
  induction h with
  | one x e hx =>
    intro he hl
    refine .one _ _ ?_
    rw [he] at hx
    simp only [nextL, hx, hl x (by simp)]
  | cons x y r e hx hr ih =>
    intro he hl
    refine .cons _ _ _ _ ?_ (ih he fun t ht => hl t (by simp_all))
    simp only [nextL, hx]
def stowsL (H : Nat) : Nat → List (List Int)
  | 0 => [[]]
  | n + 1 => (List.range (H + 1)).flatMap fun (d : Nat) => (stowsL H n).map fun t => ((d : Int) - 1) :: t
theorem stowsL_mem (H : Nat) : ∀ n t, t ∈ stowsL H n → t.length = n ∧ ∀ y ∈ t, -1 ≤ y ∧ y < (H : Int)
  | 0, t, h => by simp [stowsL] at h; subst h; simp
  | n + 1, t, h => by
    simp only [stowsL, List.mem_flatMap, List.mem_range, List.mem_map] at h
    obtain ⟨d, hd, s, hs, rfl⟩ := h
    obtain ⟨h1, h2⟩ := stowsL_mem H n s hs
    refine ⟨by simp [h1], fun y hy => ?_⟩
    rcases List.mem_cons.1 hy with rfl | hy
    · omega
    · exact h2 y hy
theorem stowsL_head (H : Nat) : ∀ n, ∃ r, stowsL H n = List.replicate n (-1) :: r
  | 0 => ⟨[], rfl⟩
  | n + 1 => by
    obtain ⟨r, hr⟩ := stowsL_head H n
    simp only [stowsL, List.range_succ_eq_map, List.flatMap_cons, hr, List.map_cons, List.cons_append, List.replicate_succ]
    exact ⟨_, rfl⟩
theorem stowsL_runs (H : Nat) : ∀ n, Runs (nextL H) (stowsL H n) none
  | 0 => .one _ _ rfl
  | n + 1 => by
    have ih := stowsL_runs H n
    have hl : ∀ t ∈ stowsL H n, t.length = n := fun t ht => (stowsL_mem H n t ht).1
    have key : ∀ k, k ≤ H → Runs (nextL H) ((List.range (k + 1)).flatMap fun (d : Nat) => (stowsL H n).map fun t => ((d : Int) - 1) :: t) (if k = H then none else some ((k : Int) :: List.replicate n (-1))) := by
      intro k
      induction k with
      | zero =>
        intro hk
        have h := Runs.consed H ((0 : Nat) - 1) n ih rfl hl
        have e : (if (((0 : Nat) : Int) - 1) = (H : Int) - 1 then none else some ((((0 : Nat) : Int) - 1 + 1) :: List.replicate n (-1))) = (if 0 = H then none else some (((0 : Nat) : Int) :: List.replicate n (-1))) := by
          by_cases h0 : 0 = H
          · rw [if_pos h0, if_pos (by omega)]
          · rw [if_neg h0, if_neg (by omega)]; congr 2
        rw [e] at h
        simpa using h
      | succ k ihk =>
        intro hk
        have h1 := ihk (by omega)
        rw [if_neg (by omega)] at h1
        have h2 := Runs.consed H (((k + 1 : Nat) : Int) - 1) n ih rfl hl
        have e : (if (((k + 1 : Nat) : Int) - 1) = (H : Int) - 1 then none else some ((((k + 1 : Nat) : Int) - 1 + 1) :: List.replicate n (-1))) = (if k + 1 = H then none else some (((k + 1 : Nat) : Int) :: List.replicate n (-1))) := by
          by_cases h0 : k + 1 = H
          · rw [if_pos h0, if_pos (by omega)]
          · rw [if_neg h0, if_neg (by omega)]; congr 2; omega
        rw [e] at h2
        obtain ⟨r, hr⟩ := stowsL_head H n
        rw [List.range_succ, List.flatMap_append, List.flatMap_singleton]
        have hd : (((k + 1 : Nat) : Int) - 1) = (k : Int) := by omega
        rw [hr, List.map_cons, hd] at h2 ⊢
        rw [← hr]
        exact h1.app rfl h2
    have := key H (Nat.le_refl _)
    rw [if_pos rfl] at this
    exact this
theorem stowsL_next (H n k : Nat) (x : List Int) (h : (stowsL H n)[k]? = some x) : nextL H x = (stowsL H n)[k + 1]? := (stowsL_runs H n).get rfl k x h
def curL (t : List Int) (j : Nat) : List Int := t.take j ++ List.replicate (t.length - j) (-1)
theorem curL_all (t : List Int) : curL t t.length = t := by simp [curL]
theorem take_snoc (t : List Int) (j : Nat) (h : j < t.length) : t.take (j + 1) = t.take j ++ [t.getD j 0] := by
  rw [List.take_succ_eq_append_getElem h, List.getD, List.getElem?_eq_getElem h]; rfl
theorem curL_get (t : List Int) (j : Nat) (h : j < t.length) : (curL t (j + 1))[j]? = some (t.getD j 0) := by
  rw [curL, take_snoc t j h, List.append_assoc, List.getElem?_append_right (by simp; omega)]
  simp [Nat.min_eq_left (Nat.le_of_lt h)]
theorem curL_set (t : List Int) (j : Nat) (y : Int) (h : j < t.length) : (curL t (j + 1)).set j y = t.take j ++ y :: List.replicate (t.length - (j + 1)) (-1) := by
  rw [curL, take_snoc t j h, List.append_assoc, List.set_append_right _ _ (by simp; omega)]
  simp [Nat.min_eq_left (Nat.le_of_lt h)]
theorem curL_back (t : List Int) (j : Nat) (h : j < t.length) : (curL t (j + 1)).set j (-1) = curL t j := by
  rw [curL_set t j _ h, curL, show t.length - j = t.length - (j + 1) + 1 by omega, List.replicate_succ]
theorem full_back (t : List Int) (H : Int) (j : Nat) (h : j < t.length) (hf : t = t.take (j + 1) ++ List.replicate (t.length - (j + 1)) (H - 1)) (hd : t.getD j 0 = H - 1) : t = t.take j ++ List.replicate (t.length - j) (H - 1) := by
  have hf2 := hf
  rw [take_snoc t j h, hd, List.append_assoc] at hf2
  rw [show t.length - j = t.length - (j + 1) + 1 by omega, List.replicate_succ]
  exact hf2
theorem next_at (t : List Int) (H : Int) (j : Nat) (h : j < t.length) (hf : t = t.take (j + 1) ++ List.replicate (t.length - (j + 1)) (H - 1)) (hd : t.getD j 0 ≠ H - 1) : nextL H t = some ((curL t (j + 1)).set j (t.getD j 0 + 1)) := by
  rw [curL_set t j _ h]
  have hf2 := hf
  rw [take_snoc t j h, List.append_assoc] at hf2
  have h3 := nextL_at H (t.getD j 0) (t.take j) (t.length - (j + 1)) hd
  rw [show t.take j ++ t.getD j 0 :: List.replicate (t.length - (j + 1)) (H - 1) = t from hf2.symm] at h3
  exact h3
theorem next_none (t : List Int) (H : Int) (hf : t = t.take 0 ++ List.replicate (t.length - 0) (H - 1)) : nextL H t = none := by
  rw [hf]; simp only [List.take_zero, List.nil_append]; exact nextL_rep H _
theorem map_set_int (l : List Int) (j : Nat) (y : Int) : ((l.map (Value.int .i64)).toArray.setIfInBounds j (.int .i64 y)) = ((l.set j y).map (Value.int .i64)).toArray := by
  simp [List.map_set]
theorem enum_more {T : List (List Int)} {pre : List (Value × List Int)} {k : Nat} {t : List Int} (v : Value) (hp : pre.map (·.2) = T.take k) (ht : T[k]? = some t) : (pre ++ [(v, t)]).map (·.2) = T.take (k + 1) := by
  obtain ⟨h, e⟩ := List.getElem?_eq_some_iff.1 ht
  rw [List.map_append, hp, List.take_succ_eq_append_getElem h, e]; rfl
theorem enum_done {T : List (List Int)} {pre : List (Value × List Int)} {k : Nat} {t : List Int} (v : Value) (hp : pre.map (·.2) = T.take k) (ht : T[k]? = some t) (hn : T[k + 1]? = none) : (pre ++ [(v, t)]).map (·.2) = T := by
  rw [enum_more v hp ht]
  exact List.take_of_length_le (List.getElem?_eq_none_iff.1 hn)
end Go.Proofs.Ytodmemndaaiolaa.PC7
namespace Go.Proofs.Ytodmemndaaiolaa.PC7
open Go.RowKit Go.Proofs.YtodmemndaaiolaaW.PrintWords Go.Proofs.YtodmemndaaiolaaW.PrintLast Go.Proofs.YtodmemndaaiolaaW.PrintMore
attribute [local go_sem] max2_int min2_int max_two min_two max_three min_three max_four min_four
set_option linter.unusedVariables false
set_option linter.unusedSimpArgs false
def bits_Mul64.f (a0 : Int) (a1 : Int) : Option (Int × Int) := some (IntKind.u64.wrap ((IntKind.u64.wrap ((IntKind.u64.wrap ((a0 / 4294967296) * (a1 / 4294967296))) + ((IntKind.u64.wrap ((IntKind.u64.wrap ((a0 / 4294967296) * (Go.bits .and .u64 a1 4294967295))) + ((IntKind.u64.wrap ((Go.bits .and .u64 a0 4294967295) * (Go.bits .and .u64 a1 4294967295))) / 4294967296))) / 4294967296))) + ((IntKind.u64.wrap ((Go.bits .and .u64 (IntKind.u64.wrap ((IntKind.u64.wrap ((a0 / 4294967296) * (Go.bits .and .u64 a1 4294967295))) + ((IntKind.u64.wrap ((Go.bits .and .u64 a0 4294967295) * (Go.bits .and .u64 a1 4294967295))) / 4294967296))) 4294967295) + (IntKind.u64.wrap ((Go.bits .and .u64 a0 4294967295) * (a1 / 4294967296))))) / 4294967296)), IntKind.u64.wrap (a0 * a1))
set_option maxHeartbeats 8000000 in
set_option maxRecDepth 100000 in
theorem bits_Mul64.calls (a0 : Int) (a1 : Int) (r1 : Int) (r2 : Int) (w : World) (h : bits_Mul64.f a0 a1 = some (r1, r2)) :
  Calls Try.prog 92 #[.int .u64 a0, .int .u64 a1] w fun e w' => e = .returned (.tuple #[.int .u64 r1, .int .u64 r2]) ∧ Drawn0 w w' := by
 have H : (some (IntKind.u64.wrap ((IntKind.u64.wrap ((IntKind.u64.wrap ((a0 / 4294967296) * (a1 / 4294967296))) + ((IntKind.u64.wrap ((IntKind.u64.wrap ((a0 / 4294967296) * (Go.bits .and .u64 a1 4294967295))) + ((IntKind.u64.wrap ((Go.bits .and .u64 a0 4294967295) * (Go.bits .and .u64 a1 4294967295))) / 4294967296))) / 4294967296))) + ((IntKind.u64.wrap ((Go.bits .and .u64 (IntKind.u64.wrap ((IntKind.u64.wrap ((a0 / 4294967296) * (Go.bits .and .u64 a1 4294967295))) + ((IntKind.u64.wrap ((Go.bits .and .u64 a0 4294967295) * (Go.bits .and .u64 a1 4294967295))) / 4294967296))) 4294967295) + (IntKind.u64.wrap ((Go.bits .and .u64 a0 4294967295) * (a1 / 4294967296))))) / 4294967296)), IntKind.u64.wrap (a0 * a1))) = some (r1, r2) := h
 clear h
 simp only [Option.some.injEq, Prod.mk.injEq] at H
 obtain ⟨rfl, rfl⟩ := H
 go_enter Try.func92, Try.ntmps92
 go_wp2
 go_ret2
 exact ⟨by first | rfl | (simp; done) | (simp [*]; done), by repeat (first | exact Drawn0.refl _ | apply Drawn0.step)⟩
def bits_Mul.f (a0 : Int) (a1 : Int) : Option (Int × Int) := (bits_Mul64.f a0 a1).bind fun bt155 => (some (bt155.1, bt155.2))
set_option maxHeartbeats 8000000 in
set_option maxRecDepth 100000 in
theorem bits_Mul.calls (a0 : Int) (a1 : Int) (r1 : Int) (r2 : Int) (w : World) (h : bits_Mul.f a0 a1 = some (r1, r2)) :
  Calls Try.prog 90 #[.int .u64 a0, .int .u64 a1] w fun e w' => e = .returned (.tuple #[.int .u64 r1, .int .u64 r2]) ∧ Drawn0 w w' := by
 have H : ((bits_Mul64.f a0 a1).bind fun bt155 => (some (bt155.1, bt155.2))) = some (r1, r2) := h
 clear h
 replace H := Option.bind_eq_some_iff.mp H
 obtain ⟨⟨t155, t156⟩, A30, H⟩ := H
 replace H : (some (t155, t156)) = some (r1, r2) := H
 have A3 := Aside0.mk A30
 clear A30
 simp only [Option.some.injEq, Prod.mk.injEq] at H
 obtain ⟨rfl, rfl⟩ := H
 go_enter Try.func90, Try.ntmps90
 go_wp2_with (first | (refine goesG_x 92 rfl (some 25) Try.func92 #[.int .u64 a0, .int .u64 a1] ?_; (with_reducible refine (bits_Mul64.calls a0 a1 t155 t156 _ A3.out).mono ?_); rintro e w' ⟨rfl, ⟨nd, rfl⟩⟩; refine ⟨_, rfl, ?_⟩))
 go_ret2
 exact ⟨by first | rfl | (simp; done) | (simp [*]; done), by repeat (first | exact Drawn0.refl _ | apply Drawn0.step)⟩
end Go.Proofs.Ytodmemndaaiolaa.PC7
namespace Go.Proofs.Ytodmemndaaiolaa.PC7
set_option linter.unusedVariables false
set_option linter.unusedSimpArgs false
open Go.RowKit Go.Proofs.YtodmemndaaiolaaW.PrintWords Go.Proofs.YtodmemndaaiolaaW.PrintLast Go.Proofs.YtodmemndaaiolaaW.PrintMore
theorem mul_one : ∀ n : Nat, n ≤ 6 → bits_Mul.f 1 (n : Int) = some (0, (n : Int))
 | 0, _ => by kernel_rfl
 | 1, _ => by kernel_rfl
 | 2, _ => by kernel_rfl
 | 3, _ => by kernel_rfl
 | 4, _ => by kernel_rfl
 | 5, _ => by kernel_rfl
 | 6, _ => by kernel_rfl
 | n + 7, h => by omega
def repL (n m : Nat) : List Value := List.replicate m (Value.int .i64 (-1)) ++ List.replicate (n - m) (Value.int .i64 0)
theorem repL_len (n m : Nat) (h : m ≤ n) : (repL n m).length = n := by simp [repL]; omega
theorem repL_zero (n : Nat) : madeCells #[Value.int .i64 0] n = (repL n 0).toArray := by
 apply Array.ext
 ·
  simp [size_madeCells, repL]
 ·
  intro i h1 h2; simp [madeCells, repL, Nat.mod_one]
theorem repL_splice (n m k : Nat) (h : m + k ≤ n) : splice (repL n m) m (List.replicate k (Value.int .i64 (-1))) = repL n (m + k) := by
 unfold splice repL
 have h1 : (List.replicate m (Value.int .i64 (-1)) ++ List.replicate (n - m) (Value.int .i64 0)).take m = List.replicate m (Value.int .i64 (-1)) := by rw [List.take_append_of_le_length (by simp)]; simp
 rw [h1, List.length_replicate, List.drop_append, List.drop_of_length_le (by simp), List.nil_append, List.drop_replicate, ← List.append_assoc, List.replicate_append_replicate]
 congr 2
 simp
 omega
theorem repL_get (n m j : Nat) (h : j < m) : (repL n m)[j]? = some (Value.int .i64 (-1)) := by
 unfold repL
 rw [List.getElem?_append_left (by simpa using h)]
 simp [h]
set_option maxHeartbeats 8000000 in
set_option maxRecDepth 100000 in
theorem repeat_calls (gx n : Nat) (w : World) (hn : n ≤ 6) (hx : w.heap[gx]? = some (.cells #[.int .i64 (-1)] 3 (0, 0))) :
  Calls Try.prog 83 #[.slice (some ⟨gx, 0, none⟩) 1 1, .int .i64 (n : Int)] w fun e w' => ∃ g, e = .returned (.slice (some ⟨g, 0, none⟩) n n) ∧ w'.heap[g]? = some (.cells (List.replicate n (Value.int .i64 (-1))).toArray 3 (0, 0)) ∧ w.heap.size ≤ g ∧ Below w.heap.size w w' := by
 have HX := Aside0.mk hx
 have HM := Aside0.mk (mul_one n hn)
 have hnn : ¬ (n : Int) < 0 := by omega
 have hcv : IntKind.u64.wrap (n : Int) = (n : Int) := IntWalk.u64_in _ (by omega)
 have hci : IntKind.i64.wrap (n : Int) = (n : Int) := IntWalk.i64_in _ (by omega)
 have hbig : decide ((9223372036854775807 : Int) < (n : Int)) = false := decide_eq_false (by omega)
 clear hx
 go_enter Try.func83, Try.ntmps83
 go_wp2_with (fail)
 refine (bits_Mul.calls 1 (n : Int) 0 (n : Int) w HM.out).mono ?_
 rintro e w' ⟨rfl, ⟨m, rfl⟩⟩
 have hmk : ∀ W : World, (Instr.makeSlice 27 (.int .i64 (n : Int)) (.int .i64 (n : Int))).run Try.prog W = .ok (.slice (some ⟨W.heap.size, 0, none⟩) n n) (W.alloc (.cells (repL n 0).toArray 3)) := fun W => by
  rw [run_make_row' 27 3 (.int .i64 0) 8 Try.underlying27 info3 rfl .i64 .i64 n (by omega) (by omega) W, repL_zero]
 have hsz3 : (Try.prog.info? 3).map (·.size) = some 1 := by kernel_rfl
 have HSZ := Aside0.mk hsz3
 clear hsz3
 obtain ⟨w1, hw1⟩ : ∃ w1 : World, w1 = w.drewN m := ⟨_, rfl⟩
 have HB := Aside0.mk (show Below w.heap.size w w1 by rw [hw1]; exact pw_below_drewN (Below.refl _ _) m)
 rw [← hw1]
 clear hw1
 go_upto_region 7 with (fail)
 clear hmk
 obtain ⟨g, hg_⟩ : ∃ b, b = w1.heap.size := ⟨_, rfl⟩
 have Ng := Aside0.mk (blk_new w1 (.cells (repL n 0).toArray 3 (0, 0)))
 have hbw : Below w1.heap.size w1 (w1.alloc (.cells (repL n 0).toArray 3 (0, 0))) := below_alloc (Below.refl _ _) _
 have hgs_ : w.heap.size ≤ g := by rw [hg_]; exact HB.out.size
 generalize hw_ : w1.alloc (.cells (repL n 0).toArray 3 (0, 0)) = w2 at *
 rw [← hg_] at Ng ⊢
 replace HB := Aside0.mk (below_step HB.out hbw)
 have GEg : Aside0 (w.heap.size ≤ g) := ⟨hgs_⟩
 clear hbw hw_ hg_ hgs_
 have hcs : ∃ k, k = min 1 n := ⟨_, rfl⟩
 obtain ⟨k0, hk0⟩ := hcs
 have HXc := Aside0.mk (blk_below HX.out HB.out)
 have CL := Aside0.mk (show (List.replicate k0 (Value.int .i64 (-1))).length = Nat.min 1 n by rw [List.length_replicate, hk0])
 have CP := Aside0.mk (show 0 < (List.replicate k0 (Value.int .i64 (-1))).length → some (⟨g, 0, none⟩ : Addr) = some ⟨g, 0, none⟩ ∧ ∃ ad, some (⟨gx, 0, none⟩ : Addr) = some ad ∧ ∀ j v, (List.replicate k0 (Value.int .i64 (-1)))[j]? = some v → w2.cell? (ad.add j) = some v from fun hp => ⟨rfl, _, rfl, fun j v hj => by
  have hj0 : j < k0 := by
   have := (List.getElem?_eq_some_iff.1 hj).1
   simpa using this
  (have : j = 0 := by omega); subst this; rw [List.getElem?_replicate] at hj; rw [if_pos hj0] at hj; injection hj with hj; subst hj; exact (blk_cell HXc.out 0).trans rfl⟩)
 have CF := Aside0.mk (show 0 + (List.replicate k0 (Value.int .i64 (-1))).length ≤ (repL n 0).length by rw [repL_len n 0 (by omega), List.length_replicate]; omega)
 have C1 := Aside0.mk (show ∀ v ∈ List.replicate k0 (Value.int .i64 (-1)), v.oneCell' = true from fun v hv => by rw [List.eq_of_mem_replicate hv]; rfl)
 go_wp2_with ((with_reducible refine gate_builtin (b := .copy) (xs := #[.tmp 31, .tmp 32]) rfl ?_); refine wpList_copy_splice rfl (.tmp 31) (.tmp 32) 27 27 rfl 3 Try.underlying27 HSZ.out (some ⟨g, 0, none⟩) (some ⟨gx, 0, none⟩) n n 1 1 rfl rfl g 0 (repL n 0) 3 Ng.out (List.replicate k0 (Value.int .i64 (-1))) CL.out CP.out CF.out C1.out w.heap.size w HB.out GEg.out ?_; intro w3 hid hb3; have B3 := Aside0.mk hid.out; have HB3 := Aside0.mk hb3; clear hid hb3)
 have B4 := Aside0.mk (show w3.heap[g]? = some (.cells (repL n k0).toArray 3 (0, 0)) by have h := repL_splice n 0 k0 (by omega); rw [Nat.zero_add] at h; rw [← h]; exact B3.out)
 clear Ng B3 CL CP CF C1 HB HXc
 go_loopg [8] n (fun gk v8 wr => ∃ m : Nat, m ≤ n ∧ (0 < m ∨ n = 0) ∧ n - m ≤ gk ∧ v8 = .int .i64 m ∧ Aside0 (wr.heap[g]? = some (.cells (repL n m).toArray 3 (0, 0))) ∧ Aside0 (Below w.heap.size w wr))
 case atStart => exact ⟨k0, by omega, by omega, by omega, by rw [hk0], B4, HB3⟩
 case round =>
  clear B4 HB3; obtain ⟨m, hm, hm0, hgk, rfl, B3, HB⟩ := hrel; by_cases hlt : m < n
  ·
   (have hlz : (m : Int) < (n : Int) := by omega); obtain ⟨k1, hk1⟩ : ∃ k, k = min m (n - m) := ⟨_, rfl⟩
   go_upto_region 9 with (fail)
   have hd_ := below_drew1 (Below.refl wr.heap.size wr); replace B3 := Aside0.mk (blk_drew B3.out); replace HB := Aside0.mk (below_step HB.out hd_); clear hd_; have CL := Aside0.mk (show (List.replicate k1 (Value.int .i64 (-1))).length = Nat.min m (n - m) by rw [List.length_replicate, hk1])
   have CP := Aside0.mk (show 0 < (List.replicate k1 (Value.int .i64 (-1))).length → (if n = m then some (⟨g, 0, none⟩ : Addr) else some ⟨g, m, none⟩) = some ⟨g, m, none⟩ ∧ ∃ ad, some (⟨g, 0, none⟩ : Addr) = some ad ∧ ∀ j v, (List.replicate k1 (Value.int .i64 (-1)))[j]? = some v → wr.drew.cell? (ad.add j) = some v from fun hp => ⟨if_neg (by omega), _, rfl, fun j v hj => by
    have hj0 : j < k1 := by
     have := (List.getElem?_eq_some_iff.1 hj).1
     simpa using this
    rw [List.getElem?_replicate, if_pos hj0] at hj; refine ((congrArg wr.drew.cell? (show Addr.add ⟨g, 0, none⟩ j = ⟨g, j, none⟩ by simp [Addr.add, eq_comm])).trans (blk_cell B3.out j)).trans ?_; rw [List.getElem?_toArray, repL_get n m j (by omega)]; exact hj⟩)
   have CF := Aside0.mk (show m + (List.replicate k1 (Value.int .i64 (-1))).length ≤ (repL n m).length by rw [repL_len n m hm, List.length_replicate]; omega); have C1 := Aside0.mk (show ∀ v ∈ List.replicate k1 (Value.int .i64 (-1)), v.oneCell' = true from fun v hv => by rw [List.eq_of_mem_replicate hv]; rfl); refine start_ (n := 10) (S := fun w' => True) (ds := [7]) #[false, false, false, false, false, false, false, false, false, false] (by kernel_rfl) rfl rfl trivial (fun hHeld => ?_); generalize wr.drew = wd at B3 HB CP hHeld ⊢; refine pure_y 0 (some 38) (bz 10 1) ?_; refine pure_y 1 (some 39) (bz 10 3) ?_; refine pure_y 2 (some 40) (bz 10 7) ?_; refine pure_y 3 (some 41) (bz 10 15) ?_; refine pure_y 4 (some 42) (bz 10 31) ?_; refine pure_y 5 (some 43) (bz 10 63) ?_; refine pure_y 6 (some 44) (bz 10 127) ?_; refine last_ (i := 7) (N := some 45) (bz 10 255) rfl rfl (by kernel_rfl) (by decide) (fun K hK => ?_); refine step_copy_splice rfl (.tmp 41) (.tmp 44) 27 27 rfl 3 Try.underlying27 HSZ.out _ _ _ _ _ _ rfl rfl g m (repL n m) 3 B3.out (List.replicate k1 (.int .i64 (-1))) CL.out CP.out CF.out C1.out w.heap.size w HB.out GEg.out ?_; intro w' hid hb'; have B5 := Aside0.mk hid.out; have HB5 := Aside0.mk hb'; clear hid hb'; refine hK.out _ _ ?_; clear hK K; refine norm_y (some 45) ?_; refine pure_y 8 (some 46) (bz 10 511) ?_; refine pure_y 9 (some 8) (bz 10 1023) ?_; refine done_ (by kernel_rfl) ?_; clear CL CP CF C1 HB; have B6 := Aside0.mk (show w'.heap[g]? = some (.cells (repL n (m + k1)).toArray 3 (0, 0)) by rw [← repL_splice n m k1 (by omega)]; exact B5.out); go_wp2; go_roundg (n - (m + k1))
   case measure => omega
   case rel => exact ⟨m + k1, by omega, by omega, by omega, (congrArg (Value.int .i64) (by first | omega | (rw [IntWalk.wrap64_in _ (by omega)]; omega))), B6, HB5⟩
  ·
   (have : m = n := by omega); subst this; go_wp2; go_ret; refine ⟨g, rfl, ?_, GEg.out, HB.out⟩; have hb := B3.out; unfold repL at hb; rw [Nat.sub_self] at hb
   simpa using hb
set_option maxHeartbeats 8000000 in
set_option maxRecDepth 100000 in
theorem clone_calls (ad : Addr) (c : Nat) (l : List Int) (w : World) (hr : Kd.C (Kd.int .i64) w (some ad) l.length l) (hc : l.length ≤ c) (hl : l.length ≤ 1000000) :
  Calls Try.prog 84 #[.slice (some ad) l.length c] w fun e w' => ∃ v, e = .returned v ∧ Kd.R (Kd.int .i64) 3 w' w.heap.size (fun _ => True) v l ∧ Below w.heap.size w w' := by
 have HR0 := Aside0.mk hr
 clear hr
 obtain ⟨y0, hy0⟩ : ∃ y : List Int, y = [] := ⟨_, rfl⟩
 have hyl : y0.length = 0 := by rw [hy0]; rfl
 have HY := Aside0.mk hy0
 clear hy0
 have hnil : ∀ w : World, (binOp .eql 27 (.slice (some ad) l.length c) (.slice none 0 0)).run Try.prog w = .ok (.bool false) w := fun w => Lib.run_eql_slice_nil w 27 3 (some ad) l.length c 0 0 Try.underlying27
 go_enter Try.func84, Try.ntmps84
 go_wp2_with (first
  | ((with_reducible refine gate_dst (N := 5) rfl ?_); refine Kd.R_lit (Kd.int .i64) _ 3 ?hg (N := 5) ?hd (xs := ([] : List Int)) (inner := []) (ok := fun _ => True) (okp := fun _ => True) ?hr ?hp (fun _ hk => hk) trivial (Below.refl _ _) (Nat.le_refl _) (by simp) ?_; (case hd => rfl); (case hg => rfl); (case hr => first | (go_simp; done) | (go_simp; rfl)); (case hp => exact (Reps.none _ _)); intro v3 w3 ho hb hg_ hnew_; clear hg_ hnew_; rw [← HY.out] at ho; have HO := Aside0.mk ho; have HB := Aside0.mk hb; clear hb ho)
  | ((with_reducible refine gate_builtin (b := .append) (xs := #[.tmp 5, .tmp 6]) rfl ?_); at_builtin; refine Kd.R_append_rows (Kd.int .i64) (w0 := w) w.heap.size rfl (.tmp 5) (.tmp 6) 27 3 (.int .i64 0) 8 rfl Try.underlying27 info3 rfl (by decide) (by omega) v3 y0 l _ _ _ (fun _ => True) (fun _ => False) rfl rfl ?aO ?aR (fun _ _ h => h) (fun _ h => h.elim) ?aF ?aB ?aS ?aL ?_; (case aR => exact Kd.C_below HR0.out HB.out); (case aB => exact HB.out); (case aF => exact (fun _ _ => trivial)); (case aO => exact HO.out); (case aS => exact HB.out.size); (case aL => omega); intro v4 w5 ho hb hg hat; rw [HY.out, List.nil_append] at ho; have HO5 := Aside0.mk ho; have HB5 := Aside0.mk hb; clear ho hb hg hat))
 go_ret
 exact ⟨_, rfl, HO5.out, HB5.out⟩
end Go.Proofs.Ytodmemndaaiolaa.PC7
namespace Go.Proofs.Ytodmemndaaiolaa.PC7
set_option linter.unusedVariables false
set_option linter.unusedSimpArgs false
open Go.RowKit Go.Proofs.YtodmemndaaiolaaW.PrintWords Go.Proofs.YtodmemndaaiolaaW.PrintLast Go.Proofs.YtodmemndaaiolaaW.PrintMore
open Go.Shelf
attribute [local go_sem] Oper.semAt_some
def KpB (gb : Nat) (A B : World) : Prop := ∀ b o, b ≠ gb → A.heap[b]? = some o → o.isCells = true → B.heap[b]? = some o
def encStow (x : Value × List Int) : Array Value := #[x.1]
def RxS (n₀ : Nat) (L : List (List Int)) (b : Nat) (x : Value × List Int) (W : World) : Prop := x.2 ∈ L ∧ ∃ base, n₀ ≤ base ∧ b < base ∧ Kd.R (Kd.int .i64) 3 W base (fun _ => True) x.1 x.2
set_option maxHeartbeats 8000000 in
set_option maxRecDepth 100000 in
theorem clone_row (g N : Nat) (l : List Int) (w : World) (hb : w.heap[g]? = some (.cells (l.map (Value.int .i64)).toArray 3 (0, 0))) (hl : l.length = N) (hN : N ≤ 6) :
  Calls Try.prog 84 #[.slice (some ⟨g, 0, none⟩) N N] w fun e w' => ∃ v, e = .returned v ∧ Kd.R (Kd.int .i64) 3 w' w.heap.size (fun _ => True) v l ∧ Below w.heap.size w w' := by
 subst hl
 refine clone_calls ⟨g, 0, none⟩ l.length l w ?_ (Nat.le_refl _) (by omega)
 refine (Kd.R_reads' (R_of_owns .i64 (e := 3) (W := w) (base := 0) (v := .slice (some ⟨g, 0, none⟩) l.length l.length) (xs := l) ⟨by simp, .inr ⟨g, l.length, _, rfl, Nat.zero_le _, hb, Nat.le_refl _, by unfold maxLen; omega, by simp, by rw [Nat.mul_one]; exact List.take_of_length_le (by simp)⟩⟩)).2.2
set_option maxHeartbeats 8000000 in
set_option maxRecDepth 100000 in
theorem stowages_gives (n gv n₀ gbest : Nat) (hn : 1 ≤ n) (x : VoyV) (w : World) (hb : w.heap[gv]? = some (.cells #[.int .i64 x.light, .int .i64 x.under, .int .i64 x.trim, .slice x.A3 x.holds.length x.c3, .int .i64 x.leaves, .slice x.A5 x.sills.length x.c5, .slice x.A6 x.lots.length x.c6] 26 (0, 0))) (hne : gv ≠ gbest) (hlt : gbest < w.heap.size) (hH : x.holds.length ≤ 100) (hN : x.lots.length ≤ 6) (hn0 : n₀ ≤ w.heap.size) :
  GivesR n 82 #[.pointer (some ⟨gv, 0, none⟩)] encStow (RxS n₀ (stowsL x.holds.length x.lots.length)) (KpB gbest) (fun xs => xs.map (·.2) = stowsL x.holds.length x.lots.length) w := by
 intro l J W hW hJ hJs hY h0
 refine callsIn_wide.2 ?_
 have BV := Aside0.mk (blk_below hb hW)
 have HY := Aside0.mk hY
 have H0 := Aside0.mk h0
 have HW := Aside0.mk (Below.refl W.heap.size W)
 have HLT := Aside0.mk (show gbest < W.heap.size from Nat.lt_of_lt_of_le hlt hW.size)
 have HN0 := Aside0.mk (Nat.le_trans hn0 hW.size)
 have HNV := Aside0.mk (show gv < W.heap.size from blk_lt BV.out)
 clear hb hY h0 hW hlt hn0
 have hz6_ : (W.alloc (.cells #[.int .i64 (-1)] 3 (0, 0))).cell? ⟨gv, 6, none⟩ = some (.slice x.A6 x.lots.length x.c6) := (blk_cell (blk_below BV.out (below_alloc HW.out _)) 6).trans rfl
 go_enter Try.func82, Try.ntmps82
 go_wp2_with (fail)
 refine (repeat_calls W.heap.size x.lots.length _ hN (blk_new _ _)).mono ?_
 rintro e w1 ⟨g, rfl, hg1, hgs, hb1⟩
 have BG0 := Aside0.mk hg1
 have GE := Aside0.mk (show W.heap.size ≤ g by have := World.size_alloc W (.cells #[.int .i64 (-1)] 3 (0, 0)); omega)
 have HB1 := Aside0.mk (show Below W.heap.size W w1 from below_step (below_alloc (Below.refl _ _) _) hb1)
 have BV1 := Aside0.mk (blk_below BV.out HB1.out)
 have HJ1 := Aside0.mk (hJ g _ _ _ _ (H0.out g GE.out) (grown_of_below HB1.out none) (by simp))
 clear hg1 hgs hb1 hz6_ H0 HW BV
 go_wp2_with (fail)
 obtain ⟨T, hT⟩ : ∃ T : List (List Int), T = stowsL x.holds.length x.lots.length := ⟨_, rfl⟩
 obtain ⟨r0, hr0⟩ := stowsL_head x.holds.length x.lots.length
 have HTM := Aside0.mk (fun k t (h : (stowsL x.holds.length x.lots.length)[k]? = some t) => stowsL_mem _ _ t (List.mem_of_getElem? h))
 have HTN := Aside0.mk (stowsL_next x.holds.length x.lots.length)
 rw [← hT] at hr0 HTM HTN
 have HTQ := Aside0.mk hT
 have HT0 := Aside0.mk (show T[0]? = some (List.replicate x.lots.length (-1)) by rw [hr0]; rfl)
 have HTT := Aside0.mk (show 0 < T.length by rw [hr0]; simp)
 clear hr0 r0 hT
 go_loopg [4] T.length (fun gk v4 wr => ∃ k : Nat, ∃ pre : List (Value × List Int), ∃ t : List Int, k < T.length ∧ T.length - k ≤ gk + 1 ∧ Aside0 (pre.map (·.2) = T.take k) ∧ Aside0 (T[k]? = some t) ∧ Aside0 (J g pre wr) ∧ Aside0 (wr.heap[g]? = some (.cells (t.map (Value.int .i64)).toArray 3 (0, 0))) ∧ Aside0 (wr.heap[gv]? = some (.cells #[.int .i64 x.light, .int .i64 x.under, .int .i64 x.trim, .slice x.A3 x.holds.length x.c3, .int .i64 x.leaves, .slice x.A5 x.sills.length x.c5, .slice x.A6 x.lots.length x.c6] 26 (0, 0))))
 case atStart => exact ⟨0, [], _, HTT.out, by omega, ⟨rfl⟩, HT0, HJ1, ⟨by rw [BG0.out]; simp⟩, BV1⟩
 case round =>
  clear BG0 HB1 BV1 HJ1 HT0 HTT; obtain ⟨k, pre, t, hk, hgk, HPR, HTK, HJP, BG, BV⟩ := hrel; obtain ⟨htl, hte⟩ := HTM.out k t HTK.out; have HTE := Aside0.mk hte; clear hte; refine (wpIn_wide (n := n)).1 ?_
  gi_wp2
  refine ⟨trivial, callsIn_wide.2 ((clone_row g x.lots.length t wr BG.out htl hN).mono ?_)⟩; rintro e w2 ⟨v, rfl, hR, hb2⟩; have hgl : g < wr.heap.size := blk_lt BG.out; have hRX : RxS n₀ (stowsL x.holds.length x.lots.length) g (v, t) w2 := ⟨by rw [← HTQ.out]; exact List.mem_of_getElem? HTK.out, wr.heap.size, by have := HN0.out; have := GE.out; omega, hgl, hR⟩; have BG2 := Aside0.mk (blk_below BG.out hb2); have BV2 := Aside0.mk (blk_below BV.out hb2); have hJ2 := hJ g _ _ _ _ HJP.out (grown_of_below hb2 none) (by simp); obtain ⟨fn, tmps, assign, body, hy, hRR⟩ := HY.out g pre (v, t) w2 GE.out hJ2 hRX; dsimp only [encStow] at hy; have HRR := Aside0.mk hRR; clear hRR hJ2 hRX hR hb2 hgl BG BV HJP
  gi_wp2
  refine HRR.out.mono ?_; rintro e W3 ⟨rfl, hJ3, hk3⟩; have HJ3 := Aside0.mk hJ3; have BG3 := Aside0.mk (hk3 g _ (by have := HLT.out; have := GE.out; omega) BG2.out rfl); have BV3 := Aside0.mk (hk3 gv _ hne BV2.out rfl); clear hJ3 hk3 HRR hy BG2 BV2
  gi_wp2
  refine wpIn_wide.2 ?_; have HN := Aside0.mk (HTN.out k t HTK.out)
  go_loopg [4] x.lots.length (fun gk2 v4 wr2 => ∃ j : Nat, j ≤ x.lots.length ∧ j ≤ gk2 ∧ v4 = .int .i64 ((j : Int) - 1) ∧ Aside0 (t = t.take j ++ List.replicate (t.length - j) ((x.holds.length : Int) - 1)) ∧ Aside0 (J g (pre ++ [(v, t)]) wr2) ∧ Aside0 (wr2.heap[g]? = some (.cells ((curL t j).map (Value.int .i64)).toArray 3 (0, 0))) ∧ Aside0 (wr2.heap[gv]? = some (.cells #[.int .i64 x.light, .int .i64 x.under, .int .i64 x.trim, .slice x.A3 x.holds.length x.c3, .int .i64 x.leaves, .slice x.A5 x.sills.length x.c5, .slice x.A6 x.lots.length x.c6] 26 (0, 0))))
  case atStart => exact ⟨x.lots.length, Nat.le_refl _, Nat.le_refl _, rfl, ⟨by rw [← htl]; simp⟩, HJ3, ⟨by rw [← htl, curL_all]; exact BG3.out⟩, BV3⟩
  case round =>
   clear BG3 BV3 HJ3; obtain ⟨j, hj, hgk2, rfl, HF, HJP, BG, BV⟩ := hrel; cases j with
   | zero =>
    have HDN := Aside0.mk (enum_done v HPR.out HTK.out (HN.out.symm.trans (next_none t _ HF.out)))
    go_upto_region 3 with (fail)
    go_quiet (fail)
    have HJ4 := Aside0.mk (hJ g _ _ _ _ HJP.out (grown_of_below (pw_below_drewN (Below.refl _ _) nq) none) (by simp)); obtain ⟨wq, hwq⟩ : ∃ wq : World, wq = wr.drewN nq := ⟨_, rfl⟩; rw [← hwq] at HJ4 ⊢; clear hwq; go_wp2; refine wpIn_wide.2 ?_; go_wp2; refine bodyPost_ret (results_none rfl _ _ _) rfl ?_; exact ⟨⟨_, rfl⟩, g, _, GE.out, by rw [← HTQ.out]; exact HDN.out, HJ4.out⟩
   | succ j =>
    rw [show ((j + 1 : Nat) : Int) - 1 = (j : Int) by omega]; (have hjl : j < t.length := by omega); (have hjz : (j : Int) < (x.lots.length : Int) := by omega); have hge : decide ((0 : Int) ≤ (j : Int)) = true := decide_eq_true (by omega); have HG := Aside0.mk (curL_get t j hjl); have HC := Aside0.mk (curL_back t j hjl); have hcl : wr.cell? ⟨g, j, none⟩ = some (.int .i64 (t.getD j 0)) := (blk_cell BG.out j).trans (by rw [List.getElem?_toArray, List.getElem?_map, HG.out]; rfl); have hz3 : wr.cell? ⟨gv, 3, none⟩ = some (.slice x.A3 x.holds.length x.c3) := (blk_cell BV.out 3).trans rfl; have HI := Aside0.mk (HTE.out (t.getD j 0) (by rw [List.getD, List.getElem?_eq_getElem hjl]; exact List.getElem_mem hjl)); by_cases hd : t.getD j 0 = (x.holds.length : Int) - 1
    ·
     have HFB := Aside0.mk (full_back t _ j hjl HF.out hd); rw [hd] at hcl; clear HF HI
     go_upto_region 3 with (fail)
     go_quiet (fail)
     have HJ4 := Aside0.mk (hJ g _ _ _ _ HJP.out (grown_of_below (pw_below_drewN (Below.refl _ _) nq) none) (by simp)); have BG4 := Aside0.mk (blk_drewN BG.out nq); have BV4 := Aside0.mk (blk_drewN BV.out nq); obtain ⟨wq, hwq⟩ : ∃ wq : World, wq = wr.drewN nq := ⟨_, rfl⟩; rw [← hwq] at HJ4 BG4 BV4 ⊢; clear hwq hcl hz3 BG BV HJP; have hcl : wq.cell? ⟨g, j, none⟩ = some (.int .i64 ((x.holds.length : Int) - 1)) := (blk_cell BG4.out j).trans (by rw [List.getElem?_toArray, List.getElem?_map, HG.out, hd]; rfl); have HSJ := Aside0.mk (hJs g _ _ j (.int .i64 (-1)) GE.out HJ4.out (by rw [hcl]; simp)); have BG5 := Aside0.mk (blk_put BG4.out j (.int .i64 (-1)) ((map_set_int (curL t (j + 1)) j (-1)).trans (by rw [HC.out]))); have BV5 := Aside0.mk (blk_far BV4.out (p := ⟨g, j, none⟩) (by have := HNV.out; have := GE.out; show gv ≠ g; omega) (.int .i64 (-1))); have hfz := blk_frozen BG4.out; clear HG; go_wp2; go_roundg j
     case measure => omega
     case rel => exact ⟨j, by omega, Nat.le_refl _, rfl, HFB, HSJ, BG5, BV5⟩
    ·
     have HNX := Aside0.mk (next_at t _ j hjl HF.out hd); have hdi := HI.out; clear HF HI; generalize t.getD j 0 = d at *; have hdb : (d == (x.holds.length : Int) - 1) = false := beq_eq_false_iff_ne.2 hd
     go_upto_region 3 with (fail)
     go_quiet (fail)
     have HJ4 := Aside0.mk (hJ g _ _ _ _ HJP.out (grown_of_below (pw_below_drewN (Below.refl _ _) nq) none) (by simp)); have BG4 := Aside0.mk (blk_drewN BG.out nq); have BV4 := Aside0.mk (blk_drewN BV.out nq); obtain ⟨wq, hwq⟩ : ∃ wq : World, wq = wr.drewN nq := ⟨_, rfl⟩; rw [← hwq] at HJ4 BG4 BV4 ⊢; have hcq : wq.cell? ⟨g, j, none⟩ = some (.int .i64 d) := (blk_cell BG4.out j).trans (by rw [List.getElem?_toArray, List.getElem?_map, HG.out]; rfl); clear hwq hcl hz3 BG BV HJP; have HSJ := Aside0.mk (hJs g _ _ j (.int .i64 (d + 1)) GE.out HJ4.out (by rw [hcq]; simp)); have BG5 := Aside0.mk (blk_put BG4.out j (.int .i64 (d + 1)) (map_set_int (curL t (j + 1)) j (d + 1))); have BV5 := Aside0.mk (blk_far BV4.out (p := ⟨g, j, none⟩) (by have := HNV.out; have := GE.out; show gv ≠ g; omega) (.int .i64 (d + 1))); have hfz := blk_frozen BG4.out; have HK1 := Aside0.mk (HN.out.symm.trans HNX.out); have HLK := Aside0.mk (List.getElem?_eq_some_iff.1 HK1.out).1; have HMO := Aside0.mk (enum_more v HPR.out HTK.out); have hgx := HLK.out; clear HG; go_wp2; refine wpIn_wide.2 ?_; go_wp2; go_roundg (T.length - (k + 2))
     case measure => omega
     case rel => exact ⟨k + 1, _, _, HLK.out, by omega, HMO, HK1, HSJ, BG5, BV5⟩
end Go.Proofs.Ytodmemndaaiolaa.PC7
namespace Go.Proofs.Ytodmemndaaiolaa.PC7
set_option linter.unusedVariables false
open Go.RowKit Go.Proofs.YtodmemndaaiolaaW.PrintLast
section
variable {P : Program} {ops : Array Oper} {Q : Exit → Act → World → Prop} {md : Region.Mode} {S : World → Prop} {ds : List Nat} {l n : Nat}
theorem opIn_of_wp {o : Oper} {a : Act} {w : World} {K : Act → World → Prop} (hd : ∀ c, o.op ≠ .defer c) (h : o.wp P a w K Q) : o.wpIn (Fence.wide.inRound l) n P a w K Q := by
  refine ⟨fun _ _ => trivial, ?_⟩
  rw [Oper.semAt_eq _ _ _ hd]
  unfold Oper.wp at h
  have hdep : (Fence.wide.inRound l).depth.isSome = true → 1 ≤ n := fun hh => by simp [Fence.wide, Fence.inRound] at hh
  generalize (execOp a.eval o).run P w = r at h ⊢
  cases r with
  | ok x w' =>
    cases x with
    | value v => exact h
    | skip => exact h
    | defer d => exact h
    | enter f args => exact ⟨hdep, (callsIn_wide.2 h).inRound l⟩
    | row row args =>
      refine ⟨hdep, fun c cs _ => ?_⟩
      obtain ⟨v, w2, hr, hs⟩ := h c cs
      exact ⟨v, w2, hr, stepsIn_wide.2 hs⟩
    | round l' f tmps assign body => exact h.elim
    | _ => exact h.elim
  | halt x w' =>
    cases x with
    | panic v => exact h
    | _ => exact h.elim
theorem opIn_of {i : Nat} {a : Act} {w : World} {K : Act → World → Prop} (hd : ∀ o, ops[i]? = some o → ∀ c, o.op ≠ .defer c) (hL : ¬ LetsOut Q) (h : wpOp P ops Q i K a w) : wpOpIn (Fence.wide.inRound l) n P ops Q i K a w := by
  unfold wpOp at h
  unfold wpOpIn
  cases ho : ops[i]? with
  | none => rw [ho] at h; exact h
  | some o =>
    rw [ho] at h
    simp only at h ⊢
    by_cases hw : Region.wanted o (yielded ops a.tmps) = true
    · rw [if_pos hw] at h ⊢
      rcases h with h | ⟨_, h⟩
      · exact opIn_of_wp (hd o ho) h
      · exact absurd h hL
    · rw [if_neg hw] at h ⊢
      exact ⟨fun _ _ => trivial, h⟩
theorem anyIn_of (hd : ∀ (i : Nat) (o : Oper), ops[i]? = some o → ∀ c, o.op ≠ .defer c) (hL : ¬ LetsOut Q) : ∀ (fuel : Nat) (listed : Array Bool) (a : Act) (w : World), wpAny P md ops Q fuel listed a w → wpAnyIn (Fence.wide.inRound l) n P md ops Q fuel listed a w
  | 0, _, _, _, h => h
  | fuel + 1, listed, a, w, h => ⟨h.1, fun i hi => opIn_of (hd i) hL (wpOp_mono (fun a' w' h' => anyIn_of hd hL fuel _ a' w' h') (h.2 i hi))⟩
def noDefer (ops : Array Oper) : Bool := ops.all fun o => match o.op with | .defer _ => false | _ => true
theorem noDefer_spec (h : noDefer ops = true) : ∀ (i : Nat) (o : Oper), ops[i]? = some o → ∀ c, o.op ≠ .defer c := by
  intro i o ho c hc
  have := Array.all_eq_true_iff_forall_mem.1 h o (Array.mem_of_getElem? ho)
  rw [hc] at this
  cases this
theorem startR_ {id m : Nat} {a : Act} {w : World} (l₀ : Array Bool) (hdf : noDefer ops = true) (hL : ¬ LetsOut Q) (hm : P.follows .mixedOrders = true) (hn : ops.size = m) (hl : Array.replicate m false = l₀) (hS : S w.drew)
    (h : S w.drew → wpAnyLast P .any ops Q S ds m l₀ a w.drew) : (Code.region id ops true).wpIn (Fence.wide.inRound l) n P Q a w := by
  subst hn
  subst hl
  exact wpIn_region_any hm (anyIn_of (noDefer_spec hdf) hL _ _ _ _ (wpAny_of_last _ _ _ _ (h hS)))
end
end Go.Proofs.Ytodmemndaaiolaa.PC7
namespace Go.Proofs.Ytodmemndaaiolaa.PC7
open Go.RowKit Go.Proofs.YtodmemndaaiolaaW.PrintWords Go.Proofs.YtodmemndaaiolaaW.PrintLast Go.Proofs.YtodmemndaaiolaaW.PrintMore
attribute [local go_sem] max2_int min2_int max_two min_two max_three min_three max_four min_four
set_option linter.unusedVariables false
set_option linter.unusedSimpArgs false
def ship_level.f (k : Nat) (a0_0 : Int) (a0_1 : Int) (a0_2 : Int) (l0_3 : List (S85)) (a0_4 : Int) (l0_5 : List (S59)) (l0_6 : List (S79)) (a1_0 : Int) (a1_1 : Int) : Option (Bool) := (ship_greatest.f k a1_1 (([wrap64 (-a1_0)] : List Int))).bind fun t154 => (some (decide (t154 ≤ (wrap64 (1000 * a0_2)))))
theorem ship_level.mono : ∀ a0 a1 a2 a3 a4 a5 a6 a7 a8 k, LeO (ship_level.f k a0 a1 a2 a3 a4 a5 a6 a7 a8) (ship_level.f (k + 1) a0 a1 a2 a3 a4 a5 a6 a7 a8) := by
 intro a0 a1 a2 a3 a4 a5 a6 a7 a8 k
 unfold ship_level.f
 repeat' (with_reducible first | exact ship_greatest.mono _ _ _ | exact LeO.refl _ | exact LeO.none _ | refine LeO.ite ?_ ?_ | refine LeO.bind ?_ (fun _ => ?_))
def ship_level.T1 : Bool × List (List Nat × List Nat) := (true, [([], []), ([0], [0]), ([], []), ([2], [2]), ([3], [3]), ([4], [4]), ([1, 5], [1, 5]), ([], []), ([7], [7]), ([8], [8]), ([6, 9], [6, 9]), ([10, 6, 0, 1, 2, 3, 4, 5, 6, 7, 8, 9, 10], [10])])
def ship_level.B1 : List Nat := [0, 1, 0, 4, 12, 28, 63, 0, 128, 384, 1023, 2047]
theorem ship_level.tab1 : rtab .any (opsOf Try.f64 1) = ship_level.T1 := by kernel_rfl
theorem ship_level.bits1 : waitsOk ship_level.T1.2 ship_level.B1 = true := by kernel_rfl
set_option maxHeartbeats 8000000 in
set_option maxRecDepth 100000 in
theorem ship_level.calls (k : Nat) (a0_0 : Int) (a0_1 : Int) (a0_2 : Int) (A0_3 : Option Addr) (c0_3 : Nat) (l0_3 : List (S85)) (a0_4 : Int) (A0_5 : Option Addr) (c0_5 : Nat) (l0_5 : List (S59)) (A0_6 : Option Addr) (c0_6 : Nat) (l0_6 : List (S79)) (a1_0 : Int) (a1_1 : Int) (r : Bool) (w : World) (hr0_3 : Kd.C k85 w A0_3 l0_3.length l0_3) (hc0_3 : l0_3.length ≤ c0_3) (hr0_5 : Kd.C k59 w A0_5 l0_5.length l0_5) (hc0_5 : l0_5.length ≤ c0_5) (hr0_6 : Kd.C k79 w A0_6 l0_6.length l0_6) (hc0_6 : l0_6.length ≤ c0_6) (h : ship_level.f k a0_0 a0_1 a0_2 l0_3 a0_4 l0_5 l0_6 a1_0 a1_1 = some r) :
  Calls Try.prog 64 #[.agg #[.int .i64 a0_0, .int .i64 a0_1, .int .i64 a0_2, .slice A0_3 l0_3.length c0_3, .int .i64 a0_4, .slice A0_5 l0_5.length c0_5, .slice A0_6 l0_6.length c0_6], .agg #[.int .i64 a1_0, .int .i64 a1_1]] w fun e w' => e = .returned (.bool r) ∧ Below w.heap.size w w' := by
 have hu26 := Try.underlying26
 have hu56 := Try.underlying56
 have HR0_3 := Aside0.mk hr0_3
 have HC0_3 := Aside0.mk hc0_3
 clear hr0_3 hc0_3
 have HR0_5 := Aside0.mk hr0_5
 have HC0_5 := Aside0.mk hc0_5
 clear hr0_5 hc0_5
 have HR0_6 := Aside0.mk hr0_6
 have HC0_6 := Aside0.mk hc0_6
 clear hr0_6 hc0_6
 have HB := Aside0.mk (Below.refl w.heap.size w)
 have H : ((ship_greatest.f k a1_1 (([wrap64 (-a1_0)] : List Int))).bind fun t154 => (some (decide (t154 ≤ (wrap64 (1000 * a0_2)))))) = some r := h
 clear h
 obtain ⟨y151, hy151⟩ : ∃ y_ : List Int, y_ = (([wrap64 (-a1_0)] : List Int)) := ⟨_, rfl⟩
 replace H : ((ship_greatest.f k a1_1 y151).bind fun t154 => (some (decide (t154 ≤ (wrap64 (1000 * a0_2)))))) = some r := by first | (rw [hy151]; with_reducible exact H) | (have H2_ := (Option.bind_some _ _).symm.trans H; rw [hy151]; with_reducible exact H2_) | (have H2_ := (Option.bind_some _ _).symm.trans H; with_reducible exact H2_) | with_reducible exact H | (rw [hy151]; exact H) | exact H
 have Ny151 := Aside0.mk hy151
 clear hy151
 replace H := Option.bind_eq_some_iff.mp H
 obtain ⟨t154, A30, H⟩ := H
 replace H : (some (decide (t154 ≤ (wrap64 (1000 * a0_2))))) = some r := H
 have A3 := Aside0.mk A30
 clear A30
 obtain rfl := Option.some.inj H
 go_enter Try.func64, Try.ntmps64
 try go_wp2_with (first | (refine box_r (N := 2) rfl (cs := #[.int .i64 a0_0, .int .i64 a0_1, .int .i64 a0_2, .slice A0_3 l0_3.length c0_3, .int .i64 a0_4, .slice A0_5 l0_5.length c0_5, .slice A0_6 l0_6.length c0_6]) (t := 26) ?_; intro gb149 hg w4 hbox hb; have BK149 := Aside0.mk (hbox); have GW149 := gw_x hg HB; have GE149 := GW149; replace HB := Aside0.mk (below_step (below_x HB.out) hb); clear hb hbox hg) | (refine box_r (N := 3) rfl (cs := #[.int .i64 a1_0, .int .i64 a1_1]) (t := 56) ?_; intro gb150 hg w5 hbox hb; have BK150 := Aside0.mk (hbox); have GW150 := gw_x hg HB; have GE150 := GW150; replace HB := bl_x HB hb; have NB149_150 := nb_x hg BK149; have NB150_149 := nb_y hg BK149; replace BK149 := bk_x BK149 hb; clear hb hbox hg))
 replace BK149 := Aside0.mk (blk_drew BK149.out)
 replace BK150 := Aside0.mk (blk_drew BK150.out)
 replace HB := Aside0.mk (below_drew1 HB.out)
 refine start_ (n := 12) (S := fun w' => w'.cell? ⟨gb150, 0, none⟩ = some (.int .i64 a1_0) ∧ w'.cell? ⟨gb150, 1, none⟩ = some (.int .i64 a1_1) ∧ w'.cell? ⟨gb149, 0, none⟩ = some (.int .i64 a0_0) ∧ w'.cell? ⟨gb149, 1, none⟩ = some (.int .i64 a0_1) ∧ w'.cell? ⟨gb149, 2, none⟩ = some (.int .i64 a0_2) ∧ w'.cell? ⟨gb149, 3, none⟩ = some (.slice A0_3 l0_3.length c0_3) ∧ w'.cell? ⟨gb149, 4, none⟩ = some (.int .i64 a0_4) ∧ w'.cell? ⟨gb149, 5, none⟩ = some (.slice A0_5 l0_5.length c0_5) ∧ w'.cell? ⟨gb149, 6, none⟩ = some (.slice A0_6 l0_6.length c0_6)) (ds := []) #[false, false, false, false, false, false, false, false, false, false, false, false] (by kernel_rfl) rfl rfl ⟨(blk_cell BK150.out 0).trans rfl, (blk_cell BK150.out 1).trans rfl, (blk_cell BK149.out 0).trans rfl, (blk_cell BK149.out 1).trans rfl, (blk_cell BK149.out 2).trans rfl, (blk_cell BK149.out 3).trans rfl, (blk_cell BK149.out 4).trans rfl, (blk_cell BK149.out 5).trans rfl, (blk_cell BK149.out 6).trans rfl⟩ (fun hHeld => ?_); refine with_tabW ship_level.tab1 ship_level.bits1 (fun HT_ HW_ => ?_)
 generalize w5.drew = w6 at BK149 BK150 HB hHeld ⊢
 refine pure_t 0 (some 5) (bz 12 1) HT_ ?_
 refine pure_t 2 (some 7) (bz 12 5) HT_ ?_
 refine pure_t 7 (some 12) (bz 12 133) HT_ ?_
 refine take_t 1 (some 6) (bz 12 135) HT_ HW_ hHeld ?_
 refine take_t 3 (some 8) (bz 12 143) HT_ HW_ hHeld ?_
 refine pure_t 4 (some 9) (bz 12 159) HT_ ?_
 refine take_t 8 (some 13) (bz 12 415) HT_ HW_ hHeld ?_
 refine pure_t 9 (some 14) (bz 12 927) HT_ ?_
 refine one_t 5 (some 10) (bz 12 959) HT_ fun K hK => ?_
 refine Kd.R_lit_step (Kd.int .i64) _ 3 ?hg (N := 10) ?hd (xs := ([wrap64 (-a1_0)] : List Int)) (inner := [.int .i64 (wrap64 (-a1_0))]) (ok := fun _ => True) (okp := fun _ => True) ?hr ?hp (fun _ hk => hk) trivial (Below.refl _ _) (Nat.le_refl _) (by simp) ?_; (case hd => rfl); (case hg => rfl); (case hr => first | (go_simp; done) | (go_simp; rfl)); (case hp => exact (Reps.one (show Kd.M (Kd.int .i64) _ _ _ (wrap64 (-a1_0)) [.int .i64 (wrap64 (-a1_0))] from rfl) (Reps.none _ _)))
 intro v152 w7 ho8 hb hg_ hnew_
 clear hg_ hnew_
 (first | rw [← Ny151.out] at ho8 | (simp only [Int.reduceToNat] at ho8; rw [← Ny151.out] at ho8))
 have HO153 := Aside0.mk (Kd.R_lower ho8 (below_size (by exact below_y HB.out)))
 replace BK149 := bk_x BK149 hb
 replace BK150 := bk_x BK150 hb
 replace HB := bl_x HB hb
 clear hb ho8
 obtain ⟨Ao9, co9, eo9⟩ := Kd.R_slice HO153.out
 (first | subst eo9 | (injection eo9 with f1_ f2_ f3_; have f4_ := f1_.symm; have f5_ := f3_.symm; clear f1_ f2_ f3_; subst f4_; subst f5_))
 refine hK.out _ _ ⟨(blk_cell BK150.out 0).trans rfl, (blk_cell BK150.out 1).trans rfl, (blk_cell BK149.out 0).trans rfl, (blk_cell BK149.out 1).trans rfl, (blk_cell BK149.out 2).trans rfl, (blk_cell BK149.out 3).trans rfl, (blk_cell BK149.out 4).trans rfl, (blk_cell BK149.out 5).trans rfl, (blk_cell BK149.out 6).trans rfl⟩ (fun hHeld => ?_)
 clear hK K
 refine norm_y (some 10) ?_
 refine one_t 6 (some 11) (bz 12 1023) HT_ fun K hK => ?_
 refine goes_x Try.func79 #[.int .i64 a1_1, .slice Ao9 y151.length co9] ?_
 with_reducible refine (ship_greatest.calls k a1_1 _ _ y151 t154 _ ?side1 ?side2 A3.out).mono ?_
 (case side1 => exact Kd.C_y (Kd.R_reads' HO153.out).2.2)
 (case side2 => exact (Kd.R_reads' HO153.out).2.1)
 rintro e w10 ⟨rfl, hb⟩
 refine ⟨_, rfl, ?_⟩
 replace HO153 := Aside0.mk (Kd.R_below (Kd.R_x HO153.out) hb)
 replace BK149 := bk_x BK149 hb
 replace BK150 := bk_x BK150 hb
 replace HB := bl_x HB hb
 (try clear hb)
 (try clear hb2)
 (try clear hk)
 (try clear hi)
 refine hK.out _ _ ⟨(blk_cell BK150.out 0).trans rfl, (blk_cell BK150.out 1).trans rfl, (blk_cell BK149.out 0).trans rfl, (blk_cell BK149.out 1).trans rfl, (blk_cell BK149.out 2).trans rfl, (blk_cell BK149.out 3).trans rfl, (blk_cell BK149.out 4).trans rfl, (blk_cell BK149.out 5).trans rfl, (blk_cell BK149.out 6).trans rfl⟩ (fun hHeld => ?_)
 clear hK K
 refine norm_y (some 11) ?_
 refine pure_t 10 (some 15) (bz 12 2047) HT_ ?_
 refine pure_t 11 (some 4) (bz 12 4095) HT_ ?_
 refine done_ (done_of HT_.out (by kernel_rfl)) ?_
 try go_wp2
 go_ret
 exact rt_y HB
def ship_apart.l0 : Nat → List Int → Int → Int → Int → Int → Int → List (S85) → Int → List (S59) → List (S79) → Int → Int → Option (Int × Int)
 | 0, _, _, _, _, _, _, _, _, _, _, _, _ => none
 | k + 1, x10, x11, x12, x141000, x141001, x141002, x141003, x141004, x141005, x141006, x143000, x143001 => if x12 < x11 then (if 0 ≤ x12 then (if x12 < (x10.length : Int) then (if (rd x10 x12) < 0 then (ship_apart.l0 k x10 x11 (wrap64 (x12 + 1)) x141000 x141001 x141002 x141003 x141004 x141005 x141006 x143000 x143001) else (if x12 < (x141006.length : Int) then (if 0 ≤ (rd x10 x12) then (if (rd x10 x12) < (x141003.length : Int) then (ship_apart.l0 k x10 x11 (wrap64 (x12 + 1)) x141000 x141001 x141002 x141003 x141004 x141005 x141006 (wrap64 (x143000 + (mn (wrap64 (((rd_T79 x141006 x12).f0.f0) * (wrap64 (((rd_T85 x141003 (rd x10 x12)).f1) - ((rd_T85 x141003 (rd x10 x12)).f2))))) (wrap64 (((rd_T79 x141006 x12).f0.f1) * (wrap64 (((rd_T85 x141003 (rd x10 x12)).f1) - ((rd_T85 x141003 (rd x10 x12)).f2)))))))) (wrap64 (x143001 + (mx (wrap64 (((rd_T79 x141006 x12).f0.f0) * (wrap64 (((rd_T85 x141003 (rd x10 x12)).f1) - ((rd_T85 x141003 (rd x10 x12)).f2))))) (wrap64 (((rd_T79 x141006 x12).f0.f1) * (wrap64 (((rd_T85 x141003 (rd x10 x12)).f1) - ((rd_T85 x141003 (rd x10 x12)).f2))))))))) else (none)) else (none)) else (none))) else (none)) else (none)) else (some (x143000, x143001))
def ship_apart.f (k : Nat) (a0_0 : Int) (a0_1 : Int) (a0_2 : Int) (l0_3 : List (S85)) (a0_4 : Int) (l0_5 : List (S59)) (l0_6 : List (S79)) (l1 : List Int) : Option (Int × Int) := ship_apart.l0 k l1 (l1.length : Int) 0 a0_0 a0_1 a0_2 l0_3 a0_4 l0_5 l0_6 0 0
theorem ship_apart.mono_l : ∀ k, (∀ y0 y1 y2 y3 y4 y5 y6 y7 y8 y9 y10 y11, LeO (ship_apart.l0 k y0 y1 y2 y3 y4 y5 y6 y7 y8 y9 y10 y11) (ship_apart.l0 (k + 1) y0 y1 y2 y3 y4 y5 y6 y7 y8 y9 y10 y11))
 | 0 => fun _ _ _ _ _ _ _ _ _ _ _ _ r h => by simp [ship_apart.l0] at h
 | k + 1 => by
  have ih0 := ship_apart.mono_l k
  ·
   intro y0 y1 y2 y3 y4 y5 y6 y7 y8 y9 y10 y11; unfold ship_apart.l0
   repeat' (with_reducible first | exact ih0 _ _ _ _ _ _ _ _ _ _ _ _ | exact LeO.refl _ | exact LeO.none _ | refine LeO.ite ?_ ?_ | refine LeO.bind ?_ (fun _ => ?_))
theorem ship_apart.mono : ∀ a0 a1 a2 a3 a4 a5 a6 a7 k, LeO (ship_apart.f k a0 a1 a2 a3 a4 a5 a6 a7) (ship_apart.f (k + 1) a0 a1 a2 a3 a4 a5 a6 a7) := by
 intro a0 a1 a2 a3 a4 a5 a6 a7 k
 have ih0 := ship_apart.mono_l k
 unfold ship_apart.f
 repeat' (with_reducible first | exact ih0 _ _ _ _ _ _ _ _ _ _ _ _ | exact LeO.refl _ | exact LeO.none _ | refine LeO.ite ?_ ?_ | refine LeO.bind ?_ (fun _ => ?_))
def ship_apart.T6 : Bool × List (List Nat × List Nat) := (true, [([], []), ([0], [0]), ([], []), ([1, 2], [1, 2]), ([3], [3]), ([4], [4]), ([], []), ([6], [6]), ([], []), ([7, 8], [7, 8]), ([9], [9]), ([10], [10]), ([], []), ([12], [12]), ([], []), ([13, 14], [13, 14]), ([15], [15]), ([16], [16]), ([11, 17], [11, 17]), ([], []), ([19, 5, 0, 1, 2, 3, 4, 5, 19], [5, 19]), ([18, 20, 0, 1, 2, 3, 4, 5, 6, 7, 8, 9, 10, 11, 12, 13, 14, 15, 16, 17, 18, 19, 20], [18])])
def ship_apart.B6 : List Nat := [0, 1, 0, 7, 15, 31, 0, 64, 0, 448, 960, 1984, 0, 4096, 0, 28672, 61440, 126976, 262080, 0, 524351, 2097151]
theorem ship_apart.tab6 : rtab .any (opsOf Try.f65 6) = ship_apart.T6 := by kernel_rfl
theorem ship_apart.bits6 : waitsOk ship_apart.T6.2 ship_apart.B6 = true := by kernel_rfl
set_option maxHeartbeats 8000000 in
set_option maxRecDepth 100000 in
theorem ship_apart.calls (k : Nat) (a0_0 : Int) (a0_1 : Int) (a0_2 : Int) (A0_3 : Option Addr) (c0_3 : Nat) (l0_3 : List (S85)) (a0_4 : Int) (A0_5 : Option Addr) (c0_5 : Nat) (l0_5 : List (S59)) (A0_6 : Option Addr) (c0_6 : Nat) (l0_6 : List (S79)) (A1 : Option Addr) (c1 : Nat) (l1 : List Int) (r1 : Int) (r2 : Int) (w : World) (hr0_3 : Kd.C k85 w A0_3 l0_3.length l0_3) (hc0_3 : l0_3.length ≤ c0_3) (hr0_5 : Kd.C k59 w A0_5 l0_5.length l0_5) (hc0_5 : l0_5.length ≤ c0_5) (hr0_6 : Kd.C k79 w A0_6 l0_6.length l0_6) (hc0_6 : l0_6.length ≤ c0_6) (hr1 : Kd.C (Kd.int .i64) w A1 l1.length l1) (hc1 : l1.length ≤ c1) (h : ship_apart.f k a0_0 a0_1 a0_2 l0_3 a0_4 l0_5 l0_6 l1 = some (r1, r2)) :
  Calls Try.prog 65 #[.agg #[.int .i64 a0_0, .int .i64 a0_1, .int .i64 a0_2, .slice A0_3 l0_3.length c0_3, .int .i64 a0_4, .slice A0_5 l0_5.length c0_5, .slice A0_6 l0_6.length c0_6], .slice A1 l1.length c1] w fun e w' => e = .returned (.agg #[.int .i64 r1, .int .i64 r2]) ∧ Below w.heap.size w w' := by
 have hu26 := Try.underlying26
 have hu56 := Try.underlying56
 have HR0_3 := Aside0.mk hr0_3
 have HC0_3 := Aside0.mk hc0_3
 clear hr0_3 hc0_3
 have HR0_5 := Aside0.mk hr0_5
 have HC0_5 := Aside0.mk hc0_5
 clear hr0_5 hc0_5
 have HR0_6 := Aside0.mk hr0_6
 have HC0_6 := Aside0.mk hc0_6
 clear hr0_6 hc0_6
 have HR1 := Aside0.mk hr1
 have HC1 := Aside0.mk hc1
 clear hr1 hc1
 have HB := Aside0.mk (Below.refl w.heap.size w)
 have H : (ship_apart.l0 k l1 (l1.length : Int) 0 a0_0 a0_1 a0_2 l0_3 a0_4 l0_5 l0_6 0 0) = some (r1, r2) := h
 clear h
 have H' := Aside0.mk H
 clear H
 go_enter Try.func65, Try.ntmps65
 go_wp2_with (first | (refine box_r (N := 2) rfl (cs := #[.int .i64 a0_0, .int .i64 a0_1, .int .i64 a0_2, .slice A0_3 l0_3.length c0_3, .int .i64 a0_4, .slice A0_5 l0_5.length c0_5, .slice A0_6 l0_6.length c0_6]) (t := 26) ?_; intro gb140 hg w3 hbox hb; have BK140 := Aside0.mk (hbox); have GW140 := gw_x hg HB; have GE140 := GW140; replace HB := Aside0.mk (below_step (below_x HB.out) hb); clear hb hbox hg) | (refine box_r (N := 4) rfl (cs := #[.int .i64 0, .int .i64 0]) (t := 56) ?_; intro gb141 hg w4 hbox hb; have BK141 := Aside0.mk (hbox); have GW141 := gw_x hg HB; have GE141 := GW141; replace HB := bl_x HB hb; have NB140_141 := nb_x hg BK140; have NB141_140 := nb_y hg BK140; replace BK140 := bk_x BK140 hb; clear hb hbox hg) | (refine box_r (N := 5) rfl (cs := #[.int .i64 0, .int .i64 0]) (t := 56) ?_; intro gb142 hg w5 hbox hb; have BK142 := Aside0.mk (hbox); have GW142 := gw_x hg HB; have GE142 := GW142; replace HB := bl_x HB hb; have NB140_142 := nb_x hg BK140; have NB142_140 := nb_y hg BK140; replace BK140 := bk_x BK140 hb; have NB141_142 := nb_x hg BK141; have NB142_141 := nb_y hg BK141; replace BK141 := bk_x BK141 hb; clear hb hbox hg))
 go_loopg [12] k (fun kq v12 w' => ∃ (x12_1 : Int) (x143000_1 : Int) (x143001_1 : Int), v12 = .int .i64 x12_1 ∧ Aside0 (ship_apart.l0 kq l1 (l1.length : Int) x12_1 a0_0 a0_1 a0_2 l0_3 a0_4 l0_5 l0_6 x143000_1 x143001_1 = some (r1, r2)) ∧ Aside0 (kq ≤ k) ∧ Aside0 (w'.heap[gb140]? = some (.cells #[.int .i64 a0_0, .int .i64 a0_1, .int .i64 a0_2, (.slice A0_3 l0_3.length c0_3), .int .i64 a0_4, (.slice A0_5 l0_5.length c0_5), (.slice A0_6 l0_6.length c0_6)] 26 (0, 0))) ∧ Aside0 (w'.heap[gb141]? = some (.cells #[.int .i64 0, .int .i64 0] 56 (0, 0))) ∧ Aside0 (w'.heap[gb142]? = some (.cells #[.int .i64 x143000_1, .int .i64 x143001_1] 56 (0, 0))) ∧ Aside0 (Below w.heap.size w w'))
 case atStart => exact ⟨(0), (0), (0), (by first | rfl | (simp; done) | (simp [*]; done)), H', ⟨Nat.le_refl _⟩, ⟨blk_x BK140.out⟩, ⟨blk_x BK141.out⟩, ⟨blk_x BK142.out⟩, ⟨by exact below_y HB.out⟩⟩
 case round =>
  clear H'; obtain ⟨x12_1, x143000_1, x143001_1, rfl, HA, HK1, BK140, BK141, BK142, HB⟩ := hrel; cases gk with
  | zero => exact absurd HA.out (by simp [ship_apart.l0])
  | succ k1 =>
   have H := HA.out; clear HA; simp only [ship_apart.l0] at H; by_cases c6 : x12_1 < (l1.length : Int)
   ·
    rw [if_pos c6] at H; have c6b0 : decide (x12_1 < (l1.length : Int)) = true := decide_eq_true c6; clear c6; by_cases c7 : 0 ≤ x12_1
    ·
     rw [if_pos c7] at H; have c7b0 : decide (0 ≤ x12_1) = true := decide_eq_true c7; clear c7; by_cases c8 : x12_1 < (l1.length : Int)
     ·
      rw [if_pos c8] at H; have c8b0 : decide (x12_1 < (l1.length : Int)) = true := decide_eq_true c8; clear c8; by_cases c9 : (rd l1 x12_1) < 0
      ·
       rw [if_pos c9] at H; have c9b0 : decide ((rd l1 x12_1) < 0) = true := decide_eq_true c9; clear c9; have H' := Aside0.mk H; clear H; have p143 : 0 ≤ (x12_1 : Int) := of_x; have q143 : x12_1 < (l1.length : Int) := of_x; obtain ⟨ad143, e143, hx143_0⟩ := Kd.at_int HR1.out x12_1 p143 q143; (cases e143); replace hx143_0 := cell_x HB hx143_0; replace p143 := eq_true p143; replace q143 := eq_true q143; go_wp2; go_roundg k1
       case measure => have := HK1.out; omega
       case rel => exact ⟨(wrap64 (x12_1 + 1)), (x143000_1), (x143001_1), (by first | rfl | (simp; done) | (simp [*]; done)), H', ⟨by have := HK1.out; omega⟩, ⟨blk_x BK140.out⟩, ⟨blk_x BK141.out⟩, ⟨blk_x BK142.out⟩, ⟨by exact below_y HB.out⟩⟩
      ·
       rw [if_neg c9] at H; have c9b0 : decide ((rd l1 x12_1) < 0) = false := decide_eq_false c9; clear c9; by_cases c10 : x12_1 < (l0_6.length : Int)
       ·
        rw [if_pos c10] at H; have c10b0 : decide (x12_1 < (l0_6.length : Int)) = true := decide_eq_true c10; clear c10; by_cases c11 : 0 ≤ (rd l1 x12_1)
        ·
         rw [if_pos c11] at H; have c11b0 : decide (0 ≤ (rd l1 x12_1)) = true := decide_eq_true c11; clear c11; by_cases c12 : (rd l1 x12_1) < (l0_3.length : Int)
         ·
          rw [if_pos c12] at H; have c12b0 : decide ((rd l1 x12_1) < (l0_3.length : Int)) = true := decide_eq_true c12; clear c12; obtain ⟨ji13, hji13⟩ : ∃ j_ : Int, (mn (wrap64 (((rd_T79 l0_6 x12_1).f0.f0) * (wrap64 (((rd_T85 l0_3 (rd l1 x12_1)).f1) - ((rd_T85 l0_3 (rd l1 x12_1)).f2))))) (wrap64 (((rd_T79 l0_6 x12_1).f0.f1) * (wrap64 (((rd_T85 l0_3 (rd l1 x12_1)).f1) - ((rd_T85 l0_3 (rd l1 x12_1)).f2)))))) = j_ := ⟨_, rfl⟩; (replace H : (ship_apart.l0 k1 l1 (l1.length : Int) (wrap64 (x12_1 + 1)) a0_0 a0_1 a0_2 l0_3 a0_4 l0_5 l0_6 (wrap64 (x143000_1 + (ji13))) (wrap64 (x143001_1 + (mx (wrap64 (((rd_T79 l0_6 x12_1).f0.f0) * (wrap64 (((rd_T85 l0_3 (rd l1 x12_1)).f1) - ((rd_T85 l0_3 (rd l1 x12_1)).f2))))) (wrap64 (((rd_T79 l0_6 x12_1).f0.f1) * (wrap64 (((rd_T85 l0_3 (rd l1 x12_1)).f1) - ((rd_T85 l0_3 (rd l1 x12_1)).f2))))))))) = some (r1, r2) := by first | (rw [hji13] at H; exact H) | (simp only [hji13] at H ⊢; exact H)); have hji13_ : (if (wrap64 (((rd_T79 l0_6 x12_1).f0.f1) * (wrap64 (((rd_T85 l0_3 (rd l1 x12_1)).f1) - ((rd_T85 l0_3 (rd l1 x12_1)).f2))))) < (wrap64 (((rd_T79 l0_6 x12_1).f0.f0) * (wrap64 (((rd_T85 l0_3 (rd l1 x12_1)).f1) - ((rd_T85 l0_3 (rd l1 x12_1)).f2))))) then (wrap64 (((rd_T79 l0_6 x12_1).f0.f1) * (wrap64 (((rd_T85 l0_3 (rd l1 x12_1)).f1) - ((rd_T85 l0_3 (rd l1 x12_1)).f2))))) else (wrap64 (((rd_T79 l0_6 x12_1).f0.f0) * (wrap64 (((rd_T85 l0_3 (rd l1 x12_1)).f1) - ((rd_T85 l0_3 (rd l1 x12_1)).f2)))))) = ji13 := hji13; obtain ⟨ji14, hji14⟩ : ∃ j_ : Int, (mx (wrap64 (((rd_T79 l0_6 x12_1).f0.f0) * (wrap64 (((rd_T85 l0_3 (rd l1 x12_1)).f1) - ((rd_T85 l0_3 (rd l1 x12_1)).f2))))) (wrap64 (((rd_T79 l0_6 x12_1).f0.f1) * (wrap64 (((rd_T85 l0_3 (rd l1 x12_1)).f1) - ((rd_T85 l0_3 (rd l1 x12_1)).f2)))))) = j_ := ⟨_, rfl⟩; (replace H : (ship_apart.l0 k1 l1 (l1.length : Int) (wrap64 (x12_1 + 1)) a0_0 a0_1 a0_2 l0_3 a0_4 l0_5 l0_6 (wrap64 (x143000_1 + (ji13))) (wrap64 (x143001_1 + (ji14)))) = some (r1, r2) := by first | (rw [hji14] at H; exact H) | (simp only [hji14] at H ⊢; exact H)); have hji14_ : (if (wrap64 (((rd_T79 l0_6 x12_1).f0.f0) * (wrap64 (((rd_T85 l0_3 (rd l1 x12_1)).f1) - ((rd_T85 l0_3 (rd l1 x12_1)).f2))))) < (wrap64 (((rd_T79 l0_6 x12_1).f0.f1) * (wrap64 (((rd_T85 l0_3 (rd l1 x12_1)).f1) - ((rd_T85 l0_3 (rd l1 x12_1)).f2))))) then (wrap64 (((rd_T79 l0_6 x12_1).f0.f1) * (wrap64 (((rd_T85 l0_3 (rd l1 x12_1)).f1) - ((rd_T85 l0_3 (rd l1 x12_1)).f2))))) else (wrap64 (((rd_T79 l0_6 x12_1).f0.f0) * (wrap64 (((rd_T85 l0_3 (rd l1 x12_1)).f1) - ((rd_T85 l0_3 (rd l1 x12_1)).f2)))))) = ji14 := hji14; have H' := Aside0.mk H; clear H; have p143 : 0 ≤ (x12_1 : Int) := of_x; have q143 : x12_1 < (l1.length : Int) := of_x; obtain ⟨ad143, e143, hx143_0⟩ := Kd.at_int HR1.out x12_1 p143 q143; (cases e143); replace hx143_0 := cell_x HB hx143_0; replace p143 := eq_true p143; replace q143 := eq_true q143
          try go_wp2
          replace BK140 := Aside0.mk (blk_drew BK140.out); replace BK141 := Aside0.mk (blk_drew BK141.out); replace BK142 := Aside0.mk (blk_drew BK142.out); replace HB := Aside0.mk (below_drew1 HB.out); have p144 : 0 ≤ (x12_1 : Int) := of_x; have q144 : x12_1 < (l0_6.length : Int) := of_x; obtain ⟨ad144, e144, hx144_0, hx144_1, hx144_2⟩ := at_T79 HR0_6.out x12_1 p144 q144; have hw144_2 := hx144_2; have hw144_1 := hx144_1; have hw144_0 := hx144_0; (cases e144); replace hx144_0 := cell_x HB hx144_0; replace hx144_1 := cell_x HB hx144_1; replace hx144_2 := cell_x HB hx144_2; replace p144 := eq_true p144; replace q144 := eq_true q144; have p145 : 0 ≤ ((rd l1 x12_1) : Int) := of_x; have q145 : (rd l1 x12_1) < (l0_3.length : Int) := of_x; obtain ⟨ad145, e145, hx145_0, hx145_1, hx145_2⟩ := at_T85 HR0_3.out (rd l1 x12_1) p145 q145; have hw145_2 := hx145_2; have hw145_1 := hx145_1; have hw145_0 := hx145_0; (cases e145); replace hx145_0 := cell_x HB hx145_0; replace hx145_1 := cell_x HB hx145_1; replace hx145_2 := cell_x HB hx145_2; replace p145 := eq_true p145; replace q145 := eq_true q145; have p146 : 0 ≤ ((rd l1 x12_1) : Int) := of_x; have q146 : (rd l1 x12_1) < (l0_3.length : Int) := of_x; obtain ⟨ad146, e146, hx146_0, hx146_1, hx146_2⟩ := at_T85 HR0_3.out (rd l1 x12_1) p146 q146; have hw146_2 := hx146_2; have hw146_1 := hx146_1; have hw146_0 := hx146_0; obtain rfl : ad145 = ad146 := (by injection e146); replace hx146_0 := cell_x HB hx146_0; replace hx146_1 := cell_x HB hx146_1; replace hx146_2 := cell_x HB hx146_2; replace p146 := eq_true p146; replace q146 := eq_true q146; refine start_ (n := 22) (S := fun w' => w'.cell? ⟨gb140, 0, none⟩ = some (.int .i64 a0_0) ∧ w'.cell? ⟨gb140, 1, none⟩ = some (.int .i64 a0_1) ∧ w'.cell? ⟨gb140, 2, none⟩ = some (.int .i64 a0_2) ∧ w'.cell? ⟨gb140, 3, none⟩ = some (.slice (some ad145) l0_3.length c0_3) ∧ w'.cell? ⟨gb140, 4, none⟩ = some (.int .i64 a0_4) ∧ w'.cell? ⟨gb140, 5, none⟩ = some (.slice A0_5 l0_5.length c0_5) ∧ w'.cell? ⟨gb140, 6, none⟩ = some (.slice (some ad144) l0_6.length c0_6) ∧ w'.cell? (ad144.add ((x12_1).toNat * 3)) = some (.int .i64 ((rd_T79 l0_6 x12_1).f0.f0)) ∧ w'.cell? ⟨(ad144.add ((x12_1).toNat * 3)).block, (ad144.add ((x12_1).toNat * 3)).off + 1, none⟩ = some (.int .i64 ((rd_T79 l0_6 x12_1).f0.f1)) ∧ w'.cell? ⟨(ad144.add ((x12_1).toNat * 3)).block, (ad144.add ((x12_1).toNat * 3)).off + 2, none⟩ = some (.int .i64 ((rd_T79 l0_6 x12_1).f1)) ∧ w'.cell? (ad145.add (((rd l1 x12_1)).toNat * 3)) = some (.int .i64 ((rd_T85 l0_3 (rd l1 x12_1)).f0)) ∧ w'.cell? ⟨(ad145.add (((rd l1 x12_1)).toNat * 3)).block, (ad145.add (((rd l1 x12_1)).toNat * 3)).off + 1, none⟩ = some (.int .i64 ((rd_T85 l0_3 (rd l1 x12_1)).f1)) ∧ w'.cell? ⟨(ad145.add (((rd l1 x12_1)).toNat * 3)).block, (ad145.add (((rd l1 x12_1)).toNat * 3)).off + 2, none⟩ = some (.int .i64 ((rd_T85 l0_3 (rd l1 x12_1)).f2)) ∧ w'.cell? (ad145.add (((rd l1 x12_1)).toNat * 3)) = some (.int .i64 ((rd_T85 l0_3 (rd l1 x12_1)).f0)) ∧ w'.cell? ⟨(ad145.add (((rd l1 x12_1)).toNat * 3)).block, (ad145.add (((rd l1 x12_1)).toNat * 3)).off + 1, none⟩ = some (.int .i64 ((rd_T85 l0_3 (rd l1 x12_1)).f1)) ∧ w'.cell? ⟨(ad145.add (((rd l1 x12_1)).toNat * 3)).block, (ad145.add (((rd l1 x12_1)).toNat * 3)).off + 2, none⟩ = some (.int .i64 ((rd_T85 l0_3 (rd l1 x12_1)).f2))) (ds := []) #[false, false, false, false, false, false, false, false, false, false, false, false, false, false, false, false, false, false, false, false, false, false] (by kernel_rfl) rfl rfl ⟨(blk_cell BK140.out 0).trans rfl, (blk_cell BK140.out 1).trans rfl, (blk_cell BK140.out 2).trans rfl, (blk_cell BK140.out 3).trans rfl, (blk_cell BK140.out 4).trans rfl, (blk_cell BK140.out 5).trans rfl, (blk_cell BK140.out 6).trans rfl, ((HB.out.cell (World.block_lt_of_cell? w _ hw144_0)).trans hw144_0), ((HB.out.cell (World.block_lt_of_cell? w _ hw144_1)).trans hw144_1), ((HB.out.cell (World.block_lt_of_cell? w _ hw144_2)).trans hw144_2), ((HB.out.cell (World.block_lt_of_cell? w _ hw145_0)).trans hw145_0), ((HB.out.cell (World.block_lt_of_cell? w _ hw145_1)).trans hw145_1), ((HB.out.cell (World.block_lt_of_cell? w _ hw145_2)).trans hw145_2), ((HB.out.cell (World.block_lt_of_cell? w _ hw146_0)).trans hw146_0), ((HB.out.cell (World.block_lt_of_cell? w _ hw146_1)).trans hw146_1), ((HB.out.cell (World.block_lt_of_cell? w _ hw146_2)).trans hw146_2)⟩ (fun hHeld => ?_); refine with_tabW ship_apart.tab6 ship_apart.bits6 (fun HT_ HW_ => ?_); generalize wr.drew = w15 at BK140 BK141 BK142 HB hx144_0 hx144_1 hx144_2 hx145_0 hx145_1 hx145_2 hx146_0 hx146_1 hx146_2 hHeld ⊢; refine pure_t 0 (some 19) (bz 22 1) HT_ ?_; refine pure_t 2 (some 21) (bz 22 5) HT_ ?_; refine pure_t 6 (some 25) (bz 22 69) HT_ ?_; refine pure_t 8 (some 27) (bz 22 325) HT_ ?_; refine pure_t 12 (some 31) (bz 22 4421) HT_ ?_; refine pure_t 14 (some 33) (bz 22 20805) HT_ ?_; refine take_t 1 (some 20) (bz 22 20807) HT_ HW_ hHeld ?_; refine pure_t 3 (some 22) (bz 22 20815) HT_ ?_; refine pure_t 4 (some 23) (bz 22 20831) HT_ ?_; refine take_t 5 (some 24) (bz 22 20863) HT_ HW_ hHeld ?_; refine take_t 7 (some 26) (bz 22 20991) HT_ HW_ hHeld ?_; refine pure_t 9 (some 28) (bz 22 21503) HT_ ?_; refine pure_t 10 (some 29) (bz 22 22527) HT_ ?_; refine take_t 11 (some 30) (bz 22 24575) HT_ HW_ hHeld ?_; refine take_t 13 (some 32) (bz 22 32767) HT_ HW_ hHeld ?_; refine pure_t 15 (some 34) (bz 22 65535) HT_ ?_; refine pure_t 16 (some 35) (bz 22 131071) HT_ ?_; refine take_t 17 (some 36) (bz 22 262143) HT_ HW_ hHeld ?_; refine pure_t 18 (some 37) (bz 22 524287) HT_ ?_; (refine one_t 19 (some 8) (bz 22 1048575) HT_ fun K hK => ?_); refine box_step ?hg (N := 8) ?hd (cs := #[.int .i64 0, .int .i64 0]) (t := 56) ?hr ?_; (case hd => rfl); (case hg => rfl); (case hr => first | (go_simp; done) | (go_simp; rfl)); intro gb147 hg w16 hbox hb; have BK147 := Aside0.mk (hbox); have GW147 := gw_x hg HB; have GE147 := gw_x hg HB; replace HB := bl_x HB hb; have NB140_147 := nb_x hg BK140; have NB147_140 := nb_y hg BK140; replace BK140 := bk_x BK140 hb; have NB141_147 := nb_x hg BK141; have NB147_141 := nb_y hg BK141; replace BK141 := bk_x BK141 hb; have NB142_147 := nb_x hg BK142; have NB147_142 := nb_y hg BK142; replace BK142 := bk_x BK142 hb; clear hb hbox hg; refine hK.out _ _ ⟨(blk_cell BK140.out 0).trans rfl, (blk_cell BK140.out 1).trans rfl, (blk_cell BK140.out 2).trans rfl, (blk_cell BK140.out 3).trans rfl, (blk_cell BK140.out 4).trans rfl, (blk_cell BK140.out 5).trans rfl, (blk_cell BK140.out 6).trans rfl, ((HB.out.cell (World.block_lt_of_cell? w _ hw144_0)).trans hw144_0), ((HB.out.cell (World.block_lt_of_cell? w _ hw144_1)).trans hw144_1), ((HB.out.cell (World.block_lt_of_cell? w _ hw144_2)).trans hw144_2), ((HB.out.cell (World.block_lt_of_cell? w _ hw145_0)).trans hw145_0), ((HB.out.cell (World.block_lt_of_cell? w _ hw145_1)).trans hw145_1), ((HB.out.cell (World.block_lt_of_cell? w _ hw145_2)).trans hw145_2), ((HB.out.cell (World.block_lt_of_cell? w _ hw146_0)).trans hw146_0), ((HB.out.cell (World.block_lt_of_cell? w _ hw146_1)).trans hw146_1), ((HB.out.cell (World.block_lt_of_cell? w _ hw146_2)).trans hw146_2)⟩ (fun hHeld => ?_); clear hK K; refine norm_y (some 8) ?_; (refine one_t 20 (none) (bz 22 2097151) HT_ fun K hK => ?_); have hs17 : w16.cell? ⟨gb147, 0, none⟩ = some (.int .i64 0) := (blk_cell BK147.out 0).trans rfl; have hfs17 := blk_frozen BK147.out 0; have hns17_0 := NB140_147.out; have hns17_1 := NB141_147.out; have hns17_2 := NB142_147.out; have hms17_0 := NB147_140.out; have hms17_1 := NB147_141.out; have hms17_2 := NB147_142.out; have hs18 : w16.cell? ⟨gb147, 1, none⟩ = some (.int .i64 0) := (blk_cell BK147.out 1).trans rfl; have hfs18 := blk_frozen BK147.out 1; have hns18_0 := NB140_147.out; have hns18_1 := NB141_147.out; have hns18_2 := NB142_147.out; have hms18_0 := NB147_140.out; have hms18_1 := NB147_141.out; have hms18_2 := NB147_142.out; refine skip_ (w1 := ?_) (by rfl) rfl ?_ ?_; rotate_left
          ·
           go_simp
           rfl
          refine hK.out _ _ ⟨(cf2_y NB140_147.out hHeld.1), (cf2_y NB140_147.out hHeld.2.1), (cf2_y NB140_147.out hHeld.2.2.1), (cf2_y NB140_147.out hHeld.2.2.2.1), (cf2_y NB140_147.out hHeld.2.2.2.2.1), (cf2_y NB140_147.out hHeld.2.2.2.2.2.1), (cf2_y NB140_147.out hHeld.2.2.2.2.2.2.1), ((cell_far (p := ⟨gb147, _, none⟩) (nf_x hw144_0 GW147) _).trans (((cell_far (p := ⟨gb147, _, none⟩) (nf_x hw144_0 GW147) _).trans (hHeld.2.2.2.2.2.2.2.1)))), ((cell_far (p := ⟨gb147, _, none⟩) (nf_x hw144_1 GW147) _).trans (((cell_far (p := ⟨gb147, _, none⟩) (nf_x hw144_1 GW147) _).trans (hHeld.2.2.2.2.2.2.2.2.1)))), ((cell_far (p := ⟨gb147, _, none⟩) (nf_x hw144_2 GW147) _).trans (((cell_far (p := ⟨gb147, _, none⟩) (nf_x hw144_2 GW147) _).trans (hHeld.2.2.2.2.2.2.2.2.2.1)))), ((cell_far (p := ⟨gb147, _, none⟩) (nf_x hw145_0 GW147) _).trans (((cell_far (p := ⟨gb147, _, none⟩) (nf_x hw145_0 GW147) _).trans (hHeld.2.2.2.2.2.2.2.2.2.2.1)))), ((cell_far (p := ⟨gb147, _, none⟩) (nf_x hw145_1 GW147) _).trans (((cell_far (p := ⟨gb147, _, none⟩) (nf_x hw145_1 GW147) _).trans (hHeld.2.2.2.2.2.2.2.2.2.2.2.1)))), ((cell_far (p := ⟨gb147, _, none⟩) (nf_x hw145_2 GW147) _).trans (((cell_far (p := ⟨gb147, _, none⟩) (nf_x hw145_2 GW147) _).trans (hHeld.2.2.2.2.2.2.2.2.2.2.2.2.1)))), ((cell_far (p := ⟨gb147, _, none⟩) (nf_x hw146_0 GW147) _).trans (((cell_far (p := ⟨gb147, _, none⟩) (nf_x hw146_0 GW147) _).trans (hHeld.2.2.2.2.2.2.2.2.2.2.2.2.2.1)))), ((cell_far (p := ⟨gb147, _, none⟩) (nf_x hw146_1 GW147) _).trans (((cell_far (p := ⟨gb147, _, none⟩) (nf_x hw146_1 GW147) _).trans (hHeld.2.2.2.2.2.2.2.2.2.2.2.2.2.2.1)))), ((cell_far (p := ⟨gb147, _, none⟩) (nf_x hw146_2 GW147) _).trans (((cell_far (p := ⟨gb147, _, none⟩) (nf_x hw146_2 GW147) _).trans (hHeld.2.2.2.2.2.2.2.2.2.2.2.2.2.2.2))))⟩ (fun hHeld => ?_); clear hK K; refine pure_t 21 (some 9) (bz 22 4194303) HT_ ?_; refine done_ (done_of HT_.out (by kernel_rfl)) ?_; have hnb19 := NB142_140.out; have hnc19 := NB140_142.out; have hnb20 := NB142_141.out; have hnc20 := NB141_142.out; have hnb21 := NB142_147.out; have hnc21 := NB147_142.out; obtain ⟨hfz22_0, _, _⟩ := cf2 BK142; have hnb23 := NB147_140.out; have hnc23 := NB140_147.out; have hnb24 := NB147_141.out; have hnc24 := NB141_147.out; obtain ⟨hfz25_0, _, _⟩ := cf2 BK147
          try go_wp2
          go_roundg k1
          case measure => have := HK1.out; omega
          case rel => exact ⟨(wrap64 (x12_1 + 1)), (wrap64 (x143000_1 + (ji13))), (wrap64 (x143001_1 + (ji14))), (by first | rfl | (simp; done) | (simp [*]; done)), H', ⟨by have := HK1.out; omega⟩, ⟨blk_w BK140.out⟩, ⟨blk_w BK141.out⟩, ⟨by (with_reducible repeat (first | refine blk_drewN ?_ _ | refine blk_drew ?_ | refine blk_alloc ?_ _)); refine blk_put (cs := #[.int .i64 (wrap64 (x143000_1 + (ji13))), .int .i64 x143001_1]) ?_ 1 _ rfl; (with_reducible repeat (first | refine blk_drewN ?_ _ | refine blk_drew ?_ | refine blk_alloc ?_ _)); refine blk_put (cs := #[.int .i64 x143000_1, .int .i64 x143001_1]) ?_ 0 _ rfl; exact blk_w BK142.out⟩, ⟨by exact below_y HB.out⟩⟩
         ·
          rw [if_neg c12] at H; exact absurd H (by simp)
        ·
         rw [if_neg c11] at H; exact absurd H (by simp)
       ·
        rw [if_neg c10] at H; exact absurd H (by simp)
     ·
      rw [if_neg c8] at H; exact absurd H (by simp)
    ·
     rw [if_neg c7] at H; exact absurd H (by simp)
   ·
    rw [if_neg c6] at H; have c6b0 : decide (x12_1 < (l1.length : Int)) = false := decide_eq_false c6; clear c6; simp only [Option.some.injEq, Prod.mk.injEq] at H; obtain ⟨rfl, rfl⟩ := H; have hnb26 := NB142_140.out; have hnc26 := NB140_142.out; have hnb27 := NB142_141.out; have hnc27 := NB141_142.out; obtain ⟨hfz28_0, _, _⟩ := cf2 BK142; have hnb29 := NB141_140.out; have hnc29 := NB140_141.out; obtain ⟨hfz30_0, _, _⟩ := cf2 BK141; go_wp2; refine bodyPost_ret (results_cell_row rfl _ _ gb141 56 #[.int .i64 x143000_1, .int .i64 x143001_1] (0, 0) _ rfl (blk_z BK141.out) Try.underlying56 rfl (by kernel_rfl)) rfl ?_; exact rt_y HB
end Go.Proofs.Ytodmemndaaiolaa.PC7
namespace Go.Proofs.Ytodmemndaaiolaa.PC7
set_option linter.unusedVariables false
set_option linter.unusedSimpArgs false
open Go.RowKit Go.Shelf Go.Proofs.YtodmemndaaiolaaW.PrintWords Go.Proofs.YtodmemndaaiolaaW.PrintLast Go.Proofs.YtodmemndaaiolaaW.PrintMore
section
variable (light under trim : Int) (holds : List S85) (leaves : Int) (sills : List S59) (lots : List S79)
noncomputable def chkE : Option Int := limO fun k => ship_Check.f k light under trim holds leaves sills lots
noncomputable def chkS (s : List Int) : Option Int := limO fun k => ship_checkStowage.f k light under trim holds leaves sills lots s
noncomputable def apartE (s : List Int) : Option (Int × Int) := limO fun k => ship_apart.f k light under trim holds leaves sills lots s
noncomputable def levelE (y z : Int) : Option Bool := limO fun k => ship_level.f k light under trim holds leaves sills lots y z
noncomputable def goodO (s : List Int) : Option Bool :=
  (chkS light under trim holds leaves sills lots s).bind fun e => if e = 0 then (apartE light under trim holds leaves sills lots s).bind fun x => (levelE light under trim holds leaves sills lots x.1 x.2).bind fun b =>
    if b = true then (ladenO light holds lots s).bind fun q => some (!decide ((sailO under leaves sills q false).length < sills.length)) else some false else some false
noncomputable def goodB (s : List Int) : Bool := (goodO light under trim holds leaves sills lots s).getD false
end
theorem goodO_some (light under trim : Int) (holds : List S85) (leaves : Int) (sills : List S59) (lots : List S79) (s : List Int) (h : (goodO light under trim holds leaves sills lots s).isSome = true) : goodO light under trim holds leaves sills lots s = some (goodB light under trim holds leaves sills lots s) := by
  unfold goodB
  cases hg : goodO light under trim holds leaves sills lots s with
  | none => rw [hg] at h; cases h
  | some b => rfl
def worthGo (lots : List S79) : Nat → List Int → Int → Int
  | _, [], a => a
  | i, h :: t, a => worthGo lots (i + 1) t (if 0 ≤ h then wrap64 (a + (lots.getD i z79).f1) else a)
def bestOf (good : List Int → Bool) (worth : List Int → Int) (L : List (List Int)) (b : List Int × Int) : List Int × Int := L.foldl (fun b t => if good t = true then (if b.2 < worth t then (t, worth t) else b) else b) b
theorem bestOf_snoc (good : List Int → Bool) (worth : List Int → Int) (L : List (List Int)) (b : List Int × Int) (t : List Int) : bestOf good worth (L ++ [t]) b = if good t = true then (if (bestOf good worth L b).2 < worth t then (t, worth t) else bestOf good worth L b) else bestOf good worth L b := by
  unfold bestOf
  rw [List.foldl_append]
  rfl
open Classical in
noncomputable def ship_Best.f (a0_0 : Int) (a0_1 : Int) (a0_2 : Int) (l0_3 : List (S85)) (a0_4 : Int) (l0_5 : List (S59)) (l0_6 : List (S79)) : Option (List Int × Int × Int) :=
  (chkE a0_0 a0_1 a0_2 l0_3 a0_4 l0_5 l0_6).bind fun e => if e = 0 then (if l0_3.length ≤ 100 ∧ l0_6.length ≤ 6 ∧ lensOK l0_5 ∧ (∀ t, t ∈ stowsL l0_3.length l0_6.length → (goodO a0_0 a0_1 a0_2 l0_3 a0_4 l0_5 l0_6 t).isSome = true) then
    some ((bestOf (goodB a0_0 a0_1 a0_2 l0_3 a0_4 l0_5 l0_6) (fun t => worthGo l0_6 0 t 0) (stowsL l0_3.length l0_6.length) ([], -1)).1, (bestOf (goodB a0_0 a0_1 a0_2 l0_3 a0_4 l0_5 l0_6) (fun t => worthGo l0_6 0 t 0) (stowsL l0_3.length l0_6.length) ([], -1)).2, 0) else none) else some ([], 0, e)
theorem R_kept {k : IntKind} {e : Nat} {W W1 : World} {base : Nat} {v : Value} {xs : List Int} (h : Kd.R (Kd.int k) e W base (fun _ => True) v xs)
    (hm : ∀ b, base ≤ b → (∃ (cells : Array Value) (t : TypeId), W.heap[b]? = some (.cells cells t (0, 0)) ∧ t = e) → W1.heap[b]? = W.heap[b]?) : Kd.R (Kd.int k) e W1 base (fun _ => True) v xs := by
  refine Kd.R_mono (Kd.R_step (Kd.R_bound h) (fun b hb hlt => ?_)) (fun _ _ => trivial)
  obtain ⟨_, h1, _, q, hq, cells, hc⟩ := hb
  exact hm b h1 ⟨cells, _, hc, by simpa [Kd.int, Kd.scalar] using hq⟩
def BestI (w0 : World) (g6 gb : Nat) (cs : Array Value) (good : List Int → Bool) (worth : List Int → Int) (b : Nat) (pre : List (Value × List Int)) (W : World) : Prop :=
  ∃ A n c, W.heap[g6]? = some (.cells #[.slice A n c, .int .i64 (bestOf good worth (pre.map (·.2)) ([], -1)).2] 104 (0, 0)) ∧ (∃ base, w0.heap.size ≤ base ∧ b < base ∧ Kd.R (Kd.int .i64) 3 W base (fun _ => True) (.slice A n c) (bestOf good worth (pre.map (·.2)) ([], -1)).1) ∧
    W.heap[gb]? = some (.cells cs 26 (0, 0)) ∧ Below w0.heap.size w0 W
theorem BestI.own {w0 : World} {g6 gb B : Nat} {cs : Array Value} {good : List Int → Bool} {worth : List Int → Int} (hB : w0.heap.size ≤ B) (b : Nat) : OwnFrom B (BestI w0 g6 gb cs good worth b) := by
  intro s W W' row hs hg hr
  obtain ⟨A, n, c, h1, ⟨base, hb1, hb2, h2⟩, h3, h4⟩ := hs
  have hno : ∀ {k : Nat} {cells : Array Value} {t : TypeId}, W.heap[k]? = some (.cells cells t (0, 0)) → W'.heap[k]? = W.heap[k]? := fun {k cells t} hk => hg.block k (blk_lt hk) (fun e => by
    obtain ⟨_, o, ho, hc⟩ := hr k e.symm
    rw [hk] at ho; cases ho; cases hc)
  refine ⟨A, n, c, (hno h1).trans h1, ⟨base, hb1, hb2, R_kept h2 fun k _ ⟨cells, t, hk, _⟩ => hno hk⟩, (hno h3).trans h3, ?_⟩
  exact (ownFrom_below (β := List (Value × List Int)) (Nat.le_refl _) hB) s W W' row h4 hg hr
theorem BestI.set {w0 : World} {g6 gb B : Nat} {cs : Array Value} {good : List Int → Bool} {worth : List Int → Int} (hB : w0.heap.size ≤ B) (h6 : g6 < B) (hb : gb < B) (b : Nat) (pre : List (Value × List Int)) (W : World) (i : Nat) (v : Value) (hbB : B ≤ b)
    (hs : BestI w0 g6 gb cs good worth b pre W) : BestI w0 g6 gb cs good worth b pre (W.setCell ⟨b, i, none⟩ v) := by
  obtain ⟨A, n, c, h1, ⟨base, hb1, hb2, h2⟩, h3, h4⟩ := hs
  refine ⟨A, n, c, (Below.heap_setCell _ _ _ _ (by show g6 ≠ b; omega)).trans h1, ⟨base, hb1, hb2, R_kept h2 fun k hk _ => Below.heap_setCell _ _ _ _ (by show k ≠ b; omega)⟩, (Below.heap_setCell _ _ _ _ (by show gb ≠ b; omega)).trans h3, below_set h4 (by show w0.heap.size ≤ b; omega)⟩
theorem keeps_of_below {W W' : World} (h : Below W.heap.size W W') : KeepsOthers W W' := ⟨h.size, fun k o hk _ => (h.block k (Array.getElem?_eq_some_iff.1 hk).1).trans hk⟩
theorem kpB_of_below {g : Nat} {W W' : World} (h : Below W.heap.size W W') : KpB g W W' := fun k o _ hk _ => (h.block k (Array.getElem?_eq_some_iff.1 hk).1).trans hk
theorem kpB_set {g i : Nat} {v : Value} (W : World) : KpB g W (W.setCell ⟨g, i, none⟩ v) := fun k o hk h _ => (Below.heap_setCell _ _ _ _ hk).trans h
theorem kpB_trans {g : Nat} {A B C : World} (h : KpB g A B) (k : KpB g B C) : KpB g A C := fun b o hb hA hc => k b o hb (h b o hb hA hc) hc
theorem kpB_obj {g : Nat} (W : World) (l : Nat) (o o' : Obj) (hl : W.heap[l]? = some o) (hc : o.isCells = false) : KpB g W (W.putObj l o') := fun b o2 _ h h2 => by
  have : b ≠ l := fun e => by subst e; rw [hl] at h; cases h; rw [hc] at h2; cases h2
  exact (World.putObj_heap_other this).trans h
theorem rxS_obj (n₀ : Nat) (L : List (List Int)) (b : Nat) (x : Value × List Int) (W : World) (l : Nat) (o o' : Obj) (hl : W.heap[l]? = some o) (hc : o.isCells = false) (h : RxS n₀ L b x W) : RxS n₀ L b x (W.putObj l o') := by
  obtain ⟨hm, base, h1, h2, hr⟩ := h
  refine ⟨hm, base, h1, h2, R_kept hr fun k _ ⟨cells, t, hk, _⟩ => World.putObj_heap_other (fun e => ?_)⟩
  subst e; rw [hl] at hk; cases hk; cases hc
theorem BestI.first {w0 W : World} {g6 gb : Nat} {cs : Array Value} {good : List Int → Bool} {worth : List Int → Int} (b : Nat) (hb : w0.heap.size ≤ b) (h6 : W.heap[g6]? = some (.cells #[.slice none 0 0, .int .i64 (-1)] 104 (0, 0))) (hk : W.heap[gb]? = some (.cells cs 26 (0, 0))) (hB : Below w0.heap.size w0 W) :
    BestI w0 g6 gb cs good worth b [] W := ⟨none, 0, 0, h6, ⟨b + 1, by omega, by omega, R_of_owns .i64 (World.ownsRow_nil _ _ _ _)⟩, hk, hB⟩
theorem BestI.below {w0 W W' : World} {g6 gb b : Nat} {cs : Array Value} {good : List Int → Bool} {worth : List Int → Int} {pre : List (Value × List Int)} {v : Value} {t : List Int} (h : BestI w0 g6 gb cs good worth b pre W) (hB : Below W.heap.size W W')
    (hp : good t = false) : BestI w0 g6 gb cs good worth b (pre ++ [(v, t)]) W' := by
  obtain ⟨A, n, c, h1, ⟨base, hb1, hb2, h2⟩, h3, h4⟩ := h
  have hno : ∀ {k : Nat} {cells : Array Value} {t : TypeId}, W.heap[k]? = some (.cells cells t (0, 0)) → W'.heap[k]? = W.heap[k]? := fun {k cells t} hk => hB.block k (blk_lt hk)
  have e : bestOf good worth ((pre ++ [(v, t)]).map (·.2)) ([], -1) = bestOf good worth (pre.map (·.2)) ([], -1) := by
    rw [List.map_append]; show bestOf good worth (pre.map (·.2) ++ [t]) _ = _; rw [bestOf_snoc, if_neg (by rw [hp]; simp)]
  refine ⟨A, n, c, by rw [e]; exact (hno h1).trans h1, ⟨base, hb1, hb2, by rw [e]; exact R_kept h2 fun k _ ⟨cells, t, hk, _⟩ => hno hk⟩, (hno h3).trans h3, h4.trans (hB.mono h4.size)⟩
theorem BestI.weighed {w0 W W' : World} {g6 gb b : Nat} {cs : Array Value} {good : List Int → Bool} {worth : List Int → Int} {pre : List (Value × List Int)} {t : List Int} {A : Option Addr} {n c : Nat} {At : Option Addr} {nt ct : Nat}
    (h1 : W.heap[g6]? = some (.cells #[.slice A n c, .int .i64 (bestOf good worth (pre.map (·.2)) ([], -1)).2] 104 (0, 0)))
    (h2 : ∃ base, w0.heap.size ≤ base ∧ b < base ∧ Kd.R (Kd.int .i64) 3 W base (fun _ => True) (.slice A n c) (bestOf good worth (pre.map (·.2)) ([], -1)).1)
    (ht : ∃ base, w0.heap.size ≤ base ∧ b < base ∧ Kd.R (Kd.int .i64) 3 W base (fun _ => True) (.slice At nt ct) t)
    (h3 : W.heap[gb]? = some (.cells cs 26 (0, 0))) (h4 : Below w0.heap.size w0 W) (hg6 : w0.heap.size ≤ g6) (hne : gb ≠ g6) (hB : Below W.heap.size W W') (hp : good t = true) (v : Value) (u : Value)
    (hu : u = if (bestOf good worth (pre.map (·.2)) ([], -1)).2 < worth t then .agg #[.slice At nt ct, .int .i64 (worth t)] else .agg #[.slice A n c, .int .i64 (bestOf good worth (pre.map (·.2)) ([], -1)).2]) :
    ∃ A' n' c' y, u = .agg #[.slice A' n' c', .int .i64 y] ∧
      BestI w0 g6 gb cs good worth b (pre ++ [(v, t)]) ((W'.setCell ⟨g6, 0, none⟩ (.slice A' n' c')).setCell ⟨g6, 1, none⟩ (.int .i64 y)) ∧
      KeepsOthers W ((W'.setCell ⟨g6, 0, none⟩ (.slice A' n' c')).setCell ⟨g6, 1, none⟩ (.int .i64 y)) ∧ KpB g6 W ((W'.setCell ⟨g6, 0, none⟩ (.slice A' n' c')).setCell ⟨g6, 1, none⟩ (.int .i64 y)) := by
  have hno : ∀ {k : Nat} {cells : Array Value} {t : TypeId}, W.heap[k]? = some (.cells cells t (0, 0)) → W'.heap[k]? = W.heap[k]? := fun {k cells t} hk => hB.block k (blk_lt hk)
  have e : bestOf good worth ((pre ++ [(v, t)]).map (·.2)) ([], -1) = if (bestOf good worth (pre.map (·.2)) ([], -1)).2 < worth t then (t, worth t) else bestOf good worth (pre.map (·.2)) ([], -1) := by
    rw [List.map_append]; show bestOf good worth (pre.map (·.2) ++ [t]) _ = _; rw [bestOf_snoc, if_pos hp]
  have key : ∀ (A' : Option Addr) (n' c' : Nat) (l : List Int) (y : Int), (∃ base, w0.heap.size ≤ base ∧ b < base ∧ Kd.R (Kd.int .i64) 3 W base (fun _ => True) (.slice A' n' c') l) → bestOf good worth ((pre ++ [(v, t)]).map (·.2)) ([], -1) = (l, y) →
      BestI w0 g6 gb cs good worth b (pre ++ [(v, t)]) ((W'.setCell ⟨g6, 0, none⟩ (.slice A' n' c')).setCell ⟨g6, 1, none⟩ (.int .i64 y)) ∧
      KeepsOthers W ((W'.setCell ⟨g6, 0, none⟩ (.slice A' n' c')).setCell ⟨g6, 1, none⟩ (.int .i64 y)) ∧ KpB g6 W ((W'.setCell ⟨g6, 0, none⟩ (.slice A' n' c')).setCell ⟨g6, 1, none⟩ (.int .i64 y)) := by
    rintro A' n' c' l y ⟨base, hb1, hb2, hr⟩ he
    refine ⟨⟨A', n', c', ?_, ⟨base, hb1, hb2, ?_⟩, ?_, ?_⟩, ((keeps_of_below hB).trans (KeepsOthers.setCell _ _ _)).trans (KeepsOthers.setCell _ _ _), kpB_trans (kpB_trans (kpB_of_below hB) (kpB_set _)) (kpB_set _)⟩
    · rw [he]; exact blk_put (cs' := #[.slice A' n' c', .int .i64 y]) (blk_set ((hno h1).trans h1) 0 (.slice A' n' c')) 1 (.int .i64 y) rfl
    · rw [he]
      refine R_kept hr fun k _ ⟨cells, t', hk, ht3⟩ => ?_
      by_cases hk6 : k = g6
      · subst hk6
        rw [h1] at hk
        injection hk with hk
        injection hk with _ hk
        exact absurd (hk.trans ht3) (by decide)
      · exact ((Below.heap_setCell _ _ _ _ hk6).trans (Below.heap_setCell _ _ _ _ hk6)).trans (hno hk)
    · exact blk_far (blk_far ((hno h3).trans h3) (p := ⟨g6, 0, none⟩) hne _) (p := ⟨g6, 1, none⟩) hne _
    · exact below_set (below_set (h4.trans (hB.mono h4.size)) hg6) hg6
  by_cases hlt : (bestOf good worth (pre.map (·.2)) ([], -1)).2 < worth t
  · rw [if_pos hlt] at hu e
    exact ⟨At, nt, ct, worth t, hu, key _ _ _ t _ ht e⟩
  · rw [if_neg hlt] at hu e
    exact ⟨A, n, c, _, hu, key _ _ _ _ _ h2 (e.trans rfl)⟩
end Go.Proofs.Ytodmemndaaiolaa.PC7
namespace Go.Proofs.Ytodmemndaaiolaa.PC7
set_option linter.unusedVariables false
set_option linter.unusedSimpArgs false
open Go.RowKit Go.Proofs.YtodmemndaaiolaaW.PrintWords Go.Proofs.YtodmemndaaiolaaW.PrintLast Go.Proofs.YtodmemndaaiolaaW.PrintMore
set_option maxHeartbeats 8000000 in
set_option maxRecDepth 100000 in
theorem stowages_calls (x : VoyV) (w : World) :
  Calls Try.prog 62 #[.agg #[.int .i64 x.light, .int .i64 x.under, .int .i64 x.trim, .slice x.A3 x.holds.length x.c3, .int .i64 x.leaves, .slice x.A5 x.sills.length x.c5, .slice x.A6 x.lots.length x.c6]] w fun e w' => ∃ gv, e = .returned (.func (.func 82) #[] #[.pointer (some ⟨gv, 0, none⟩)]) ∧ w.heap.size ≤ gv ∧ w'.heap[gv]? = some (.cells #[.int .i64 x.light, .int .i64 x.under, .int .i64 x.trim, .slice x.A3 x.holds.length x.c3, .int .i64 x.leaves, .slice x.A5 x.sills.length x.c5, .slice x.A6 x.lots.length x.c6] 26 (0, 0)) ∧ Below w.heap.size w w' := by
 have hu26 := Try.underlying26
 have hmf : ∀ (fn : Fn) (first cap : Array Value) (w : World), (Instr.makeFunc fn first cap).run Try.prog w = .ok (.func fn first cap) w := fun _ _ _ _ => rfl
 go_enter Try.func62, Try.ntmps62
 go_wp2_with ((refine box_r (N := 1) rfl (cs := #[.int .i64 x.light, .int .i64 x.under, .int .i64 x.trim, .slice x.A3 x.holds.length x.c3, .int .i64 x.leaves, .slice x.A5 x.sills.length x.c5, .slice x.A6 x.lots.length x.c6]) (t := 26) ?_; intro gb hg w2 hbox hb; have BK := Aside0.mk hbox; have HB := Aside0.mk hb; have GE : Aside0 (w.heap.size ≤ gb) := ⟨Nat.le_of_eq hg.symm⟩; clear hg hbox hb))
 go_ret
 exact ⟨gb, rfl, GE.out, BK.out, HB.out⟩
set_option maxHeartbeats 8000000 in
set_option maxRecDepth 100000 in
theorem more_calls (Ab : Option Addr) (nb cb : Nat) (b : Int) (Aa : Option Addr) (na ca : Nat) (a : Int) (w : World) :
  Calls Try.prog 67 #[.agg #[.slice Ab nb cb, .int .i64 b], .agg #[.slice Aa na ca, .int .i64 a]] w fun e w' => e = .returned (.bool (decide (a < b))) ∧ Below w.heap.size w w' := by
 have hu104 := Try.underlying104
 go_enter Try.func67, Try.ntmps67
 go_wp2_with (first
  | (refine box_r (N := 2) rfl (cs := #[.slice Ab nb cb, .int .i64 b]) (t := 104) ?_; intro g2 hg w2 hbox hb; have B2 := Aside0.mk hbox; have HB := Aside0.mk hb; clear hg hbox hb)
  | (refine box_r (N := 3) rfl (cs := #[.slice Aa na ca, .int .i64 a]) (t := 104) ?_; intro g3 hg w3 hbox hb; have B3 := Aside0.mk hbox; replace B2 := Aside0.mk (blk_below B2.out hb); replace HB := Aside0.mk (below_step HB.out hb); have hz2_ := (blk_cell B2.out 1).trans rfl; have hz3_ := (blk_cell B3.out 1).trans rfl; clear hg hbox hb))
 go_ret
 exact ⟨rfl, HB.out⟩
set_option maxHeartbeats 8000000 in
set_option maxRecDepth 100000 in
theorem better_calls (Aa : Option Addr) (na ca : Nat) (a : Int) (Ab : Option Addr) (nb cb : Nat) (b : Int) (w : World) :
  Calls Try.prog 66 #[.agg #[.slice Aa na ca, .int .i64 a], .agg #[.slice Ab nb cb, .int .i64 b], .func (.func 67) #[] #[]] w fun e w' => e = .returned (if a < b then .agg #[.slice Ab nb cb, .int .i64 b] else .agg #[.slice Aa na ca, .int .i64 a]) ∧ Below w.heap.size w w' := by
 have hu104 := Try.underlying104
 go_enter Try.func66, Try.ntmps66
 go_wp2_with (first
  | (refine box_r (N := 3) rfl (cs := #[.slice Aa na ca, .int .i64 a]) (t := 104) ?_; intro g3 hg w2 hbox hb; have B3 := Aside0.mk hbox; have HB := Aside0.mk hb; clear hg hbox hb)
  | (refine box_r (N := 4) rfl (cs := #[.slice Ab nb cb, .int .i64 b]) (t := 104) ?_; intro g4 hg w3 hbox hb; have B4 := Aside0.mk hbox; replace B3 := Aside0.mk (blk_below B3.out hb); replace HB := Aside0.mk (below_step HB.out hb); clear hg hbox hb)
  | (refine box_r (N := 6) rfl (cs := #[.slice none 0 0, .int .i64 0]) (t := 104) ?_; intro g6 hg w4 hbox hb; have B6 := Aside0.mk hbox; have GE6 : Aside0 (w.heap.size ≤ g6) := ⟨by rw [hg]; exact HB.out.size⟩; have N3 : Aside0 (g6 ≠ g3) := ⟨by have := blk_lt B3.out; omega⟩; have N4 : Aside0 (g6 ≠ g4) := ⟨by have := blk_lt B4.out; omega⟩; replace B3 := Aside0.mk (blk_below B3.out hb); replace B4 := Aside0.mk (blk_below B4.out hb); replace HB := Aside0.mk (below_step HB.out hb); have hz3_ := (blk_cell B3.out 0).trans rfl; have hz31_ := (blk_cell B3.out 1).trans rfl; have hz4_ := (blk_cell B4.out 0).trans rfl; have hz41_ := (blk_cell B4.out 1).trans rfl; clear hg hbox hb))
 refine (more_calls Ab nb cb b Aa na ca a w4).mono ?_
 rintro e w5 ⟨rfl, hb5⟩
 replace B3 := Aside0.mk (blk_below B3.out hb5)
 replace B4 := Aside0.mk (blk_below B4.out hb5)
 replace B6 := Aside0.mk (blk_below B6.out hb5)
 replace HB := Aside0.mk (below_step HB.out hb5)
 clear hb5 hz3_ hz31_ hz4_ hz41_
 have hz3_ : w5.cell? ⟨g3, 0, none⟩ = some (.slice Aa na ca) := (blk_cell B3.out 0).trans rfl
 have hz31_ : w5.cell? ⟨g3, 1, none⟩ = some (.int .i64 a) := (blk_cell B3.out 1).trans rfl
 have hz4_ : w5.cell? ⟨g4, 0, none⟩ = some (.slice Ab nb cb) := (blk_cell B4.out 0).trans rfl
 have hz41_ : w5.cell? ⟨g4, 1, none⟩ = some (.int .i64 b) := (blk_cell B4.out 1).trans rfl
 have hz6_ : w5.cell? ⟨g6, 0, none⟩ = some (.slice none 0 0) := (blk_cell B6.out 0).trans rfl
 have hz61_ : w5.cell? ⟨g6, 1, none⟩ = some (.int .i64 0) := (blk_cell B6.out 1).trans rfl
 have hf6_ := blk_frozen B6.out
 have P : ∀ (A : Option Addr) (n c : Nat) (y : Int), Aside0 ((((w5.setCell ⟨g6, 0, none⟩ (.slice A n c)).setCell ⟨g6, 1, none⟩ (.int .i64 y)).heap[g6]? = some (.cells #[.slice A n c, .int .i64 y] 104 (0, 0))) ∧ Below w.heap.size w ((w5.setCell ⟨g6, 0, none⟩ (.slice A n c)).setCell ⟨g6, 1, none⟩ (.int .i64 y))) := fun A n c y =>
  ⟨blk_put (cs' := #[.slice A n c, .int .i64 y]) (blk_set B6.out 0 (.slice A n c)) 1 (.int .i64 y) rfl, below_set (below_set HB.out GE6.out) GE6.out⟩
 by_cases hab : a < b
 ·
  have P1 := P Ab nb cb b; clear P; have hz : decide (a < b) = true := decide_eq_true hab; go_wp2; have hq0 := (blk_cell P1.out.1 0).trans rfl; have hq1 := (blk_cell P1.out.1 1).trans rfl; refine bodyPost_ret (v := .agg #[.slice Ab nb cb, .int .i64 b]) ?_ rfl ?_
  ·
   simp [results, Try.results66, go_sem, hq0, hq1]
  ·
   exact ⟨by first | rfl | rw [if_pos hab], P1.out.2⟩
 ·
  have P1 := P Aa na ca a; clear P; have hz : decide (a < b) = false := decide_eq_false hab; go_wp2; have hq0 := (blk_cell P1.out.1 0).trans rfl; have hq1 := (blk_cell P1.out.1 1).trans rfl; refine bodyPost_ret (v := .agg #[.slice Aa na ca, .int .i64 a]) ?_ rfl ?_
  ·
   simp [results, Try.results66, go_sem, hq0, hq1]
  ·
   exact ⟨by first | rfl | rw [if_neg (by omega)], P1.out.2⟩
end Go.Proofs.Ytodmemndaaiolaa.PC7
namespace Go.Proofs.Ytodmemndaaiolaa.PC7
set_option linter.unusedVariables false
set_option linter.unusedSimpArgs false
open Go.RowKit Go.Proofs.YtodmemndaaiolaaW.PrintWords Go.Proofs.YtodmemndaaiolaaW.PrintLast Go.Proofs.YtodmemndaaiolaaW.PrintMore
open Go.Shelf
attribute [local go_sem] Oper.semAt_some
set_option maxHeartbeats 8000000 in
set_option maxRecDepth 100000 in
theorem best_calls (x : VoyV) (r1 : List Int) (r2 r3 : Int) (w : World) (hx : x.Ok w) (h : ship_Best.f x.light x.under x.trim x.holds x.leaves x.sills x.lots = some (r1, r2, r3)) :
  Calls Try.prog 28 #[.agg #[.int .i64 x.light, .int .i64 x.under, .int .i64 x.trim, .slice x.A3 x.holds.length x.c3, .int .i64 x.leaves, .slice x.A5 x.sills.length x.c5, .slice x.A6 x.lots.length x.c6]] w fun e w' => ∃ v0_ : Value, e = .returned (.tuple #[v0_, .int .i64 r2, .int .i64 r3]) ∧ Kd.R (Kd.int .i64) 3 w' w.heap.size (fun _ => True) v0_ r1 ∧ Below w.heap.size w w' := by
 have hu26 := Try.underlying26
 have hu104 := Try.underlying104
 have hu56 := Try.underlying56
 unfold ship_Best.f at h
 replace h := Option.bind_eq_some_iff.1 h
 obtain ⟨er, hst0, h⟩ := h
 obtain ⟨ks, hst⟩ := limO_ev hst0
 clear hst0
 have HX := Aside0.mk hx
 have HST := Aside0.mk hst
 have H := Aside0.mk h
 clear hx hst h
 refine (callsIn_wide (n := 6)).1 ?_
 refine callsIn_of_wp_marks Try.func28 rfl trivial ?_ rfl
 simp only [Try.ntmps28, List.size_toArray, List.length_cons, List.length_nil, Nat.reduceAdd, Nat.reduceSub, Array.replicate_succ, Array.replicate_zero, List.push_toArray, List.append_toArray, List.nil_append, List.cons_append]
 refine wpIn_wide.2 ?_
 go_wp2_with ((refine box_r (N := 1) rfl (cs := #[.int .i64 x.light, .int .i64 x.under, .int .i64 x.trim, .slice x.A3 x.holds.length x.c3, .int .i64 x.leaves, .slice x.A5 x.sills.length x.c5, .slice x.A6 x.lots.length x.c6]) (t := 26) ?_; intro gb hg w2 hbox hb; have BK := Aside0.mk hbox; have HB := Aside0.mk hb; have GE : Aside0 (w.heap.size ≤ gb) := ⟨Nat.le_of_eq hg.symm⟩; have hz0_ := (blk_cell BK.out 0).trans rfl; have hz1_ := (blk_cell BK.out 1).trans rfl; have hz2_ := (blk_cell BK.out 2).trans rfl; have hz3_ := (blk_cell BK.out 3).trans rfl; have hz4_ := (blk_cell BK.out 4).trans rfl; have hz5_ := (blk_cell BK.out 5).trans rfl; have hz6_ := (blk_cell BK.out 6).trans rfl; clear hg hbox hb))
 refine (ship_Check.calls ks x.light x.under x.trim x.A3 x.c3 x.holds x.leaves x.A5 x.c5 x.sills x.A6 x.c6 x.lots er w2 (HX.out.below HB.out).h (HX.out.below HB.out).hc (HX.out.below HB.out).s (HX.out.below HB.out).sc (HX.out.below HB.out).l (HX.out.below HB.out).lc HST.out).mono ?_
 rintro e w3 ⟨rfl, hb3⟩
 replace BK := Aside0.mk (blk_below BK.out hb3)
 replace HB := Aside0.mk (below_step HB.out hb3)
 clear hb3 hz0_ hz1_ hz2_ hz3_ hz4_ hz5_ hz6_
 by_cases her : er = 0
 case neg =>
  have hh := H.out; rw [if_neg her] at hh; have hnb : (er == 0) = false := beq_eq_false_iff_ne.2 her; simp only [Option.some.injEq, Prod.mk.injEq] at hh; obtain ⟨rfl, rfl, rfl⟩ := hh; clear her H; go_wp2; exact ⟨.tuple #[.slice none 0 0, .int .i64 0, .int .i64 er], by simp [results, Try.results28, go_sem], _, rfl, R_of_owns .i64 (World.ownsRow_nil _ _ _ _), HB.out⟩
 subst her
 have hh := H.out
 rw [if_pos rfl] at hh
 by_cases hc : x.holds.length ≤ 100 ∧ x.lots.length ≤ 6 ∧ lensOK x.sills ∧ (∀ t, t ∈ stowsL x.holds.length x.lots.length → (goodO x.light x.under x.trim x.holds x.leaves x.sills x.lots t).isSome = true)
 case neg => rw [if_neg hc] at hh; cases hh
 rw [if_pos hc] at hh
 obtain ⟨hH, hN, hLS, hGO⟩ := hc
 have HLN := Aside0.mk (SailLens.of hLS)
 have HGO := Aside0.mk hGO
 obtain ⟨good, hgood⟩ : ∃ g, g = goodB x.light x.under x.trim x.holds x.leaves x.sills x.lots := ⟨_, rfl⟩
 obtain ⟨worth, hworth⟩ : ∃ g : List Int → Int, g = fun t => worthGo x.lots 0 t 0 := ⟨_, rfl⟩
 rw [← hgood, ← hworth] at hh
 simp only [Option.some.injEq, Prod.mk.injEq] at hh
 have HH := Aside0.mk hh
 have HGD := Aside0.mk hgood
 have HWD := Aside0.mk hworth
 clear hh H hLS hGO hgood hworth
 go_upto_region 5 with (first
  | (refine box_r (N := 6) rfl (cs := #[.slice none 0 0, .int .i64 0]) (t := 104) ?_; intro g6 hg w4 hbox hb; have B6 := Aside0.mk hbox; have GE6 : Aside0 (w.heap.size ≤ g6) := ⟨by rw [hg]; exact HB.out.size⟩; have N6 : Aside0 (gb ≠ g6) := ⟨by have := blk_lt BK.out; omega⟩; replace BK := Aside0.mk (blk_below BK.out hb); replace HB := Aside0.mk (below_step HB.out hb); have hy0_ : w4.cell? ⟨g6, 0, none⟩ = some (.slice none 0 0) := (blk_cell B6.out 0).trans rfl; have hy1_ : w4.cell? ⟨g6, 1, none⟩ = some (.int .i64 0) := (blk_cell B6.out 1).trans rfl; have hfy_ := blk_frozen B6.out; clear hg hbox hb))
 have C6 := Aside0.mk (blk_put (cs' := #[.slice none 0 0, .int .i64 (-1)]) (blk_set B6.out 0 (.slice none 0 0)) 1 (.int .i64 (-1)) rfl)
 have CK := Aside0.mk (blk_far (blk_far BK.out (p := ⟨g6, 0, none⟩) N6.out (.slice none 0 0)) (p := ⟨g6, 1, none⟩) N6.out (.int .i64 (-1)))
 have CB : Aside0 (Below w.heap.size w ((w4.setCell ⟨g6, 0, none⟩ (.slice none 0 0)).setCell ⟨g6, 1, none⟩ (.int .i64 (-1)))) := ⟨below_set (below_set HB.out GE6.out) GE6.out⟩
 clear hy0_ hy1_ hfy_ B6 BK HB
 generalize (w4.setCell ⟨g6, 0, none⟩ (.slice none 0 0)).setCell ⟨g6, 1, none⟩ (.int .i64 (-1)) = w5 at *
 have hz0_ := (blk_cell CK.out 0).trans rfl
 have hz1_ := (blk_cell CK.out 1).trans rfl
 have hz2_ := (blk_cell CK.out 2).trans rfl
 have hz3_ := (blk_cell CK.out 3).trans rfl
 have hz4_ := (blk_cell CK.out 4).trans rfl
 have hz5_ := (blk_cell CK.out 5).trans rfl
 have hz6_ := (blk_cell CK.out 6).trans rfl
 go_wp2_with (fail)
 refine (stowages_calls x w5).mono ?_
 rintro e w6 ⟨gv, rfl, hgv, hbv, hb6⟩
 have BV := Aside0.mk hbv
 have NV : Aside0 (gv ≠ g6) := ⟨by have := blk_lt C6.out; omega⟩
 have LV := Aside0.mk (blk_lt C6.out)
 replace C6 := Aside0.mk (blk_below C6.out hb6)
 replace CK := Aside0.mk (blk_below CK.out hb6)
 replace CB := Aside0.mk (below_step CB.out hb6)
 clear hgv hbv hb6 hz0_ hz1_ hz2_ hz3_ hz4_ hz5_ hz6_
 go_wp2
 refine (wpIn_wide (n := 6)).1 ?_
 have LT6 := Aside0.mk (blk_lt C6.out)
 have LTK := Aside0.mk (blk_lt CK.out)
 refine range_gives (n := 6) (gf := 82) (lb := #[.pointer (some ⟨gv, 0, none⟩)]) (by decide) rfl (enters_of Try.func82 (by kernel_rfl) rfl)
  (stowages_gives 5 gv w.heap.size g6 (by decide) x w6 BV.out NV.out LT6.out hH hN CB.out.size) kpB_trans kpB_obj (rxS_obj _ _) (Below.refl _ _) (fun _ => rfl) (BestI w g6 gb #[.int .i64 x.light, .int .i64 x.under, .int .i64 x.trim, .slice x.A3 x.holds.length x.c3, .int .i64 x.leaves, .slice x.A5 x.sills.length x.c5, .slice x.A6 x.lots.length x.c6] good worth) (fun b => BestI.own CB.out.size b)
  (fun b pre A i v hb hi _ => BestI.set CB.out.size LT6.out LTK.out b pre A i v hb hi) (fun b hb => BestI.first b (Nat.le_trans CB.out.size hb) C6.out CK.out CB.out)
  (fun p => { tmps := List.toArray (.agg #[.int .i64 x.light, .int .i64 x.under, .int .i64 x.trim, .slice x.A3 x.holds.length x.c3, .int .i64 x.leaves, .slice x.A5 x.sills.length x.c5, .slice x.A6 x.lots.length x.c6] :: .pointer (some ⟨gb, 0, none⟩) :: .slice none 0 0 :: .int .i64 0 :: .int .i64 0 :: .int .i64 0 :: .pointer (some ⟨g6, 0, none⟩) :: p.1 :: undef :: undef :: undef :: .agg #[.int .i64 x.light, .int .i64 x.under, .int .i64 x.trim, .slice x.A3 x.holds.length x.c3, .int .i64 x.leaves, .slice x.A5 x.sills.length x.c5, .slice x.A6 x.lots.length x.c6] :: .int .i64 0 :: .int .i64 0 :: .bool false :: undef :: .agg #[.slice none 0 0, .int .i64 (-1)] :: .agg #[.int .i64 x.light, .int .i64 x.under, .int .i64 x.trim, .slice x.A3 x.holds.length x.c3, .int .i64 x.leaves, .slice x.A5 x.sills.length x.c5, .slice x.A6 x.lots.length x.c6] :: .func (.func 82) #[] #[.pointer (some ⟨gv, 0, none⟩)] :: p.1 :: undef :: undef :: undef :: undef :: undef :: undef :: undef :: undef :: undef :: undef :: undef :: undef :: undef :: undef :: undef :: undef :: undef :: undef :: undef :: undef :: undef :: undef :: undef :: undef :: undef :: undef :: undef :: undef :: undef :: undef :: undef :: undef :: undef :: undef :: undef :: undef :: undef :: undef :: undef :: undef :: undef :: undef :: undef :: undef :: undef :: undef :: undef :: undef :: undef :: undef :: undef :: undef :: []), defers := [] }) ?assign ?body ?done
 case assign =>
  intro l p W K hK; unfold encStow
  gi_wp2
  exact hK
 case body =>
  rintro l b pre ⟨v, t⟩ W hb ⟨A, n, c, h6, hR, hbk, hB⟩ ⟨hmem, hR2⟩; obtain ⟨base2, hn2, hlt2, hRv⟩ := hR2; replace hRv : Kd.R (Kd.int .i64) 3 W base2 (fun _ => True) v t := hRv; replace hmem : t ∈ stowsL x.holds.length x.lots.length := hmem; dsimp only; obtain ⟨Av, cv, hv⟩ := Kd.R_slice hRv; subst hv; have HRV := Aside0.mk hRv; have HCT := Aside0.mk (Kd.R_reads' hRv).2.2; have HCL := Aside0.mk (Kd.R_reads' hRv).2.1; have H6 := Aside0.mk h6; have HR6 := Aside0.mk hR; have HBK := Aside0.mk hbk; have HBB := Aside0.mk hB; have HBN := Aside0.mk (And.intro hn2 hlt2); have HBI : Aside0 (BestI w g6 gb #[.int .i64 x.light, .int .i64 x.under, .int .i64 x.trim, .slice x.A3 x.holds.length x.c3, .int .i64 x.leaves, .slice x.A5 x.sills.length x.c5, .slice x.A6 x.lots.length x.c6] good worth b pre W) := ⟨⟨A, n, c, h6, hR, hbk, hB⟩⟩; have HTL := Aside0.mk (stowsL_mem _ _ t hmem).1; have hg := goodO_some _ _ _ _ _ _ _ t (HGO.out t hmem); rw [← HGD.out] at hg; have HBW := Aside0.mk (below_drew1 (Below.refl W.heap.size W)); have HXW := Aside0.mk (HX.out.below hB); clear hRv h6 hR hbk hB hn2 hlt2 hmem; unfold goodO at hg; obtain ⟨e1, he1, hg1⟩ := Option.bind_eq_some_iff.1 hg; obtain ⟨k1, hk1⟩ := limO_ev he1; have HK1 := Aside0.mk hk1; clear hg he1 hk1; have hk0_ : W.drew.cell? ⟨gb, 0, none⟩ = some (.int .i64 x.light) := (blk_cell (blk_drew HBK.out) 0).trans rfl; have hk1_ : W.drew.cell? ⟨gb, 1, none⟩ = some (.int .i64 x.under) := (blk_cell (blk_drew HBK.out) 1).trans rfl; have hk2_ : W.drew.cell? ⟨gb, 2, none⟩ = some (.int .i64 x.trim) := (blk_cell (blk_drew HBK.out) 2).trans rfl; have hk3_ : W.drew.cell? ⟨gb, 3, none⟩ = some (.slice x.A3 x.holds.length x.c3) := (blk_cell (blk_drew HBK.out) 3).trans rfl; have hk4_ : W.drew.cell? ⟨gb, 4, none⟩ = some (.int .i64 x.leaves) := (blk_cell (blk_drew HBK.out) 4).trans rfl; have hk5_ : W.drew.cell? ⟨gb, 5, none⟩ = some (.slice x.A5 x.sills.length x.c5) := (blk_cell (blk_drew HBK.out) 5).trans rfl; have hk6_ : W.drew.cell? ⟨gb, 6, none⟩ = some (.slice x.A6 x.lots.length x.c6) := (blk_cell (blk_drew HBK.out) 6).trans rfl; by_cases h1 : e1 = 0
  case neg =>
   rw [if_neg h1] at hg1; (have hgf : good t = false := by injection hg1 with hg1; exact hg1.symm); have hnb : (e1 == 0) = false := beq_eq_false_iff_ne.2 h1; have hnc : (e1 != 0) = true := bne_iff_ne.2 h1; clear hg1
   gi_upto_region 7 with (fail)
   refine startR_ (m := 23) (S := fun w' => w'.cell? ⟨gb, 0, none⟩ = some (.int .i64 x.light) ∧ w'.cell? ⟨gb, 1, none⟩ = some (.int .i64 x.under) ∧ w'.cell? ⟨gb, 2, none⟩ = some (.int .i64 x.trim) ∧ w'.cell? ⟨gb, 3, none⟩ = some (.slice x.A3 x.holds.length x.c3) ∧ w'.cell? ⟨gb, 4, none⟩ = some (.int .i64 x.leaves) ∧ w'.cell? ⟨gb, 5, none⟩ = some (.slice x.A5 x.sills.length x.c5) ∧ w'.cell? ⟨gb, 6, none⟩ = some (.slice x.A6 x.lots.length x.c6)) (ds := []) (bz 23 0) (by kernel_rfl) (fun ⟨_, _, h_⟩ => h_) (by kernel_rfl) rfl rfl ⟨hk0_, hk1_, hk2_, hk3_, hk4_, hk5_, hk6_⟩ (fun hHeld => ?_); generalize W.drew = wd at HBW hHeld ⊢; refine pure_y 1 (some 21) (bz 23 2) ?_; refine take_y 0 (some 20) (bz 23 3) hHeld ?_; (refine one_y 2 (some 22) (bz 23 7) fun K hK => ?_); refine goes_x Try.func63 #[.agg #[.int .i64 x.light, .int .i64 x.under, .int .i64 x.trim, .slice x.A3 x.holds.length x.c3, .int .i64 x.leaves, .slice x.A5 x.sills.length x.c5, .slice x.A6 x.lots.length x.c6], .slice Av t.length cv] ?_
   with_reducible refine (ship_checkStowage.calls k1 x.light x.under x.trim x.A3 x.c3 x.holds x.leaves x.A5 x.c5 x.sills x.A6 x.c6 x.lots Av cv t _ _ (HXW.out.below HBW.out).h (HXW.out.below HBW.out).hc (HXW.out.below HBW.out).s (HXW.out.below HBW.out).sc (HXW.out.below HBW.out).l (HXW.out.below HBW.out).lc (Kd.C_below HCT.out HBW.out) HCL.out HK1.out).mono ?_
   rintro e wa ⟨rfl, hb_⟩; replace HBW := Aside0.mk (below_step HBW.out hb_); refine ⟨_, rfl, ?_⟩; refine hK.out _ _ (cbs_y hb_ hHeld) (fun hHeld => ?_); clear hK K; refine norm_y (some 22) ?_; refine pure_y 3 (some 23) (bz 23 15) ?_; refine pure_y 4 (some 24) (bz 23 31) ?_; refine dead_y 5 (some 25) (bz 23 63) ?_; refine dead_y 6 (some 26) (bz 23 127) ?_; refine dead_y 7 (some 27) (bz 23 255) ?_; refine dead_y 8 (some 28) (bz 23 511) ?_; refine dead_y 9 (some 29) (bz 23 1023) ?_; refine dead_y 10 (some 30) (bz 23 2047) ?_; refine pure_y 11 (some 31) (bz 23 4095) ?_; refine pure_y 12 (some 32) (bz 23 8191) ?_; refine dead_y 13 (some 33) (bz 23 16383) ?_; refine dead_y 14 (some 34) (bz 23 32767) ?_; refine dead_y 15 (some 35) (bz 23 65535) ?_; refine dead_y 16 (some 36) (bz 23 131071) ?_; refine dead_y 17 (some 37) (bz 23 262143) ?_; refine dead_y 18 (some 38) (bz 23 524287) ?_; refine dead_y 19 (some 39) (bz 23 1048575) ?_; refine dead_y 20 (some 40) (bz 23 2097151) ?_; refine dead_y 21 (some 41) (bz 23 4194303) ?_; refine pure_y 22 (some 42) (bz 23 8388607) ?_; refine done_ (by kernel_rfl) ?_
   gi_wp2
   exact ⟨keeps_of_below HBW.out, kpB_of_below HBW.out, HBI.out.below HBW.out hgf⟩
  subst h1; rw [if_pos rfl] at hg1; replace hg1 := Option.bind_eq_some_iff.1 hg1; obtain ⟨⟨a1, a2⟩, ha, hg2⟩ := hg1; replace hg2 := Option.bind_eq_some_iff.1 hg2; obtain ⟨bl, hbl, hg3⟩ := hg2; obtain ⟨k2, hk2⟩ := limO_ev ha; obtain ⟨k3, hk3⟩ := limO_ev hbl; replace hk3 : ship_level.f k3 x.light x.under x.trim x.holds x.leaves x.sills x.lots a1 a2 = some bl := hk3; have HK2 := Aside0.mk hk2; have HK3 := Aside0.mk hk3; clear ha hbl hk2 hk3; cases bl with
  | false =>
   rw [if_neg (by simp)] at hg3; (have hgf : good t = false := by injection hg3 with hg3; exact hg3.symm); clear hg3
   gi_upto_region 7 with (fail)
   refine startR_ (m := 23) (S := fun w' => w'.cell? ⟨gb, 0, none⟩ = some (.int .i64 x.light) ∧ w'.cell? ⟨gb, 1, none⟩ = some (.int .i64 x.under) ∧ w'.cell? ⟨gb, 2, none⟩ = some (.int .i64 x.trim) ∧ w'.cell? ⟨gb, 3, none⟩ = some (.slice x.A3 x.holds.length x.c3) ∧ w'.cell? ⟨gb, 4, none⟩ = some (.int .i64 x.leaves) ∧ w'.cell? ⟨gb, 5, none⟩ = some (.slice x.A5 x.sills.length x.c5) ∧ w'.cell? ⟨gb, 6, none⟩ = some (.slice x.A6 x.lots.length x.c6)) (ds := []) (bz 23 0) (by kernel_rfl) (fun ⟨_, _, h_⟩ => h_) (by kernel_rfl) rfl rfl ⟨hk0_, hk1_, hk2_, hk3_, hk4_, hk5_, hk6_⟩ (fun hHeld => ?_); generalize W.drew = wd at HBW hHeld ⊢; refine pure_y 1 (some 21) (bz 23 2) ?_; refine take_y 0 (some 20) (bz 23 3) hHeld ?_; (refine one_y 2 (some 22) (bz 23 7) fun K hK => ?_); refine goes_x Try.func63 #[.agg #[.int .i64 x.light, .int .i64 x.under, .int .i64 x.trim, .slice x.A3 x.holds.length x.c3, .int .i64 x.leaves, .slice x.A5 x.sills.length x.c5, .slice x.A6 x.lots.length x.c6], .slice Av t.length cv] ?_
   with_reducible refine (ship_checkStowage.calls k1 x.light x.under x.trim x.A3 x.c3 x.holds x.leaves x.A5 x.c5 x.sills x.A6 x.c6 x.lots Av cv t _ _ (HXW.out.below HBW.out).h (HXW.out.below HBW.out).hc (HXW.out.below HBW.out).s (HXW.out.below HBW.out).sc (HXW.out.below HBW.out).l (HXW.out.below HBW.out).lc (Kd.C_below HCT.out HBW.out) HCL.out HK1.out).mono ?_
   rintro e wa ⟨rfl, hb_⟩; replace HBW := Aside0.mk (below_step HBW.out hb_); refine ⟨_, rfl, ?_⟩; refine hK.out _ _ (cbs_y hb_ hHeld) (fun hHeld => ?_); clear hK K; refine norm_y (some 22) ?_; refine pure_y 3 (some 23) (bz 23 15) ?_; refine pure_y 4 (some 24) (bz 23 31) ?_; refine pure_y 7 (some 27) (bz 23 159) ?_; refine take_y 5 (some 25) (bz 23 191) hHeld ?_; refine take_y 6 (some 26) (bz 23 255) hHeld ?_; (refine one_y 8 (some 28) (bz 23 511) fun K hK => ?_); refine goes_x Try.func65 #[.agg #[.int .i64 x.light, .int .i64 x.under, .int .i64 x.trim, .slice x.A3 x.holds.length x.c3, .int .i64 x.leaves, .slice x.A5 x.sills.length x.c5, .slice x.A6 x.lots.length x.c6], .slice Av t.length cv] ?_
   with_reducible refine (ship_apart.calls k2 x.light x.under x.trim x.A3 x.c3 x.holds x.leaves x.A5 x.c5 x.sills x.A6 x.c6 x.lots Av cv t a1 a2 _ (HXW.out.below HBW.out).h (HXW.out.below HBW.out).hc (HXW.out.below HBW.out).s (HXW.out.below HBW.out).sc (HXW.out.below HBW.out).l (HXW.out.below HBW.out).lc (Kd.C_below HCT.out HBW.out) HCL.out HK2.out).mono ?_
   rintro e wb ⟨rfl, hb_⟩; replace HBW := Aside0.mk (below_step HBW.out hb_); refine ⟨_, rfl, ?_⟩; refine hK.out _ _ (cbs_y hb_ hHeld) (fun hHeld => ?_); clear hK K; refine norm_y (some 28) ?_; (refine one_y 9 (some 29) (bz 23 1023) fun K hK => ?_); refine goes_x Try.func64 #[.agg #[.int .i64 x.light, .int .i64 x.under, .int .i64 x.trim, .slice x.A3 x.holds.length x.c3, .int .i64 x.leaves, .slice x.A5 x.sills.length x.c5, .slice x.A6 x.lots.length x.c6], .agg #[.int .i64 a1, .int .i64 a2]] ?_
   with_reducible refine (ship_level.calls k3 x.light x.under x.trim x.A3 x.c3 x.holds x.leaves x.A5 x.c5 x.sills x.A6 x.c6 x.lots a1 a2 _ _ (HXW.out.below HBW.out).h (HXW.out.below HBW.out).hc (HXW.out.below HBW.out).s (HXW.out.below HBW.out).sc (HXW.out.below HBW.out).l (HXW.out.below HBW.out).lc HK3.out).mono ?_
   rintro e wc ⟨rfl, hb_⟩; replace HBW := Aside0.mk (below_step HBW.out hb_); refine ⟨_, rfl, ?_⟩; refine hK.out _ _ (cbs_y hb_ hHeld) (fun hHeld => ?_); clear hK K; refine norm_y (some 29) ?_; refine pure_y 10 (some 30) (bz 23 2047) ?_; refine pure_y 11 (some 31) (bz 23 4095) ?_; refine pure_y 12 (some 32) (bz 23 8191) ?_; refine dead_y 13 (some 33) (bz 23 16383) ?_; refine dead_y 14 (some 34) (bz 23 32767) ?_; refine dead_y 15 (some 35) (bz 23 65535) ?_; refine dead_y 16 (some 36) (bz 23 131071) ?_; refine dead_y 17 (some 37) (bz 23 262143) ?_; refine dead_y 18 (some 38) (bz 23 524287) ?_; refine dead_y 19 (some 39) (bz 23 1048575) ?_; refine dead_y 20 (some 40) (bz 23 2097151) ?_; refine dead_y 21 (some 41) (bz 23 4194303) ?_; refine pure_y 22 (some 42) (bz 23 8388607) ?_; refine done_ (by kernel_rfl) ?_
   gi_wp2
   exact ⟨keeps_of_below HBW.out, kpB_of_below HBW.out, HBI.out.below HBW.out hgf⟩
  | true =>
   rw [if_pos rfl] at hg3; replace hg3 := Option.bind_eq_some_iff.1 hg3; obtain ⟨Q, hQ, hg4⟩ := hg3; have HQ := Aside0.mk hQ; obtain ⟨so, hso⟩ : ∃ s, s = sailO x.under x.leaves x.sills Q false := ⟨_, rfl⟩; rw [← hso] at hg4; have HSO := Aside0.mk hso; clear hQ hso; by_cases hlt : so.length < x.sills.length
   case pos =>
    (have hgf : good t = false := by injection hg4 with hg4; rw [← hg4, decide_eq_true hlt]; rfl); have hdz : decide ((so.length : Int) < (x.sills.length : Int)) = true := decide_eq_true (by omega); have hdn := decide_eq_true hlt; clear hg4 hlt
    gi_upto_region 7 with (fail)
    refine startR_ (m := 23) (S := fun w' => w'.cell? ⟨gb, 0, none⟩ = some (.int .i64 x.light) ∧ w'.cell? ⟨gb, 1, none⟩ = some (.int .i64 x.under) ∧ w'.cell? ⟨gb, 2, none⟩ = some (.int .i64 x.trim) ∧ w'.cell? ⟨gb, 3, none⟩ = some (.slice x.A3 x.holds.length x.c3) ∧ w'.cell? ⟨gb, 4, none⟩ = some (.int .i64 x.leaves) ∧ w'.cell? ⟨gb, 5, none⟩ = some (.slice x.A5 x.sills.length x.c5) ∧ w'.cell? ⟨gb, 6, none⟩ = some (.slice x.A6 x.lots.length x.c6)) (ds := []) (bz 23 0) (by kernel_rfl) (fun ⟨_, _, h_⟩ => h_) (by kernel_rfl) rfl rfl ⟨hk0_, hk1_, hk2_, hk3_, hk4_, hk5_, hk6_⟩ (fun hHeld => ?_); generalize W.drew = wd at HBW hHeld ⊢; refine pure_y 1 (some 21) (bz 23 2) ?_; refine take_y 0 (some 20) (bz 23 3) hHeld ?_; (refine one_y 2 (some 22) (bz 23 7) fun K hK => ?_); refine goes_x Try.func63 #[.agg #[.int .i64 x.light, .int .i64 x.under, .int .i64 x.trim, .slice x.A3 x.holds.length x.c3, .int .i64 x.leaves, .slice x.A5 x.sills.length x.c5, .slice x.A6 x.lots.length x.c6], .slice Av t.length cv] ?_
    with_reducible refine (ship_checkStowage.calls k1 x.light x.under x.trim x.A3 x.c3 x.holds x.leaves x.A5 x.c5 x.sills x.A6 x.c6 x.lots Av cv t _ _ (HXW.out.below HBW.out).h (HXW.out.below HBW.out).hc (HXW.out.below HBW.out).s (HXW.out.below HBW.out).sc (HXW.out.below HBW.out).l (HXW.out.below HBW.out).lc (Kd.C_below HCT.out HBW.out) HCL.out HK1.out).mono ?_
    rintro e wa ⟨rfl, hb_⟩; replace HBW := Aside0.mk (below_step HBW.out hb_); refine ⟨_, rfl, ?_⟩; refine hK.out _ _ (cbs_y hb_ hHeld) (fun hHeld => ?_); clear hK K; refine norm_y (some 22) ?_; refine pure_y 3 (some 23) (bz 23 15) ?_; refine pure_y 4 (some 24) (bz 23 31) ?_; refine pure_y 7 (some 27) (bz 23 159) ?_; refine take_y 5 (some 25) (bz 23 191) hHeld ?_; refine take_y 6 (some 26) (bz 23 255) hHeld ?_; (refine one_y 8 (some 28) (bz 23 511) fun K hK => ?_); refine goes_x Try.func65 #[.agg #[.int .i64 x.light, .int .i64 x.under, .int .i64 x.trim, .slice x.A3 x.holds.length x.c3, .int .i64 x.leaves, .slice x.A5 x.sills.length x.c5, .slice x.A6 x.lots.length x.c6], .slice Av t.length cv] ?_
    with_reducible refine (ship_apart.calls k2 x.light x.under x.trim x.A3 x.c3 x.holds x.leaves x.A5 x.c5 x.sills x.A6 x.c6 x.lots Av cv t a1 a2 _ (HXW.out.below HBW.out).h (HXW.out.below HBW.out).hc (HXW.out.below HBW.out).s (HXW.out.below HBW.out).sc (HXW.out.below HBW.out).l (HXW.out.below HBW.out).lc (Kd.C_below HCT.out HBW.out) HCL.out HK2.out).mono ?_
    rintro e wb ⟨rfl, hb_⟩; replace HBW := Aside0.mk (below_step HBW.out hb_); refine ⟨_, rfl, ?_⟩; refine hK.out _ _ (cbs_y hb_ hHeld) (fun hHeld => ?_); clear hK K; refine norm_y (some 28) ?_; (refine one_y 9 (some 29) (bz 23 1023) fun K hK => ?_); refine goes_x Try.func64 #[.agg #[.int .i64 x.light, .int .i64 x.under, .int .i64 x.trim, .slice x.A3 x.holds.length x.c3, .int .i64 x.leaves, .slice x.A5 x.sills.length x.c5, .slice x.A6 x.lots.length x.c6], .agg #[.int .i64 a1, .int .i64 a2]] ?_
    with_reducible refine (ship_level.calls k3 x.light x.under x.trim x.A3 x.c3 x.holds x.leaves x.A5 x.c5 x.sills x.A6 x.c6 x.lots a1 a2 _ _ (HXW.out.below HBW.out).h (HXW.out.below HBW.out).hc (HXW.out.below HBW.out).s (HXW.out.below HBW.out).sc (HXW.out.below HBW.out).l (HXW.out.below HBW.out).lc HK3.out).mono ?_
    rintro e wc ⟨rfl, hb_⟩; replace HBW := Aside0.mk (below_step HBW.out hb_); refine ⟨_, rfl, ?_⟩; refine hK.out _ _ (cbs_y hb_ hHeld) (fun hHeld => ?_); clear hK K; refine norm_y (some 29) ?_; refine pure_y 10 (some 30) (bz 23 2047) ?_; refine pure_y 11 (some 31) (bz 23 4095) ?_; refine pure_y 12 (some 32) (bz 23 8191) ?_; refine pure_y 14 (some 34) (bz 23 24575) ?_; refine pure_y 18 (some 38) (bz 23 286719) ?_; refine take_y 13 (some 33) (bz 23 294911) hHeld ?_; refine take_y 19 (some 39) (bz 23 819199) hHeld ?_; refine pure_y 20 (some 40) (bz 23 1867775) ?_; (refine one_y 15 (some 35) (bz 23 1900543) fun K hK => ?_); refine goes_x Try.func55 #[.agg #[.int .i64 x.light, .int .i64 x.under, .int .i64 x.trim, .slice x.A3 x.holds.length x.c3, .int .i64 x.leaves, .slice x.A5 x.sills.length x.c5, .slice x.A6 x.lots.length x.c6], .slice Av t.length cv] ?_
    with_reducible refine (laden_calls x Av cv t Q _ (HXW.out.below HBW.out) (Kd.C_below HCT.out HBW.out) HCL.out (by have := HTL.out; omega) HQ.out).mono ?_
    rintro e we ⟨rfl, hb_⟩; replace HBW := Aside0.mk (below_step HBW.out hb_); refine ⟨_, rfl, ?_⟩; refine hK.out _ _ (cbs_y hb_ hHeld) (fun hHeld => ?_); clear hK K; refine norm_y (some 35) ?_; (refine one_y 16 (some 36) (bz 23 1966079) fun K hK => ?_); refine goes_x Try.func56 #[.agg #[.int .i64 x.light, .int .i64 x.under, .int .i64 x.trim, .slice x.A3 x.holds.length x.c3, .int .i64 x.leaves, .slice x.A5 x.sills.length x.c5, .slice x.A6 x.lots.length x.c6, .int .i64 Q.b0, .int .i64 Q.b1, .int .i64 Q.h0, .int .i64 Q.h1], .bool false] ?_
    with_reducible refine (sail_calls x Q false _ (HXW.out.below HBW.out) HLN.out).mono ?_
    rintro e wf ⟨v3, rfl, hr3, hb_⟩; rw [← HSO.out] at hr3; obtain ⟨A3, c3, rfl⟩ := Kd.R_slice hr3; clear hr3; replace HBW := Aside0.mk (below_step HBW.out hb_); refine ⟨_, rfl, ?_⟩; refine hK.out _ _ (cbs_y hb_ hHeld) (fun hHeld => ?_); clear hK K; refine norm_y (some 36) ?_; refine pure_y 17 (some 37) (bz 23 2097151) ?_; refine pure_y 21 (some 41) (bz 23 4194303) ?_; refine pure_y 22 (some 42) (bz 23 8388607) ?_; refine done_ (by kernel_rfl) ?_
    gi_wp2
    exact ⟨keeps_of_below HBW.out, kpB_of_below HBW.out, HBI.out.below HBW.out hgf⟩
   (have hgt : good t = true := by injection hg4 with hg4; rw [← hg4, decide_eq_false hlt]; rfl); have hdz : decide ((so.length : Int) < (x.sills.length : Int)) = false := decide_eq_false (by omega); have hdn := decide_eq_false hlt; clear hg4 hlt
   gi_upto_region 7 with (fail)
   refine startR_ (m := 23) (S := fun w' => w'.cell? ⟨gb, 0, none⟩ = some (.int .i64 x.light) ∧ w'.cell? ⟨gb, 1, none⟩ = some (.int .i64 x.under) ∧ w'.cell? ⟨gb, 2, none⟩ = some (.int .i64 x.trim) ∧ w'.cell? ⟨gb, 3, none⟩ = some (.slice x.A3 x.holds.length x.c3) ∧ w'.cell? ⟨gb, 4, none⟩ = some (.int .i64 x.leaves) ∧ w'.cell? ⟨gb, 5, none⟩ = some (.slice x.A5 x.sills.length x.c5) ∧ w'.cell? ⟨gb, 6, none⟩ = some (.slice x.A6 x.lots.length x.c6)) (ds := []) (bz 23 0) (by kernel_rfl) (fun ⟨_, _, h_⟩ => h_) (by kernel_rfl) rfl rfl ⟨hk0_, hk1_, hk2_, hk3_, hk4_, hk5_, hk6_⟩ (fun hHeld => ?_); generalize W.drew = wd at HBW hHeld ⊢; refine pure_y 1 (some 21) (bz 23 2) ?_; refine take_y 0 (some 20) (bz 23 3) hHeld ?_; (refine one_y 2 (some 22) (bz 23 7) fun K hK => ?_); refine goes_x Try.func63 #[.agg #[.int .i64 x.light, .int .i64 x.under, .int .i64 x.trim, .slice x.A3 x.holds.length x.c3, .int .i64 x.leaves, .slice x.A5 x.sills.length x.c5, .slice x.A6 x.lots.length x.c6], .slice Av t.length cv] ?_
   with_reducible refine (ship_checkStowage.calls k1 x.light x.under x.trim x.A3 x.c3 x.holds x.leaves x.A5 x.c5 x.sills x.A6 x.c6 x.lots Av cv t _ _ (HXW.out.below HBW.out).h (HXW.out.below HBW.out).hc (HXW.out.below HBW.out).s (HXW.out.below HBW.out).sc (HXW.out.below HBW.out).l (HXW.out.below HBW.out).lc (Kd.C_below HCT.out HBW.out) HCL.out HK1.out).mono ?_
   rintro e wa ⟨rfl, hb_⟩; replace HBW := Aside0.mk (below_step HBW.out hb_); refine ⟨_, rfl, ?_⟩; refine hK.out _ _ (cbs_y hb_ hHeld) (fun hHeld => ?_); clear hK K; refine norm_y (some 22) ?_; refine pure_y 3 (some 23) (bz 23 15) ?_; refine pure_y 4 (some 24) (bz 23 31) ?_; refine pure_y 7 (some 27) (bz 23 159) ?_; refine take_y 5 (some 25) (bz 23 191) hHeld ?_; refine take_y 6 (some 26) (bz 23 255) hHeld ?_; (refine one_y 8 (some 28) (bz 23 511) fun K hK => ?_); refine goes_x Try.func65 #[.agg #[.int .i64 x.light, .int .i64 x.under, .int .i64 x.trim, .slice x.A3 x.holds.length x.c3, .int .i64 x.leaves, .slice x.A5 x.sills.length x.c5, .slice x.A6 x.lots.length x.c6], .slice Av t.length cv] ?_
   with_reducible refine (ship_apart.calls k2 x.light x.under x.trim x.A3 x.c3 x.holds x.leaves x.A5 x.c5 x.sills x.A6 x.c6 x.lots Av cv t a1 a2 _ (HXW.out.below HBW.out).h (HXW.out.below HBW.out).hc (HXW.out.below HBW.out).s (HXW.out.below HBW.out).sc (HXW.out.below HBW.out).l (HXW.out.below HBW.out).lc (Kd.C_below HCT.out HBW.out) HCL.out HK2.out).mono ?_
   rintro e wb ⟨rfl, hb_⟩; replace HBW := Aside0.mk (below_step HBW.out hb_); refine ⟨_, rfl, ?_⟩; refine hK.out _ _ (cbs_y hb_ hHeld) (fun hHeld => ?_); clear hK K; refine norm_y (some 28) ?_; (refine one_y 9 (some 29) (bz 23 1023) fun K hK => ?_); refine goes_x Try.func64 #[.agg #[.int .i64 x.light, .int .i64 x.under, .int .i64 x.trim, .slice x.A3 x.holds.length x.c3, .int .i64 x.leaves, .slice x.A5 x.sills.length x.c5, .slice x.A6 x.lots.length x.c6], .agg #[.int .i64 a1, .int .i64 a2]] ?_
   with_reducible refine (ship_level.calls k3 x.light x.under x.trim x.A3 x.c3 x.holds x.leaves x.A5 x.c5 x.sills x.A6 x.c6 x.lots a1 a2 _ _ (HXW.out.below HBW.out).h (HXW.out.below HBW.out).hc (HXW.out.below HBW.out).s (HXW.out.below HBW.out).sc (HXW.out.below HBW.out).l (HXW.out.below HBW.out).lc HK3.out).mono ?_
   rintro e wc ⟨rfl, hb_⟩; replace HBW := Aside0.mk (below_step HBW.out hb_); refine ⟨_, rfl, ?_⟩; refine hK.out _ _ (cbs_y hb_ hHeld) (fun hHeld => ?_); clear hK K; refine norm_y (some 29) ?_; refine pure_y 10 (some 30) (bz 23 2047) ?_; refine pure_y 11 (some 31) (bz 23 4095) ?_; refine pure_y 12 (some 32) (bz 23 8191) ?_; refine pure_y 14 (some 34) (bz 23 24575) ?_; refine pure_y 18 (some 38) (bz 23 286719) ?_; refine take_y 13 (some 33) (bz 23 294911) hHeld ?_; refine take_y 19 (some 39) (bz 23 819199) hHeld ?_; refine pure_y 20 (some 40) (bz 23 1867775) ?_; (refine one_y 15 (some 35) (bz 23 1900543) fun K hK => ?_); refine goes_x Try.func55 #[.agg #[.int .i64 x.light, .int .i64 x.under, .int .i64 x.trim, .slice x.A3 x.holds.length x.c3, .int .i64 x.leaves, .slice x.A5 x.sills.length x.c5, .slice x.A6 x.lots.length x.c6], .slice Av t.length cv] ?_
   with_reducible refine (laden_calls x Av cv t Q _ (HXW.out.below HBW.out) (Kd.C_below HCT.out HBW.out) HCL.out (by have := HTL.out; omega) HQ.out).mono ?_
   rintro e we ⟨rfl, hb_⟩; replace HBW := Aside0.mk (below_step HBW.out hb_); refine ⟨_, rfl, ?_⟩; refine hK.out _ _ (cbs_y hb_ hHeld) (fun hHeld => ?_); clear hK K; refine norm_y (some 35) ?_; (refine one_y 16 (some 36) (bz 23 1966079) fun K hK => ?_); refine goes_x Try.func56 #[.agg #[.int .i64 x.light, .int .i64 x.under, .int .i64 x.trim, .slice x.A3 x.holds.length x.c3, .int .i64 x.leaves, .slice x.A5 x.sills.length x.c5, .slice x.A6 x.lots.length x.c6, .int .i64 Q.b0, .int .i64 Q.b1, .int .i64 Q.h0, .int .i64 Q.h1], .bool false] ?_
   with_reducible refine (sail_calls x Q false _ (HXW.out.below HBW.out) HLN.out).mono ?_
   rintro e wf ⟨v3, rfl, hr3, hb_⟩; rw [← HSO.out] at hr3; obtain ⟨A3, c3, rfl⟩ := Kd.R_slice hr3; clear hr3; replace HBW := Aside0.mk (below_step HBW.out hb_); refine ⟨_, rfl, ?_⟩; refine hK.out _ _ (cbs_y hb_ hHeld) (fun hHeld => ?_); clear hK K; refine norm_y (some 36) ?_; refine pure_y 17 (some 37) (bz 23 2097151) ?_; refine pure_y 21 (some 41) (bz 23 4194303) ?_; refine pure_y 22 (some 42) (bz 23 8388607) ?_; refine done_ (by kernel_rfl) ?_; have HGT := Aside0.mk hgt; clear hgt hdz hdn hHeld; have ha0_ : (wf.alloc (.cells #[.slice none 0 0, .int .i64 0] 104 (0, 0))).cell? ⟨wf.heap.size, 0, none⟩ = some (.slice none 0 0) := (blk_cell (blk_new wf (.cells #[.slice none 0 0, .int .i64 0] 104 (0, 0))) 0).trans rfl; have ha1_ : (wf.alloc (.cells #[.slice none 0 0, .int .i64 0] 104 (0, 0))).cell? ⟨wf.heap.size, 1, none⟩ = some (.int .i64 0) := (blk_cell (blk_new wf (.cells #[.slice none 0 0, .int .i64 0] 104 (0, 0))) 1).trans rfl; have haf_ := blk_frozen (blk_new wf (.cells #[.slice none 0 0, .int .i64 0] 104 (0, 0)))
   gi_upto_region 9 with (fail)
   clear ha0_ ha1_ haf_ hk0_ hk1_ hk2_ hk3_ hk4_ hk5_ hk6_; obtain ⟨g8, hg8_⟩ : ∃ g, g = wf.heap.size := ⟨_, rfl⟩
   gi_wp2
   have B8 := Aside0.mk (blk_new wf (.cells #[.slice Av t.length cv, .int .i64 0] 104 (0, 0))); have HW8 : Aside0 (Below W.heap.size W (wf.alloc (.cells #[.slice Av t.length cv, .int .i64 0] 104 (0, 0)))) := ⟨below_alloc HBW.out _⟩; have GE8 : Aside0 (W.heap.size ≤ g8) := ⟨by rw [hg8_]; exact HBW.out.size⟩; generalize hw8_ : wf.alloc (.cells #[.slice Av t.length cv, .int .i64 0] 104 (0, 0)) = w8 at *; clear hw8_ HBW; rw [← hg8_] at B8 ⊢; clear hg8_; have htl6 : t.length ≤ 6 := by have := HTL.out; omega
   gi_loopg [47] t.length (fun gk v47 wr => ∃ (k : Nat) (acc : Int), k ≤ t.length ∧ t.length - k ≤ gk ∧ v47 = .int .i64 k ∧ Aside0 (worthGo x.lots k (t.drop k) acc = worthGo x.lots 0 t 0) ∧ Aside0 (wr.heap[g8]? = some (.cells #[.slice Av t.length cv, .int .i64 acc] 104 (0, 0))) ∧ Aside0 (Below W.heap.size W wr))
   case atStart => exact ⟨0, 0, by omega, by omega, rfl, ⟨rfl⟩, B8, HW8⟩
   case round =>
    clear B8 HW8; obtain ⟨k, acc, hk, hgk, rfl, HWO, B8, HBW⟩ := hrel; by_cases hlt : k < t.length
    ·
     (have hlz : (k : Int) < (t.length : Int) := by omega); have hdr := drop_rd t k hlt; rw [hdr] at HWO; clear hdr; obtain ⟨ad, e, hx0⟩ := Kd.at_int HCT.out (k : Int) (by omega) hlz; (cases e); rw [Int.toNat_natCast] at hx0; replace hx0 := (HBW.out.cell (World.block_lt_of_cell? W _ hx0)).trans hx0; generalize rd t (k : Int) = a at *; by_cases ha : 0 ≤ a
     ·
      have HW2 := Aside0.mk (show worthGo x.lots (k + 1) (t.drop (k + 1)) (wrap64 (acc + (x.lots.getD k z79).f1)) = worthGo x.lots 0 t 0 by have := HWO.out; simp only [worthGo] at this; rwa [if_pos ha] at this); (have hkl : k < x.lots.length := by have := HTL.out; omega); obtain ⟨adl, e6, _, _, ht2⟩ := at_T79 HXW.out.l (k : Int) (by omega) (by omega); rw [Int.toNat_natCast] at ht2; replace ht2 := (HBW.out.cell (World.block_lt_of_cell? W _ ht2)).trans ht2; rw [show rd_T79 x.lots (k : Int) = x.lots.getD k z79 by simp [rd_T79]] at ht2; generalize (x.lots.getD k z79).f1 = wo at *; (have hz6_ : wr.cell? ⟨gb, 6, none⟩ = some (.slice (some adl) x.lots.length x.c6) := by rw [← e6]; exact (HBW.out.cell (World.block_lt_of_cell? W _ ((blk_cell HBK.out 6).trans rfl))).trans ((blk_cell HBK.out 6).trans rfl)); have hy1_ : wr.cell? ⟨g8, 1, none⟩ = some (.int .i64 acc) := (blk_cell B8.out 1).trans rfl; have hkz : (k : Int) < (x.lots.length : Int) := by omega
      gi_upto_region 13 with (fail)
      replace B8 := Aside0.mk (blk_drew B8.out); replace HBW := Aside0.mk (below_step HBW.out (below_drew1 (Below.refl wr.heap.size wr))); refine startR_ (m := 11) (S := fun w' => w'.cell? ⟨g8, 1, none⟩ = some (.int .i64 acc) ∧ w'.cell? ⟨gb, 6, none⟩ = some (.slice (some adl) x.lots.length x.c6) ∧ w'.cell? ⟨(adl.add (k * 3)).block, (adl.add (k * 3)).off + 2, none⟩ = some (.int .i64 wo)) (ds := [10]) (bz 11 0) (by kernel_rfl) (fun ⟨_, _, h_⟩ => h_) (by kernel_rfl) rfl rfl ⟨hy1_, hz6_, ht2⟩ (fun hHeld => ?_); generalize wr.drew = wd at B8 HBW hHeld ⊢; refine pure_y 0 (some 54) (bz 11 1) ?_; refine pure_y 2 (some 56) (bz 11 5) ?_; refine pure_y 4 (some 58) (bz 11 21) ?_; refine take_y 1 (some 55) (bz 11 23) hHeld ?_; refine take_y 3 (some 57) (bz 11 31) hHeld ?_; refine pure_y 5 (some 59) (bz 11 63) ?_; refine pure_y 6 (some 60) (bz 11 127) ?_; refine take_y 7 (some 61) (bz 11 255) hHeld ?_; refine pure_y 8 (some 62) (bz 11 511) ?_; refine pure_y 9 (some 63) (bz 11 1023) ?_; refine last_ (i := 10) (N := none) (bz 11 2047) rfl rfl (by kernel_rfl) (by decide) (fun K hK => ?_); have hcl := hHeld.1; have hfz := blk_frozen B8.out 1; refine skip_ (w1 := ?_) (by rfl) rfl ?_ ?_; rotate_left; (go_simp; rfl); refine hK.out _ _ ?_; clear hK K; refine done_ (by kernel_rfl) ?_; clear hHeld hcl hfz; have B9 := Aside0.mk (blk_put (cs' := #[.slice (some ad) t.length cv, .int .i64 (wrap64 (acc + wo))]) B8.out 1 (.int .i64 (wrap64 (acc + wo))) rfl); have HB9 := Aside0.mk (show Below W.heap.size W (wd.setCell ⟨g8, 1, none⟩ (.int .i64 (wrap64 (acc + wo)))) from below_set HBW.out GE8.out)
      gi_wp2
      gi_roundg (t.length - (k + 1))
      case measure => omega
      case rel => exact ⟨k + 1, wrap64 (acc + wo), by omega, by omega, by go_num, HW2, B9, HB9⟩
     ·
      have HW2 := Aside0.mk (show worthGo x.lots (k + 1) (t.drop (k + 1)) acc = worthGo x.lots 0 t 0 by have := HWO.out; simp only [worthGo] at this; rwa [if_neg ha] at this)
      gi_wp2
      gi_roundg (t.length - (k + 1))
      case measure => omega
      case rel => exact ⟨k + 1, acc, by omega, by omega, by go_num, HW2, B8, HBW⟩
    ·
     (have : k = t.length := by omega); subst this; (have hac : acc = worth t := by have := HWO.out; rw [List.drop_length] at this; rw [HWD.out]; exact this); obtain ⟨bm, hbm⟩ : ∃ m : Int, m = (bestOf good worth (pre.map (·.2)) ([], -1)).2 := ⟨_, rfl⟩; have HAC := Aside0.mk hac; have HBM := Aside0.mk hbm; have C6 := Aside0.mk (show wr.heap[g6]? = some (.cells #[.slice A n c, .int .i64 bm] 104 (0, 0)) by rw [hbm]; exact blk_below H6.out HBW.out)
     obtain ⟨A1, n1, c1, y1, hu⟩ : ∃ (A1 : Option Addr) (n1 c1 : Nat) (y1 : Int), (if bm < acc then Value.agg #[.slice Av t.length cv, .int .i64 acc] else .agg #[.slice A n c, .int .i64 bm]) = .agg #[.slice A1 n1 c1, .int .i64 y1] := by
      by_cases h : bm < acc
      ·
       exact ⟨_, _, _, _, if_pos h⟩
      ·
       exact ⟨_, _, _, _, if_neg h⟩
     have HU := Aside0.mk hu; have HCB := Aside0.mk (better_calls A n c bm Av t.length cv acc wr); rw [hu] at HCB; have hd0_ : wr.cell? ⟨g6, 0, none⟩ = some (.slice A n c) := (blk_cell C6.out 0).trans rfl; have hd1_ : wr.cell? ⟨g6, 1, none⟩ = some (.int .i64 bm) := (blk_cell C6.out 1).trans rfl; have he0_ : wr.cell? ⟨g8, 0, none⟩ = some (.slice Av t.length cv) := (blk_cell B8.out 0).trans rfl; have he1_ : wr.cell? ⟨g8, 1, none⟩ = some (.int .i64 acc) := (blk_cell B8.out 1).trans rfl; clear hac hbm hu hk hgk hlt
     gi_wp2
     refine ⟨trivial, (CallsIn.inRound l (callsIn_wide.2 HCB.out)).mono ?_⟩; rintro e w9 ⟨rfl, hb9⟩; clear hd0_ hd1_ he0_ he1_; have HBZ := Aside0.mk (below_step HBW.out hb9); replace C6 := Aside0.mk (blk_below C6.out hb9); obtain ⟨A2, n2, c2, y2, hu2, hI⟩ := BestI.weighed (w0 := w) (W := W) (W' := w9) (b := b) H6.out HR6.out ⟨base2, HBN.out.1, HBN.out.2, HRV.out⟩ HBK.out HBB.out GE6.out N6.out HBZ.out HGT.out (.slice Av t.length cv) (.agg #[.slice A1 n1 c1, .int .i64 y1]) (by rw [← HBM.out, ← HAC.out]; exact HU.out.symm); (cases hu2); have HI := Aside0.mk hI; have hd0_ : w9.cell? ⟨g6, 0, none⟩ = some (.slice A n c) := (blk_cell C6.out 0).trans rfl; have hd1_ : w9.cell? ⟨g6, 1, none⟩ = some (.int .i64 bm) := (blk_cell C6.out 1).trans rfl; have hdf_ := blk_frozen C6.out; clear hI hb9
     gi_wp2
     exact ⟨HI.out.2.1, HI.out.2.2, HI.out.1⟩
 case done =>
  rintro D b xs W hD hb hxs ⟨A, n, c, h6, ⟨base, hb1, hb2, hR⟩, hbk, hB⟩ hK; rw [hxs] at h6 hR; have hh := HH.out; rw [hh.1] at hR; rw [hh.2.1] at h6; obtain ⟨_, _, rfl⟩ := hh; have D6 := Aside0.mk h6; have DR := Aside0.mk hR; have DB := Aside0.mk hB; have DK := Aside0.mk hK; have DD := Aside0.mk hD; have hc0_ : W.cell? ⟨g6, 0, none⟩ = some (.slice A n c) := (blk_cell D6.out 0).trans rfl; have hc1_ : W.cell? ⟨g6, 1, none⟩ = some (.int .i64 r2) := (blk_cell D6.out 1).trans rfl; have HBS := Aside0.mk hb1; clear h6 hR hB hK hD hbk hxs hb hb1 hb2
  go_upto_region 16 with (fail)
  go_quiet (fail)
  have DW : Aside0 (Below w.heap.size w ((W.drewN nq).putObj D (.deferred none))) := ⟨(DB.out.trans (pw_below_drewN (Below.refl _ _) nq)).trans (belowK_b (w := w) (Nat.le_refl _) _ D _ _ (by have := DD.out; have := CB.out.size; omega) (((pw_below_drewN (Below.refl W.heap.size W) nq).block D (Array.getElem?_eq_some_iff.1 DK.out).1).trans DK.out) rfl rfl)⟩; have hKq : (W.drewN nq).heap[D]? = some (.deferred (some [])) := ((pw_below_drewN (Below.refl W.heap.size W) nq).block D (Array.getElem?_eq_some_iff.1 DK.out).1).trans DK.out
  have DRq := Aside0.mk (Kd.R_lower (R_kept (W1 := (W.drewN nq).putObj D (.deferred none)) DR.out fun k _ hc => by
   obtain ⟨cells, t, hk, _⟩ := hc; (have hkD : k ≠ D := fun e => by subst e; rw [DK.out] at hk; cases hk); exact (World.putObj_heap_other hkD).trans ((pw_below_drewN (Below.refl W.heap.size W) nq).block k (Array.getElem?_eq_some_iff.1 hk).1)) HBS.out)
  go_wp2; refine ⟨by simp, .inl ⟨_, _, rfl, run_takeDeferred hKq, ?_⟩⟩; exact ⟨.tuple #[.slice A n c, .int .i64 r2, .int .i64 0], by simp [results, Try.results28, go_sem], _, rfl, DRq.out, DW.out⟩
theorem ship_Best.calls (a0_0 : Int) (a0_1 : Int) (a0_2 : Int) (A0_3 : Option Addr) (c0_3 : Nat) (l0_3 : List (S85)) (a0_4 : Int) (A0_5 : Option Addr) (c0_5 : Nat) (l0_5 : List (S59)) (A0_6 : Option Addr) (c0_6 : Nat) (l0_6 : List (S79)) (r1 : List Int) (r2 : Int) (r3 : Int) (w : World) (hr0_3 : Kd.C k85 w A0_3 l0_3.length l0_3) (hc0_3 : l0_3.length ≤ c0_3) (hr0_5 : Kd.C k59 w A0_5 l0_5.length l0_5) (hc0_5 : l0_5.length ≤ c0_5) (hr0_6 : Kd.C k79 w A0_6 l0_6.length l0_6) (hc0_6 : l0_6.length ≤ c0_6) (h : ship_Best.f a0_0 a0_1 a0_2 l0_3 a0_4 l0_5 l0_6 = some (r1, r2, r3)) :
  Calls Try.prog 28 #[.agg #[.int .i64 a0_0, .int .i64 a0_1, .int .i64 a0_2, .slice A0_3 l0_3.length c0_3, .int .i64 a0_4, .slice A0_5 l0_5.length c0_5, .slice A0_6 l0_6.length c0_6]] w fun e w' => ∃ v0_ : Value, e = .returned (.tuple #[v0_, .int .i64 r2, .int .i64 r3]) ∧ Kd.R (Kd.int .i64) 3 w' w.heap.size (fun _ => True) v0_ r1 ∧ Below w.heap.size w w' := best_calls ⟨a0_0, a0_1, a0_2, A0_3, c0_3, l0_3, a0_4, A0_5, c0_5, l0_5, A0_6, c0_6, l0_6⟩ r1 r2 r3 w ⟨hr0_3, hc0_3, hr0_5, hc0_5, hr0_6, hc0_6⟩ h
end Go.Proofs.Ytodmemndaaiolaa.PC7
namespace Go.Proofs.Ytodmemndaaiolaa.PC7
open Go.RowKit Go.Proofs.YtodmemndaaiolaaW.PrintWords Go.Proofs.YtodmemndaaiolaaW.PrintLast Go.Proofs.YtodmemndaaiolaaW.PrintMore
attribute [local go_sem] max2_int min2_int max_two min_two max_three min_three max_four min_four
set_option linter.unusedVariables false
set_option linter.unusedSimpArgs false
theorem eqA56 (d : Nat) (w : World) (x0 y0 : Int) (x1 y1 : Int) :
    (Op.equalIn (d + 2) 56 (.agg #[.int .i64 x0, .int .i64 x1]) (.agg #[.int .i64 y0, .int .i64 y1])).run Try.prog w = .ok (x0 == y0 && (x1 == y1)) w := by
  refine eqA_of Try.underlying56 (by kernel_rfl) ?_
  refine eqf_cons (by rfl) (by go_simp; rfl) (by go_simp; rfl) (by go_simp) ?_
  exact eqf_last (by rfl) (by go_simp; rfl) (by go_simp; rfl) (by go_simp)
attribute [local go_sem high] eqA56
def swarfkit_EqualRanges.l0 : Nat → List (S56) → List (S56) → Bool → Int → Option (Bool)
 | 0, _, _, _, _ => none
 | k + 1, x0, x1, x5, x6 => if x5 = true then (if x6 < (x0.length : Int) then (if 0 ≤ x6 then (if x6 < (x1.length : Int) then (swarfkit_EqualRanges.l0 k x0 x1 (((rd_T56 x0 x6).f0) == ((rd_T56 x1 x6).f0) && (((rd_T56 x0 x6).f1) == ((rd_T56 x1 x6).f1))) (wrap64 (x6 + 1))) else (none)) else (none)) else (some x5)) else (some x5)
def swarfkit_EqualRanges.f (k : Nat) (l0 : List (S56)) (l1 : List (S56)) : Option (Bool) := swarfkit_EqualRanges.l0 k l0 l1 ((l0.length : Int) == (l1.length : Int)) 0
theorem swarfkit_EqualRanges.mono_l : ∀ k, (∀ y0 y1 y2 y3, LeO (swarfkit_EqualRanges.l0 k y0 y1 y2 y3) (swarfkit_EqualRanges.l0 (k + 1) y0 y1 y2 y3))
 | 0 => fun _ _ _ _ r h => by simp [swarfkit_EqualRanges.l0] at h
 | k + 1 => by
  have ih0 := swarfkit_EqualRanges.mono_l k
  ·
   intro y0 y1 y2 y3; unfold swarfkit_EqualRanges.l0
   repeat' (with_reducible first | exact ih0 _ _ _ _ | exact LeO.refl _ | exact LeO.none _ | refine LeO.ite ?_ ?_ | refine LeO.bind ?_ (fun _ => ?_))
theorem swarfkit_EqualRanges.mono : ∀ a0 a1 k, LeO (swarfkit_EqualRanges.f k a0 a1) (swarfkit_EqualRanges.f (k + 1) a0 a1) := by
 intro a0 a1 k
 have ih0 := swarfkit_EqualRanges.mono_l k
 unfold swarfkit_EqualRanges.f
 repeat' (with_reducible first | exact ih0 _ _ _ _ | exact LeO.refl _ | exact LeO.none _ | refine LeO.ite ?_ ?_ | refine LeO.bind ?_ (fun _ => ?_))
set_option maxHeartbeats 8000000 in
set_option maxRecDepth 100000 in
theorem swarfkit_EqualRanges.calls (k : Nat) (A0 : Option Addr) (c0 : Nat) (l0 : List (S56)) (A1 : Option Addr) (c1 : Nat) (l1 : List (S56)) (r : Bool) (w : World) (hr0 : Kd.C k56 w A0 l0.length l0) (hc0 : l0.length ≤ c0) (hr1 : Kd.C k56 w A1 l1.length l1) (hc1 : l1.length ≤ c1) (h : swarfkit_EqualRanges.f k l0 l1 = some r) :
  Calls Try.prog 24 #[.slice A0 l0.length c0, .slice A1 l1.length c1] w fun e w' => e = .returned (.bool r) ∧ Drawn0 w w' := by
 have hu56 := Try.underlying56
 have HR0 := Aside0.mk hr0
 have HC0 := Aside0.mk hc0
 clear hr0 hc0
 have HR1 := Aside0.mk hr1
 have HC1 := Aside0.mk hc1
 clear hr1 hc1
 have H : (swarfkit_EqualRanges.l0 k l0 l1 ((l0.length : Int) == (l1.length : Int)) 0) = some r := h
 clear h
 have H' := Aside0.mk H
 clear H
 go_enter Try.func24, Try.ntmps24
 go_wp2
 repeat (go_quiet (fail); try go_wp2)
 go_loopg [5, 6] k (fun kq v5 v6 w' => ∃ (x5_1 : Bool) (x6_1 : Int), v5 = .bool x5_1 ∧ v6 = .int .i64 x6_1 ∧ Aside0 (swarfkit_EqualRanges.l0 kq l0 l1 x5_1 x6_1 = some r) ∧ Aside0 (kq ≤ k) ∧ Drawn0 w w')
 case atStart => exact ⟨(((l0.length : Int) == (l1.length : Int))), (0), (by first | rfl | (simp; done) | (simp [*]; done)), (by first | rfl | (simp; done) | (simp [*]; done)), H', ⟨Nat.le_refl _⟩, by repeat (first | exact Drawn0.refl _ | apply Drawn0.step)⟩
 case round =>
  clear H'; obtain ⟨x5_1, x6_1, rfl, rfl, HA, HK1, ⟨m1, rfl⟩⟩ := hrel; cases gk with
  | zero => exact absurd HA.out (by simp [swarfkit_EqualRanges.l0])
  | succ k1 =>
   have H := HA.out; clear HA; simp only [swarfkit_EqualRanges.l0] at H; by_cases c3 : x5_1 = true
   ·
    subst c3; (have H1 : (if x6_1 < (l0.length : Int) then (if 0 ≤ x6_1 then (if x6_1 < (l1.length : Int) then (swarfkit_EqualRanges.l0 k1 l0 l1 (((rd_T56 l0 x6_1).f0) == ((rd_T56 l1 x6_1).f0) && (((rd_T56 l0 x6_1).f1) == ((rd_T56 l1 x6_1).f1))) (wrap64 (x6_1 + 1))) else (none)) else (none)) else (some true)) = some r := by rw [if_pos rfl] at H; exact H); clear H; have H := H1; clear H1; by_cases c4 : x6_1 < (l0.length : Int)
    ·
     rw [if_pos c4] at H; have c4b0 : decide (x6_1 < (l0.length : Int)) = true := decide_eq_true c4; clear c4; by_cases c5 : 0 ≤ x6_1
     ·
      rw [if_pos c5] at H; have c5b0 : decide (0 ≤ x6_1) = true := decide_eq_true c5; clear c5; by_cases c6 : x6_1 < (l1.length : Int)
      ·
       rw [if_pos c6] at H; have c6b0 : decide (x6_1 < (l1.length : Int)) = true := decide_eq_true c6; clear c6; have H' := Aside0.mk H; clear H; have p159 : 0 ≤ (x6_1 : Int) := of_x; have q159 : x6_1 < (l0.length : Int) := of_x; obtain ⟨ad159, e159, hx159_0, hx159_1⟩ := at_T56 HR0.out x6_1 p159 q159; (cases e159); replace p159 := eq_true p159; replace q159 := eq_true q159; have p160 : 0 ≤ (x6_1 : Int) := of_x; have q160 : x6_1 < (l1.length : Int) := of_x; obtain ⟨ad160, e160, hx160_0, hx160_1⟩ := at_T56 HR1.out x6_1 p160 q160; (cases e160); replace p160 := eq_true p160; replace q160 := eq_true q160; go_wp2
       repeat (go_quiet (fail); try go_wp2)
       go_roundg k1
       case measure => have := HK1.out; omega
       case rel => exact ⟨((((rd_T56 l0 x6_1).f0) == ((rd_T56 l1 x6_1).f0) && (((rd_T56 l0 x6_1).f1) == ((rd_T56 l1 x6_1).f1)))), (wrap64 (x6_1 + 1)), (by first | rfl | (simp; done) | (simp [*]; done)), (by first | rfl | (simp; done) | (simp [*]; done)), H', ⟨by have := HK1.out; omega⟩, by repeat (first | exact Drawn0.refl _ | apply Drawn0.step)⟩
      ·
       rw [if_neg c6] at H; exact absurd H (by simp)
     ·
      rw [if_neg c5] at H; exact absurd H (by simp)
    ·
     rw [if_neg c4] at H; have c4b0 : decide (x6_1 < (l0.length : Int)) = false := decide_eq_false c4; clear c4; obtain rfl := Option.some.inj H; go_wp2
     repeat (go_quiet (fail); try go_wp2)
     go_ret; exact ⟨by first | rfl | (simp; done) | (simp [*]; done), by repeat (first | exact Drawn0.refl _ | apply Drawn0.step)⟩
   ·
    replace c3 := Bool.eq_false_iff.mpr c3; subst c3; replace H : (some false) = some r := ifn_x H; obtain rfl := Option.some.inj H; go_wp2
    repeat (go_quiet (fail); try go_wp2)
    go_ret; exact ⟨by first | rfl | (simp; done) | (simp [*]; done), by repeat (first | exact Drawn0.refl _ | apply Drawn0.step)⟩
def swarfkit_EqualInts.l0 : Nat → List Int → List Int → Bool → Int → Option (Bool)
 | 0, _, _, _, _ => none
 | k + 1, x0, x1, x5, x6 => if x5 = true then (if x6 < (x0.length : Int) then (if 0 ≤ x6 then (if x6 < (x1.length : Int) then (swarfkit_EqualInts.l0 k x0 x1 ((rd x0 x6) == (rd x1 x6)) (wrap64 (x6 + 1))) else (none)) else (none)) else (some x5)) else (some x5)
def swarfkit_EqualInts.f (k : Nat) (l0 : List Int) (l1 : List Int) : Option (Bool) := swarfkit_EqualInts.l0 k l0 l1 ((l0.length : Int) == (l1.length : Int)) 0
theorem swarfkit_EqualInts.mono_l : ∀ k, (∀ y0 y1 y2 y3, LeO (swarfkit_EqualInts.l0 k y0 y1 y2 y3) (swarfkit_EqualInts.l0 (k + 1) y0 y1 y2 y3))
 | 0 => fun _ _ _ _ r h => by simp [swarfkit_EqualInts.l0] at h
 | k + 1 => by
  have ih0 := swarfkit_EqualInts.mono_l k
  ·
   intro y0 y1 y2 y3; unfold swarfkit_EqualInts.l0
   repeat' (with_reducible first | exact ih0 _ _ _ _ | exact LeO.refl _ | exact LeO.none _ | refine LeO.ite ?_ ?_ | refine LeO.bind ?_ (fun _ => ?_))
theorem swarfkit_EqualInts.mono : ∀ a0 a1 k, LeO (swarfkit_EqualInts.f k a0 a1) (swarfkit_EqualInts.f (k + 1) a0 a1) := by
 intro a0 a1 k
 have ih0 := swarfkit_EqualInts.mono_l k
 unfold swarfkit_EqualInts.f
 repeat' (with_reducible first | exact ih0 _ _ _ _ | exact LeO.refl _ | exact LeO.none _ | refine LeO.ite ?_ ?_ | refine LeO.bind ?_ (fun _ => ?_))
set_option maxHeartbeats 8000000 in
set_option maxRecDepth 100000 in
theorem swarfkit_EqualInts.calls (k : Nat) (A0 : Option Addr) (c0 : Nat) (l0 : List Int) (A1 : Option Addr) (c1 : Nat) (l1 : List Int) (r : Bool) (w : World) (hr0 : Kd.C (Kd.int .i64) w A0 l0.length l0) (hc0 : l0.length ≤ c0) (hr1 : Kd.C (Kd.int .i64) w A1 l1.length l1) (hc1 : l1.length ≤ c1) (h : swarfkit_EqualInts.f k l0 l1 = some r) :
  Calls Try.prog 26 #[.slice A0 l0.length c0, .slice A1 l1.length c1] w fun e w' => e = .returned (.bool r) ∧ Drawn0 w w' := by
 have HR0 := Aside0.mk hr0
 have HC0 := Aside0.mk hc0
 clear hr0 hc0
 have HR1 := Aside0.mk hr1
 have HC1 := Aside0.mk hc1
 clear hr1 hc1
 have H : (swarfkit_EqualInts.l0 k l0 l1 ((l0.length : Int) == (l1.length : Int)) 0) = some r := h
 clear h
 have H' := Aside0.mk H
 clear H
 go_enter Try.func26, Try.ntmps26
 go_wp2
 repeat (go_quiet (fail); try go_wp2)
 go_loopg [5, 6] k (fun kq v5 v6 w' => ∃ (x5_1 : Bool) (x6_1 : Int), v5 = .bool x5_1 ∧ v6 = .int .i64 x6_1 ∧ Aside0 (swarfkit_EqualInts.l0 kq l0 l1 x5_1 x6_1 = some r) ∧ Aside0 (kq ≤ k) ∧ Drawn0 w w')
 case atStart => exact ⟨(((l0.length : Int) == (l1.length : Int))), (0), (by first | rfl | (simp; done) | (simp [*]; done)), (by first | rfl | (simp; done) | (simp [*]; done)), H', ⟨Nat.le_refl _⟩, by repeat (first | exact Drawn0.refl _ | apply Drawn0.step)⟩
 case round =>
  clear H'; obtain ⟨x5_1, x6_1, rfl, rfl, HA, HK1, ⟨m1, rfl⟩⟩ := hrel; cases gk with
  | zero => exact absurd HA.out (by simp [swarfkit_EqualInts.l0])
  | succ k1 =>
   have H := HA.out; clear HA; simp only [swarfkit_EqualInts.l0] at H; by_cases c3 : x5_1 = true
   ·
    subst c3; (have H1 : (if x6_1 < (l0.length : Int) then (if 0 ≤ x6_1 then (if x6_1 < (l1.length : Int) then (swarfkit_EqualInts.l0 k1 l0 l1 ((rd l0 x6_1) == (rd l1 x6_1)) (wrap64 (x6_1 + 1))) else (none)) else (none)) else (some true)) = some r := by rw [if_pos rfl] at H; exact H); clear H; have H := H1; clear H1; by_cases c4 : x6_1 < (l0.length : Int)
    ·
     rw [if_pos c4] at H; have c4b0 : decide (x6_1 < (l0.length : Int)) = true := decide_eq_true c4; clear c4; by_cases c5 : 0 ≤ x6_1
     ·
      rw [if_pos c5] at H; have c5b0 : decide (0 ≤ x6_1) = true := decide_eq_true c5; clear c5; by_cases c6 : x6_1 < (l1.length : Int)
      ·
       rw [if_pos c6] at H; have c6b0 : decide (x6_1 < (l1.length : Int)) = true := decide_eq_true c6; clear c6; have H' := Aside0.mk H; clear H; have p161 : 0 ≤ (x6_1 : Int) := of_x; have q161 : x6_1 < (l0.length : Int) := of_x; obtain ⟨ad161, e161, hx161_0⟩ := Kd.at_int HR0.out x6_1 p161 q161; (cases e161); replace p161 := eq_true p161; replace q161 := eq_true q161; have p162 : 0 ≤ (x6_1 : Int) := of_x; have q162 : x6_1 < (l1.length : Int) := of_x; obtain ⟨ad162, e162, hx162_0⟩ := Kd.at_int HR1.out x6_1 p162 q162; (cases e162); replace p162 := eq_true p162; replace q162 := eq_true q162; go_wp2
       repeat (go_quiet (fail); try go_wp2)
       go_roundg k1
       case measure => have := HK1.out; omega
       case rel => exact ⟨(((rd l0 x6_1) == (rd l1 x6_1))), (wrap64 (x6_1 + 1)), (by first | rfl | (simp; done) | (simp [*]; done)), (by first | rfl | (simp; done) | (simp [*]; done)), H', ⟨by have := HK1.out; omega⟩, by repeat (first | exact Drawn0.refl _ | apply Drawn0.step)⟩
      ·
       rw [if_neg c6] at H; exact absurd H (by simp)
     ·
      rw [if_neg c5] at H; exact absurd H (by simp)
    ·
     rw [if_neg c4] at H; have c4b0 : decide (x6_1 < (l0.length : Int)) = false := decide_eq_false c4; clear c4; obtain rfl := Option.some.inj H; go_wp2
     repeat (go_quiet (fail); try go_wp2)
     go_ret; exact ⟨by first | rfl | (simp; done) | (simp [*]; done), by repeat (first | exact Drawn0.refl _ | apply Drawn0.step)⟩
   ·
    replace c3 := Bool.eq_false_iff.mpr c3; subst c3; replace H : (some false) = some r := ifn_x H; obtain rfl := Option.some.inj H; go_wp2
    repeat (go_quiet (fail); try go_wp2)
    go_ret; exact ⟨by first | rfl | (simp; done) | (simp [*]; done), by repeat (first | exact Drawn0.refl _ | apply Drawn0.step)⟩
def swarflaw07_rng.f (a0 : Int) (a1 : Int) : Option (Int × Int) := some (a0, a1)
set_option maxHeartbeats 8000000 in
set_option maxRecDepth 100000 in
theorem swarflaw07_rng.calls (a0 : Int) (a1 : Int) (r1 : Int) (r2 : Int) (w : World) (h : swarflaw07_rng.f a0 a1 = some (r1, r2)) :
  Calls Try.prog 32 #[.int .i64 a0, .int .i64 a1] w fun e w' => e = .returned (.agg #[.int .i64 r1, .int .i64 r2]) ∧ Below w.heap.size w w' := by
 have hu56 := Try.underlying56
 have HB := Aside0.mk (Below.refl w.heap.size w)
 have H : (some (a0, a1)) = some (r1, r2) := h
 clear h
 simp only [Option.some.injEq, Prod.mk.injEq] at H
 obtain ⟨rfl, rfl⟩ := H
 go_enter Try.func32, Try.ntmps32
 go_wp2_with (first | (refine box_r (N := 4) rfl (cs := #[.int .i64 0, .int .i64 0]) (t := 56) ?_; intro gb163 hg w3 hbox hb; have BK163 := Aside0.mk (hbox); have GW163 := gw_x hg HB; have GE163 := GW163; replace HB := Aside0.mk (below_step (below_x HB.out) hb); clear hb hbox hg; obtain ⟨hfz4_0, _, _⟩ := cf2 BK163))
 refine bodyPost_ret (results_cell_row rfl _ _ gb163 56 #[.int .i64 a0, .int .i64 a1] (0, 0) _ rfl (blk_z BK163.out) Try.underlying56 rfl (by kernel_rfl)) rfl ?_
 exact rt_y HB
def swarflaw07_voyage.f  : Option (Int × Int × Int × (List (S85)) × Int × (List (S59)) × (List (S79))) := (swarflaw07_rng.f 30 40).bind fun bt168 => ((swarflaw07_rng.f 1600 1650).bind fun bt170 => ((swarflaw07_rng.f 120 150).bind fun bt175 => ((swarflaw07_rng.f 1300 1350).bind fun bt177 => ((swarflaw07_rng.f 1600 1650).bind fun bt179 => ((swarflaw07_rng.f 1200 1250).bind fun bt181 => ((swarflaw07_rng.f 200 220).bind fun bt189 => ((swarflaw07_rng.f 180 200).bind fun bt191 => ((swarflaw07_rng.f 150 150).bind fun bt193 => (some (800, 200, 300, (([(⟨400, 2000, 500⟩ : S85), (⟨400, 500, 2000⟩ : S85)] : List (S85))), 60, (([(⟨(⟨bt168.1, bt168.2⟩ : S56), (([(⟨0, (⟨bt170.1, bt170.2⟩ : S56)⟩ : S62)] : List (S62)))⟩ : S59), (⟨(⟨bt175.1, bt175.2⟩ : S56), (([(⟨0, (⟨bt177.1, bt177.2⟩ : S56)⟩ : S62), (⟨240, (⟨bt179.1, bt179.2⟩ : S56)⟩ : S62), (⟨480, (⟨bt181.1, bt181.2⟩ : S56)⟩ : S62)] : List (S62)))⟩ : S59)] : List (S59))), (([(⟨(⟨bt189.1, bt189.2⟩ : S56), 50⟩ : S79), (⟨(⟨bt191.1, bt191.2⟩ : S56), 40⟩ : S79), (⟨(⟨bt193.1, bt193.2⟩ : S56), 45⟩ : S79)] : List (S79)))))))))))))
set_option maxHeartbeats 8000000 in
set_option maxRecDepth 100000 in
theorem swarflaw07_voyage.calls  (r1 : Int) (r2 : Int) (r3 : Int) (r4 : List (S85)) (r5 : Int) (r6 : List (S59)) (r7 : List (S79)) (w : World) (h : swarflaw07_voyage.f  = some (r1, r2, r3, r4, r5, r6, r7)) :
  Calls Try.prog 52 #[] w fun e w' => ∃ v3_ v5_ v6_ : Value, e = .returned (.agg #[.int .i64 r1, .int .i64 r2, .int .i64 r3, v3_, .int .i64 r5, v5_, v6_]) ∧ Kd.R k85 85 w' w.heap.size (fun k_ => (w.heap.size ≤ k_)) v3_ r4 ∧ Kd.N k59 59 w' w.heap.size (fun k_ => (w.heap.size ≤ k_) ∧ some k_ ≠ (v3_ : Value).ownBlock ∧ some k_ ≠ (v6_ : Value).ownBlock) v5_ r6 ∧ Kd.R k79 79 w' w.heap.size (fun k_ => (w.heap.size ≤ k_)) v6_ r7 ∧ Below w.heap.size w w' := by
 have hu26 := Try.underlying26
 have hu85 := Try.underlying85
 have hu62 := Try.underlying62
 have hu59 := Try.underlying59
 have hu79 := Try.underlying79
 have HB := Aside0.mk (Below.refl w.heap.size w)
 have H : ((swarflaw07_rng.f 30 40).bind fun bt168 => ((swarflaw07_rng.f 1600 1650).bind fun bt170 => ((swarflaw07_rng.f 120 150).bind fun bt175 => ((swarflaw07_rng.f 1300 1350).bind fun bt177 => ((swarflaw07_rng.f 1600 1650).bind fun bt179 => ((swarflaw07_rng.f 1200 1250).bind fun bt181 => ((swarflaw07_rng.f 200 220).bind fun bt189 => ((swarflaw07_rng.f 180 200).bind fun bt191 => ((swarflaw07_rng.f 150 150).bind fun bt193 => (some (800, 200, 300, (([(⟨400, 2000, 500⟩ : S85), (⟨400, 500, 2000⟩ : S85)] : List (S85))), 60, (([(⟨(⟨bt168.1, bt168.2⟩ : S56), (([(⟨0, (⟨bt170.1, bt170.2⟩ : S56)⟩ : S62)] : List (S62)))⟩ : S59), (⟨(⟨bt175.1, bt175.2⟩ : S56), (([(⟨0, (⟨bt177.1, bt177.2⟩ : S56)⟩ : S62), (⟨240, (⟨bt179.1, bt179.2⟩ : S56)⟩ : S62), (⟨480, (⟨bt181.1, bt181.2⟩ : S56)⟩ : S62)] : List (S62)))⟩ : S59)] : List (S59))), (([(⟨(⟨bt189.1, bt189.2⟩ : S56), 50⟩ : S79), (⟨(⟨bt191.1, bt191.2⟩ : S56), 40⟩ : S79), (⟨(⟨bt193.1, bt193.2⟩ : S56), 45⟩ : S79)] : List (S79)))))))))))))) = some (r1, r2, r3, r4, r5, r6, r7) := h
 clear h
 obtain ⟨y165, hy165⟩ : ∃ y_ : List (S85), y_ = (([(⟨400, 2000, 500⟩ : S85), (⟨400, 500, 2000⟩ : S85)] : List (S85))) := ⟨_, rfl⟩
 replace H : ((swarflaw07_rng.f 30 40).bind fun bt168 => ((swarflaw07_rng.f 1600 1650).bind fun bt170 => ((swarflaw07_rng.f 120 150).bind fun bt175 => ((swarflaw07_rng.f 1300 1350).bind fun bt177 => ((swarflaw07_rng.f 1600 1650).bind fun bt179 => ((swarflaw07_rng.f 1200 1250).bind fun bt181 => ((swarflaw07_rng.f 200 220).bind fun bt189 => ((swarflaw07_rng.f 180 200).bind fun bt191 => ((swarflaw07_rng.f 150 150).bind fun bt193 => (some (800, 200, 300, y165, 60, (([(⟨(⟨bt168.1, bt168.2⟩ : S56), (([(⟨0, (⟨bt170.1, bt170.2⟩ : S56)⟩ : S62)] : List (S62)))⟩ : S59), (⟨(⟨bt175.1, bt175.2⟩ : S56), (([(⟨0, (⟨bt177.1, bt177.2⟩ : S56)⟩ : S62), (⟨240, (⟨bt179.1, bt179.2⟩ : S56)⟩ : S62), (⟨480, (⟨bt181.1, bt181.2⟩ : S56)⟩ : S62)] : List (S62)))⟩ : S59)] : List (S59))), (([(⟨(⟨bt189.1, bt189.2⟩ : S56), 50⟩ : S79), (⟨(⟨bt191.1, bt191.2⟩ : S56), 40⟩ : S79), (⟨(⟨bt193.1, bt193.2⟩ : S56), 45⟩ : S79)] : List (S79)))))))))))))) = some (r1, r2, r3, r4, r5, r6, r7) := by first | (rw [hy165]; with_reducible exact H) | (have H2_ := (Option.bind_some _ _).symm.trans H; rw [hy165]; with_reducible exact H2_) | (have H2_ := (Option.bind_some _ _).symm.trans H; with_reducible exact H2_) | with_reducible exact H | (rw [hy165]; exact H) | exact H
 have Ny165 := Aside0.mk hy165
 clear hy165
 replace H := Option.bind_eq_some_iff.mp H
 obtain ⟨⟨t168, t169⟩, A10, H⟩ := H
 try dsimp only at H
 have A1 := Aside0.mk A10
 clear A10
 replace H := Option.bind_eq_some_iff.mp H
 obtain ⟨⟨t170, t171⟩, A20, H⟩ := H
 try dsimp only at H
 have A2 := Aside0.mk A20
 clear A20
 obtain ⟨y172, hy172⟩ : ∃ y_ : List (S62), y_ = (([(⟨0, (⟨t170, t171⟩ : S56)⟩ : S62)] : List (S62))) := ⟨_, rfl⟩
 replace H : ((swarflaw07_rng.f 120 150).bind fun bt175 => ((swarflaw07_rng.f 1300 1350).bind fun bt177 => ((swarflaw07_rng.f 1600 1650).bind fun bt179 => ((swarflaw07_rng.f 1200 1250).bind fun bt181 => ((swarflaw07_rng.f 200 220).bind fun bt189 => ((swarflaw07_rng.f 180 200).bind fun bt191 => ((swarflaw07_rng.f 150 150).bind fun bt193 => (some (800, 200, 300, y165, 60, (([(⟨(⟨t168, t169⟩ : S56), y172⟩ : S59), (⟨(⟨bt175.1, bt175.2⟩ : S56), (([(⟨0, (⟨bt177.1, bt177.2⟩ : S56)⟩ : S62), (⟨240, (⟨bt179.1, bt179.2⟩ : S56)⟩ : S62), (⟨480, (⟨bt181.1, bt181.2⟩ : S56)⟩ : S62)] : List (S62)))⟩ : S59)] : List (S59))), (([(⟨(⟨bt189.1, bt189.2⟩ : S56), 50⟩ : S79), (⟨(⟨bt191.1, bt191.2⟩ : S56), 40⟩ : S79), (⟨(⟨bt193.1, bt193.2⟩ : S56), 45⟩ : S79)] : List (S79)))))))))))) = some (r1, r2, r3, r4, r5, r6, r7) := by first | (rw [hy172]; with_reducible exact H) | (have H2_ := (Option.bind_some _ _).symm.trans H; rw [hy172]; with_reducible exact H2_) | (have H2_ := (Option.bind_some _ _).symm.trans H; with_reducible exact H2_) | with_reducible exact H | (rw [hy172]; exact H) | exact H
 have Ny172 := Aside0.mk hy172
 clear hy172
 replace H := Option.bind_eq_some_iff.mp H
 obtain ⟨⟨t175, t176⟩, A30, H⟩ := H
 try dsimp only at H
 have A3 := Aside0.mk A30
 clear A30
 replace H := Option.bind_eq_some_iff.mp H
 obtain ⟨⟨t177, t178⟩, A40, H⟩ := H
 try dsimp only at H
 have A4 := Aside0.mk A40
 clear A40
 replace H := Option.bind_eq_some_iff.mp H
 obtain ⟨⟨t179, t180⟩, A50, H⟩ := H
 try dsimp only at H
 have A5 := Aside0.mk A50
 clear A50
 replace H := Option.bind_eq_some_iff.mp H
 obtain ⟨⟨t181, t182⟩, A60, H⟩ := H
 try dsimp only at H
 have A6 := Aside0.mk A60
 clear A60
 obtain ⟨y183, hy183⟩ : ∃ y_ : List (S62), y_ = (([(⟨0, (⟨t177, t178⟩ : S56)⟩ : S62), (⟨240, (⟨t179, t180⟩ : S56)⟩ : S62), (⟨480, (⟨t181, t182⟩ : S56)⟩ : S62)] : List (S62))) := ⟨_, rfl⟩
 replace H : ((swarflaw07_rng.f 200 220).bind fun bt189 => ((swarflaw07_rng.f 180 200).bind fun bt191 => ((swarflaw07_rng.f 150 150).bind fun bt193 => (some (800, 200, 300, y165, 60, (([(⟨(⟨t168, t169⟩ : S56), y172⟩ : S59), (⟨(⟨t175, t176⟩ : S56), y183⟩ : S59)] : List (S59))), (([(⟨(⟨bt189.1, bt189.2⟩ : S56), 50⟩ : S79), (⟨(⟨bt191.1, bt191.2⟩ : S56), 40⟩ : S79), (⟨(⟨bt193.1, bt193.2⟩ : S56), 45⟩ : S79)] : List (S79)))))))) = some (r1, r2, r3, r4, r5, r6, r7) := by first | (rw [hy183]; with_reducible exact H) | (have H2_ := (Option.bind_some _ _).symm.trans H; rw [hy183]; with_reducible exact H2_) | (have H2_ := (Option.bind_some _ _).symm.trans H; with_reducible exact H2_) | with_reducible exact H | (rw [hy183]; exact H) | exact H
 have Ny183 := Aside0.mk hy183
 clear hy183
 obtain ⟨y186, hy186⟩ : ∃ y_ : List (S59), y_ = (([(⟨(⟨t168, t169⟩ : S56), y172⟩ : S59), (⟨(⟨t175, t176⟩ : S56), y183⟩ : S59)] : List (S59))) := ⟨_, rfl⟩
 replace H : ((swarflaw07_rng.f 200 220).bind fun bt189 => ((swarflaw07_rng.f 180 200).bind fun bt191 => ((swarflaw07_rng.f 150 150).bind fun bt193 => (some (800, 200, 300, y165, 60, y186, (([(⟨(⟨bt189.1, bt189.2⟩ : S56), 50⟩ : S79), (⟨(⟨bt191.1, bt191.2⟩ : S56), 40⟩ : S79), (⟨(⟨bt193.1, bt193.2⟩ : S56), 45⟩ : S79)] : List (S79)))))))) = some (r1, r2, r3, r4, r5, r6, r7) := by first | (rw [hy186]; with_reducible exact H) | (have H2_ := (Option.bind_some _ _).symm.trans H; rw [hy186]; with_reducible exact H2_) | (have H2_ := (Option.bind_some _ _).symm.trans H; with_reducible exact H2_) | with_reducible exact H | (rw [hy186]; exact H) | exact H
 have Ny186 := Aside0.mk hy186
 clear hy186
 replace H := Option.bind_eq_some_iff.mp H
 obtain ⟨⟨t189, t190⟩, A70, H⟩ := H
 try dsimp only at H
 have A7 := Aside0.mk A70
 clear A70
 replace H := Option.bind_eq_some_iff.mp H
 obtain ⟨⟨t191, t192⟩, A80, H⟩ := H
 try dsimp only at H
 have A8 := Aside0.mk A80
 clear A80
 replace H := Option.bind_eq_some_iff.mp H
 obtain ⟨⟨t193, t194⟩, A90, H⟩ := H
 try dsimp only at H
 have A9 := Aside0.mk A90
 clear A90
 obtain ⟨y195, hy195⟩ : ∃ y_ : List (S79), y_ = (([(⟨(⟨t189, t190⟩ : S56), 50⟩ : S79), (⟨(⟨t191, t192⟩ : S56), 40⟩ : S79), (⟨(⟨t193, t194⟩ : S56), 45⟩ : S79)] : List (S79))) := ⟨_, rfl⟩
 replace H : (some (800, 200, 300, y165, 60, y186, y195)) = some (r1, r2, r3, r4, r5, r6, r7) := by first | (rw [hy195]; with_reducible exact H) | (have H2_ := (Option.bind_some _ _).symm.trans H; rw [hy195]; with_reducible exact H2_) | (have H2_ := (Option.bind_some _ _).symm.trans H; with_reducible exact H2_) | with_reducible exact H | (rw [hy195]; exact H) | exact H
 have Ny195 := Aside0.mk hy195
 clear hy195
 simp only [Option.some.injEq, Prod.mk.injEq] at H
 obtain ⟨rfl, rfl, rfl, rfl, rfl, rfl, rfl⟩ := H
 go_enter Try.func52, Try.ntmps52
 go_wp2_with (first | (refine box_r (N := 0) rfl (cs := #[.int .i64 0, .int .i64 0, .int .i64 0, .slice none 0 0, .int .i64 0, .slice none 0 0, .slice none 0 0]) (t := 26) ?_; intro gb164 hg w10 hbox hb; have BK164 := Aside0.mk (hbox); have GW164 := gw_x hg HB; have GE164 := GW164; replace HB := Aside0.mk (below_step (below_x HB.out) hb); clear hb hbox hg) | ((with_reducible refine gate_dst (N := 3) rfl ?_); refine Kd.R_lit k85 _ 85 ?hg (N := 3) ?hd (xs := ([(⟨400, 2000, 500⟩ : S85), (⟨400, 500, 2000⟩ : S85)] : List (S85))) (inner := [.int .i64 400, .int .i64 2000, .int .i64 500, .int .i64 400, .int .i64 500, .int .i64 2000]) (ok := fun _ => True) (okp := fun _ => True) ?hr ?hp (fun _ hk => hk) trivial (Below.refl _ _) (Nat.le_refl _) (by simp) ?_; (case hd => rfl); (case hg => rfl); (case hr => first | (go_simp; done) | (go_simp; rfl)); (case hp => exact (Reps.c3 (show Kd.M k85 _ _ _ (⟨400, 2000, 500⟩ : S85) [.int .i64 400, .int .i64 2000, .int .i64 500] from (k85_mkM _ _ _ (⟨400, 2000, 500⟩ : S85) )) (Reps.c3 (show Kd.M k85 _ _ _ (⟨400, 500, 2000⟩ : S85) [.int .i64 400, .int .i64 500, .int .i64 2000] from (k85_mkM _ _ _ (⟨400, 500, 2000⟩ : S85) )) (Reps.none _ _)))); intro v166 w11 ho12 hb hg_ hnew_; clear hg_ hnew_; (first | rw [← Ny165.out] at ho12 | (simp only [Int.reduceToNat] at ho12; rw [← Ny165.out] at ho12)); have HO167 := Aside0.mk (Kd.R_lower (Kd.R_newM (M := fun k_ => (w.heap.size ≤ k_)) ho12 (below_size (by exact below_y HB.out)) (fun k_ h_ => h_)) (below_size (by exact below_y HB.out))); replace BK164 := bk_x BK164 hb; replace HB := bl_x HB hb; clear hb ho12) | (refine goesG_x 32 rfl (some 4) Try.func32 #[.int .i64 30, .int .i64 40] ?_; (with_reducible refine (swarflaw07_rng.calls 30 40 t168 t169 _ A1.out).mono ?_); rintro e w13 ⟨rfl, hb⟩; refine ⟨_, rfl, ?_⟩; replace HO167 := Aside0.mk (Kd.R_below (Kd.R_x HO167.out) hb); replace BK164 := bk_x BK164 hb; replace HB := bl_x HB hb; (try clear hb); (try clear hk); (try clear hi)) | (refine goesG_x 32 rfl (some 5) Try.func32 #[.int .i64 1600, .int .i64 1650] ?_; (with_reducible refine (swarflaw07_rng.calls 1600 1650 t170 t171 _ A2.out).mono ?_); rintro e w14 ⟨rfl, hb⟩; refine ⟨_, rfl, ?_⟩; replace HO167 := Aside0.mk (Kd.R_below (Kd.R_x HO167.out) hb); replace BK164 := bk_x BK164 hb; replace HB := bl_x HB hb; (try clear hb); (try clear hk); (try clear hi)) | ((with_reducible refine gate_dst (N := 7) rfl ?_); refine Kd.R_lit k62 _ 62 ?hg (N := 7) ?hd (xs := ([(⟨0, (⟨t170, t171⟩ : S56)⟩ : S62)] : List (S62))) (inner := [.int .i64 0, .int .i64 t170, .int .i64 t171]) (ok := fun _ => True) (okp := fun _ => True) ?hr ?hp (fun _ hk => hk) trivial (Below.refl _ _) (Nat.le_refl _) (by simp) ?_; (case hd => rfl); (case hg => rfl); (case hr => first | (go_simp; done) | (go_simp; rfl)); (case hp => exact (Reps.c3 (show Kd.M k62 _ _ _ (⟨0, (⟨t170, t171⟩ : S56)⟩ : S62) [.int .i64 0, .int .i64 t170, .int .i64 t171] from (k62_mkM _ _ _ (⟨0, (⟨t170, t171⟩ : S56)⟩ : S62) )) (Reps.none _ _))); intro v173 w15 ho16 hb hg_ hnew_; clear hg_ hnew_; (first | rw [← Ny172.out] at ho16 | (simp only [Int.reduceToNat] at ho16; rw [← Ny172.out] at ho16)); replace HO167 := Aside0.mk (Kd.R_below (Kd.R_x HO167.out) hb); have HO174 := Aside0.mk (Kd.R_lower (Kd.R_newM (M := fun k_ => (w.heap.size ≤ k_)) ho16 (below_size (by exact below_y HB.out)) (fun k_ h_ => h_)) (below_size (by exact below_y HB.out))); replace BK164 := bk_x BK164 hb; replace HB := bl_x HB hb; clear hb ho16; obtain ⟨Ao17, co17, eo17⟩ := Kd.R_slice HO174.out; subst eo17) | (refine goesG_x 32 rfl (some 9) Try.func32 #[.int .i64 120, .int .i64 150] ?_; (with_reducible refine (swarflaw07_rng.calls 120 150 t175 t176 _ A3.out).mono ?_); rintro e w18 ⟨rfl, hb⟩; refine ⟨_, rfl, ?_⟩; replace HO167 := Aside0.mk (Kd.R_below (Kd.R_x HO167.out) hb); replace HO174 := Aside0.mk (Kd.R_below (Kd.R_x HO174.out) hb); replace BK164 := bk_x BK164 hb; replace HB := bl_x HB hb; (try clear hb); (try clear hk); (try clear hi)) | (refine goesG_x 32 rfl (some 10) Try.func32 #[.int .i64 1300, .int .i64 1350] ?_; (with_reducible refine (swarflaw07_rng.calls 1300 1350 t177 t178 _ A4.out).mono ?_); rintro e w19 ⟨rfl, hb⟩; refine ⟨_, rfl, ?_⟩; replace HO167 := Aside0.mk (Kd.R_below (Kd.R_x HO167.out) hb); replace HO174 := Aside0.mk (Kd.R_below (Kd.R_x HO174.out) hb); replace BK164 := bk_x BK164 hb; replace HB := bl_x HB hb; (try clear hb); (try clear hk); (try clear hi)) | (refine goesG_x 32 rfl (some 12) Try.func32 #[.int .i64 1600, .int .i64 1650] ?_; (with_reducible refine (swarflaw07_rng.calls 1600 1650 t179 t180 _ A5.out).mono ?_); rintro e w20 ⟨rfl, hb⟩; refine ⟨_, rfl, ?_⟩; replace HO167 := Aside0.mk (Kd.R_below (Kd.R_x HO167.out) hb); replace HO174 := Aside0.mk (Kd.R_below (Kd.R_x HO174.out) hb); replace BK164 := bk_x BK164 hb; replace HB := bl_x HB hb; (try clear hb); (try clear hk); (try clear hi)) | (refine goesG_x 32 rfl (some 14) Try.func32 #[.int .i64 1200, .int .i64 1250] ?_; (with_reducible refine (swarflaw07_rng.calls 1200 1250 t181 t182 _ A6.out).mono ?_); rintro e w21 ⟨rfl, hb⟩; refine ⟨_, rfl, ?_⟩; replace HO167 := Aside0.mk (Kd.R_below (Kd.R_x HO167.out) hb); replace HO174 := Aside0.mk (Kd.R_below (Kd.R_x HO174.out) hb); replace BK164 := bk_x BK164 hb; replace HB := bl_x HB hb; (try clear hb); (try clear hk); (try clear hi)) | ((with_reducible refine gate_dst (N := 16) rfl ?_); refine Kd.R_lit k62 _ 62 ?hg (N := 16) ?hd (xs := ([(⟨0, (⟨t177, t178⟩ : S56)⟩ : S62), (⟨240, (⟨t179, t180⟩ : S56)⟩ : S62), (⟨480, (⟨t181, t182⟩ : S56)⟩ : S62)] : List (S62))) (inner := [.int .i64 0, .int .i64 t177, .int .i64 t178, .int .i64 240, .int .i64 t179, .int .i64 t180, .int .i64 480, .int .i64 t181, .int .i64 t182]) (ok := fun _ => True) (okp := fun _ => True) ?hr ?hp (fun _ hk => hk) trivial (Below.refl _ _) (Nat.le_refl _) (by simp) ?_; (case hd => rfl); (case hg => rfl); (case hr => first | (go_simp; done) | (go_simp; rfl)); (case hp => exact (Reps.c3 (show Kd.M k62 _ _ _ (⟨0, (⟨t177, t178⟩ : S56)⟩ : S62) [.int .i64 0, .int .i64 t177, .int .i64 t178] from (k62_mkM _ _ _ (⟨0, (⟨t177, t178⟩ : S56)⟩ : S62) )) (Reps.c3 (show Kd.M k62 _ _ _ (⟨240, (⟨t179, t180⟩ : S56)⟩ : S62) [.int .i64 240, .int .i64 t179, .int .i64 t180] from (k62_mkM _ _ _ (⟨240, (⟨t179, t180⟩ : S56)⟩ : S62) )) (Reps.c3 (show Kd.M k62 _ _ _ (⟨480, (⟨t181, t182⟩ : S56)⟩ : S62) [.int .i64 480, .int .i64 t181, .int .i64 t182] from (k62_mkM _ _ _ (⟨480, (⟨t181, t182⟩ : S56)⟩ : S62) )) (Reps.none _ _))))); intro v184 w22 ho23 hb hg_ hnew_; clear hg_ hnew_; (first | rw [← Ny183.out] at ho23 | (simp only [Int.reduceToNat] at ho23; rw [← Ny183.out] at ho23)); replace HO167 := Aside0.mk (Kd.R_below (Kd.R_x HO167.out) hb); have HO185 := Aside0.mk (Kd.R_lower (Kd.R_new' (Kd.R_newM (M := fun k_ => (w.heap.size ≤ k_)) ho23 (below_size (by exact below_y HB.out)) (fun k_ h_ => h_)) (Kd.R_lt (Kd.R_x HO174.out))) (below_size (by exact below_y HB.out))); replace HO174 := Aside0.mk (Kd.R_elder' (Kd.R_x HO174.out) (Kd.R_base ho23) hb); replace BK164 := bk_x BK164 hb; replace HB := bl_x HB hb; clear hb ho23; obtain ⟨Ao24, co24, eo24⟩ := Kd.R_slice HO185.out; subst eo24) | ((with_reducible refine gate_dst (N := 18) rfl ?_); refine Kd.N_lit k59 _ 59 ?hg (N' := 18) ?hd (xs := ([(⟨(⟨t168, t169⟩ : S56), y172⟩ : S59), (⟨(⟨t175, t176⟩ : S56), y183⟩ : S59)] : List (S59))) (inner := [.int .i64 t168, .int .i64 t169, .slice Ao17 y172.length co17, .int .i64 t175, .int .i64 t176, .slice Ao24 y183.length co24]) (ok := (fun k_ => (w.heap.size ≤ k_) ∧ some k_ ≠ (v166 : Value).ownBlock ∧ k_ ≠ gb164)) (okp := (fun k_ => (w.heap.size ≤ k_) ∧ some k_ ≠ (v166 : Value).ownBlock ∧ k_ ≠ gb164)) ?hr ?hp (fun _ hk => hk) ((show ∀ k_, w22.heap.size ≤ k_ → (fun k_ => (w.heap.size ≤ k_) ∧ some k_ ≠ (v166 : Value).ownBlock ∧ k_ ≠ gb164) k_ from fun k_ hk => ⟨(Nat.le_trans (below_size (by exact below_y HB.out)) hk), Kd.fresh' (Kd.R_lt (Kd.R_x HO167.out)) k_ hk, Kd.freshB (g := gb164) (o := .cells #[.int .i64 0, .int .i64 0, .int .i64 0, .slice none 0 0, .int .i64 0, .slice none 0 0, .slice none 0 0] 26 (0, 0)) (blk_x BK164.out) k_ hk⟩) _ (Nat.le_refl _)) (Below.refl _ _) (Nat.le_refl _) (by simp) ?_; (case hd => rfl); (case hg => rfl); (case hr => first | (go_simp; done) | (go_simp; rfl)); (case hp => exact (Reps.c3 (show Kd.FK k59 _ _ (⟨(⟨t168, t169⟩ : S56), y172⟩ : S59) [.int .i64 t168, .int .i64 t169, .slice Ao17 y172.length co17] from (k59_mkF _ _ (⟨(⟨t168, t169⟩ : S56), y172⟩ : S59) (Kd.R_reads' (Kd.R_mono (ok' := (fun k_ => (w.heap.size ≤ k_) ∧ some k_ ≠ (v166 : Value).ownBlock ∧ k_ ≠ gb164)) (Kd.R_types (Kd.R_apart' (HO174.out) (Kd.R_typed HO167.out) (by decide)) BK164.out (by decide)) (fun k_ hk => ⟨hk.1.1.1.1, ⟨hk.1.2, hk.2⟩⟩))).2.1 (Kd.R_F (Kd.R_mono (ok' := (fun k_ => (w.heap.size ≤ k_) ∧ some k_ ≠ (v166 : Value).ownBlock ∧ k_ ≠ gb164)) (Kd.R_types (Kd.R_apart' (HO174.out) (Kd.R_typed HO167.out) (by decide)) BK164.out (by decide)) (fun k_ hk => ⟨hk.1.1.1.1, ⟨hk.1.2, hk.2⟩⟩))))) (Reps.c3 (show Kd.FK k59 _ _ (⟨(⟨t175, t176⟩ : S56), y183⟩ : S59) [.int .i64 t175, .int .i64 t176, .slice Ao24 y183.length co24] from (k59_mkF _ _ (⟨(⟨t175, t176⟩ : S56), y183⟩ : S59) (Kd.R_reads' (Kd.R_mono (ok' := (fun k_ => (w.heap.size ≤ k_) ∧ some k_ ≠ (v166 : Value).ownBlock ∧ k_ ≠ gb164)) (Kd.R_types (Kd.R_apart' (HO185.out) (Kd.R_typed HO167.out) (by decide)) BK164.out (by decide)) (fun k_ hk => ⟨hk.1.1.1.1, ⟨hk.1.2, hk.2⟩⟩))).2.1 (Kd.R_F (Kd.R_mono (ok' := (fun k_ => (w.heap.size ≤ k_) ∧ some k_ ≠ (v166 : Value).ownBlock ∧ k_ ≠ gb164)) (Kd.R_types (Kd.R_apart' (HO185.out) (Kd.R_typed HO167.out) (by decide)) BK164.out (by decide)) (fun k_ hk => ⟨hk.1.1.1.1, ⟨hk.1.2, hk.2⟩⟩))))) (Reps.none _ _)))); intro v187 w25 ho26 hb hg_ hnew_; clear hg_ hnew_; (first | rw [← Ny186.out] at ho26 | (simp only [Int.reduceToNat] at ho26; rw [← Ny186.out] at ho26)); replace HO167 := Aside0.mk (Kd.R_below (Kd.R_x HO167.out) hb); have HO188 := Aside0.mk (Kd.N_lower ho26 (below_size (by exact below_y HB.out))); replace BK164 := bk_x BK164 hb; replace HB := bl_x HB hb; clear HO174 HO185; clear hb ho26) | (refine goesG_x 32 rfl (some 19) Try.func32 #[.int .i64 200, .int .i64 220] ?_; (with_reducible refine (swarflaw07_rng.calls 200 220 t189 t190 _ A7.out).mono ?_); rintro e w27 ⟨rfl, hb⟩; refine ⟨_, rfl, ?_⟩; replace HO167 := Aside0.mk (Kd.R_below (Kd.R_x HO167.out) hb); replace HO188 := Aside0.mk (Kd.N_below (Kd.N_x HO188.out) hb); replace BK164 := bk_x BK164 hb; replace HB := bl_x HB hb; (try clear hb); (try clear hk); (try clear hi)) | (refine goesG_x 32 rfl (some 21) Try.func32 #[.int .i64 180, .int .i64 200] ?_; (with_reducible refine (swarflaw07_rng.calls 180 200 t191 t192 _ A8.out).mono ?_); rintro e w28 ⟨rfl, hb⟩; refine ⟨_, rfl, ?_⟩; replace HO167 := Aside0.mk (Kd.R_below (Kd.R_x HO167.out) hb); replace HO188 := Aside0.mk (Kd.N_below (Kd.N_x HO188.out) hb); replace BK164 := bk_x BK164 hb; replace HB := bl_x HB hb; (try clear hb); (try clear hk); (try clear hi)) | (refine goesG_x 32 rfl (some 23) Try.func32 #[.int .i64 150, .int .i64 150] ?_; (with_reducible refine (swarflaw07_rng.calls 150 150 t193 t194 _ A9.out).mono ?_); rintro e w29 ⟨rfl, hb⟩; refine ⟨_, rfl, ?_⟩; replace HO167 := Aside0.mk (Kd.R_below (Kd.R_x HO167.out) hb); replace HO188 := Aside0.mk (Kd.N_below (Kd.N_x HO188.out) hb); replace BK164 := bk_x BK164 hb; replace HB := bl_x HB hb; (try clear hb); (try clear hk); (try clear hi)) | ((with_reducible refine gate_dst (N := 25) rfl ?_); refine Kd.R_lit k79 _ 79 ?hg (N := 25) ?hd (xs := ([(⟨(⟨t189, t190⟩ : S56), 50⟩ : S79), (⟨(⟨t191, t192⟩ : S56), 40⟩ : S79), (⟨(⟨t193, t194⟩ : S56), 45⟩ : S79)] : List (S79))) (inner := [.int .i64 t189, .int .i64 t190, .int .i64 50, .int .i64 t191, .int .i64 t192, .int .i64 40, .int .i64 t193, .int .i64 t194, .int .i64 45]) (ok := fun _ => True) (okp := fun _ => True) ?hr ?hp (fun _ hk => hk) trivial (Below.refl _ _) (Nat.le_refl _) (by simp) ?_; (case hd => rfl); (case hg => rfl); (case hr => first | (go_simp; done) | (go_simp; rfl)); (case hp => exact (Reps.c3 (show Kd.M k79 _ _ _ (⟨(⟨t189, t190⟩ : S56), 50⟩ : S79) [.int .i64 t189, .int .i64 t190, .int .i64 50] from (k79_mkM _ _ _ (⟨(⟨t189, t190⟩ : S56), 50⟩ : S79) )) (Reps.c3 (show Kd.M k79 _ _ _ (⟨(⟨t191, t192⟩ : S56), 40⟩ : S79) [.int .i64 t191, .int .i64 t192, .int .i64 40] from (k79_mkM _ _ _ (⟨(⟨t191, t192⟩ : S56), 40⟩ : S79) )) (Reps.c3 (show Kd.M k79 _ _ _ (⟨(⟨t193, t194⟩ : S56), 45⟩ : S79) [.int .i64 t193, .int .i64 t194, .int .i64 45] from (k79_mkM _ _ _ (⟨(⟨t193, t194⟩ : S56), 45⟩ : S79) )) (Reps.none _ _))))); intro v196 w30 ho31 hb hg_ hnew_; clear hg_ hnew_; (first | rw [← Ny195.out] at ho31 | (simp only [Int.reduceToNat] at ho31; rw [← Ny195.out] at ho31)); replace HO167 := Aside0.mk (Kd.R_below (Kd.R_x HO167.out) hb); replace HO188 := Aside0.mk (Kd.N_elder' (Kd.N_x HO188.out) (Kd.R_base ho31) hb); have HO197 := Aside0.mk (Kd.R_lower (Kd.R_newM (M := fun k_ => (w.heap.size ≤ k_)) ho31 (below_size (by exact below_y HB.out)) (fun k_ h_ => h_)) (below_size (by exact below_y HB.out))); replace BK164 := bk_x BK164 hb; replace HB := bl_x HB hb; clear hb ho31; obtain ⟨Ao32, co32, eo32⟩ := Kd.R_slice HO197.out; subst eo32; obtain ⟨Ao33, co33, eo33⟩ := Kd.N_slice HO188.out; subst eo33; obtain ⟨Ao34, co34, eo34⟩ := Kd.R_slice HO167.out; subst eo34; obtain ⟨hfz35_0, _, _, _, _, _, _, _⟩ := cf7 BK164))
 refine bodyPost_ret (results_cell_row rfl _ _ gb164 26 #[.int .i64 800, .int .i64 200, .int .i64 300, .slice Ao34 y165.length co34, .int .i64 60, .slice Ao33 y186.length co33, .slice Ao32 y195.length co32] (0, 0) _ rfl (blk_z BK164.out) Try.underlying26 rfl (by kernel_rfl)) rfl ?_
 exact ⟨_, _, _, by first | rfl | (simp [errW_none, errW_some] <;> rfl) | (simp [*, errW_none, errW_some] <;> rfl), by (with_reducible repeat (first | apply Kd.R_alloc | apply Kd.R_drewN | apply Kd.R_drew)); exact Kd.R_mono (Kd.R_far (p := ⟨gb164, 6, none⟩) (Kd.R_far (p := ⟨gb164, 5, none⟩) (Kd.R_far (p := ⟨gb164, 4, none⟩) (Kd.R_far (p := ⟨gb164, 3, none⟩) (Kd.R_far (p := ⟨gb164, 2, none⟩) (Kd.R_far (p := ⟨gb164, 1, none⟩) (Kd.R_far (p := ⟨gb164, 0, none⟩) (Kd.R_types HO167.out BK164.out (by decide)) (fun _ hk => hk.2) (.int .i64 800)) (fun _ hk => hk.2) (.int .i64 200)) (fun _ hk => hk.2) (.int .i64 300)) (fun _ hk => hk.2) (.slice Ao34 y165.length co34)) (fun _ hk => hk.2) (.int .i64 60)) (fun _ hk => hk.2) (.slice Ao33 y186.length co33)) (fun _ hk => hk.2) (.slice Ao32 y195.length co32)) (fun _ hk => hk.1.1), by (with_reducible repeat (first | apply Kd.N_alloc | apply Kd.N_drewN | apply Kd.N_drew)); exact Kd.N_mono (Kd.N_far (p := ⟨gb164, 6, none⟩) (Kd.N_far (p := ⟨gb164, 5, none⟩) (Kd.N_far (p := ⟨gb164, 4, none⟩) (Kd.N_far (p := ⟨gb164, 3, none⟩) (Kd.N_far (p := ⟨gb164, 2, none⟩) (Kd.N_far (p := ⟨gb164, 1, none⟩) (Kd.N_far (p := ⟨gb164, 0, none⟩) (Kd.N_mono HO188.out (fun k_ hk => (⟨hk, hk.1.2.2⟩ : _ ∧ k_ ≠ gb164))) (fun _ hk => hk.2) (.int .i64 800)) (fun _ hk => hk.2) (.int .i64 200)) (fun _ hk => hk.2) (.int .i64 300)) (fun _ hk => hk.2) (.slice Ao34 y165.length co34)) (fun _ hk => hk.2) (.int .i64 60)) (fun _ hk => hk.2) (.slice Ao33 y186.length co33)) (fun _ hk => hk.2) (.slice Ao32 y195.length co32)) (fun _ hk => ⟨hk.1.1.1, ⟨hk.1.1.2.1, hk.1.2⟩⟩), by (with_reducible repeat (first | apply Kd.R_alloc | apply Kd.R_drewN | apply Kd.R_drew)); exact Kd.R_mono (Kd.R_far (p := ⟨gb164, 6, none⟩) (Kd.R_far (p := ⟨gb164, 5, none⟩) (Kd.R_far (p := ⟨gb164, 4, none⟩) (Kd.R_far (p := ⟨gb164, 3, none⟩) (Kd.R_far (p := ⟨gb164, 2, none⟩) (Kd.R_far (p := ⟨gb164, 1, none⟩) (Kd.R_far (p := ⟨gb164, 0, none⟩) (Kd.R_types HO197.out BK164.out (by decide)) (fun _ hk => hk.2) (.int .i64 800)) (fun _ hk => hk.2) (.int .i64 200)) (fun _ hk => hk.2) (.int .i64 300)) (fun _ hk => hk.2) (.slice Ao34 y165.length co34)) (fun _ hk => hk.2) (.int .i64 60)) (fun _ hk => hk.2) (.slice Ao33 y186.length co33)) (fun _ hk => hk.2) (.slice Ao32 y195.length co32)) (fun _ hk => hk.1.1), by exact below_y HB.out⟩
end Go.Proofs.Ytodmemndaaiolaa.PC7
namespace Go.Proofs.Ytodmemndaaiolaa.PC7
set_option linter.unusedVariables false
set_option linter.unusedSimpArgs false
open Go.RowKit Go.Proofs.YtodmemndaaiolaaW.PrintWords Go.Proofs.YtodmemndaaiolaaW.PrintLast Go.Proofs.YtodmemndaaiolaaW.PrintMore
theorem ev_of_mono {α : Type} {g : Nat → Option α} {r : α} (hm : ∀ k, LeO (g k) (g (k + 1))) {K : Nat} (h : g K = some r) : Ev g r := by
  refine ⟨K, fun k hk => ?_⟩
  induction hk with
  | refl => exact h
  | step hk ih => exact hm _ _ ih
def vHolds : List S85 := [⟨400, 2000, 500⟩, ⟨400, 500, 2000⟩]
def vSills : List S59 := [⟨⟨30, 40⟩, [⟨0, ⟨1600, 1650⟩⟩]⟩, ⟨⟨120, 150⟩, [⟨0, ⟨1300, 1350⟩⟩, ⟨240, ⟨1600, 1650⟩⟩, ⟨480, ⟨1200, 1250⟩⟩]⟩]
def vLots : List S79 := [⟨⟨200, 220⟩, 50⟩, ⟨⟨180, 200⟩, 40⟩, ⟨⟨150, 150⟩, 45⟩]
theorem voyage_f : swarflaw07_voyage.f = some (800, 200, 300, vHolds, 60, vSills, vLots) := rfl
theorem v_check : chkE 800 200 300 vHolds 60 vSills vLots = some 0 := limO_of (ev_of_mono (fun k => ship_Check.mono _ _ _ _ _ _ _ k) (K := 60) (by kernel_rfl))
theorem v_stow : stowE 800 200 300 vHolds 60 vSills vLots [0, 1, -1] = some 0 := limO_of (ev_of_mono (fun k => ship_CheckStowage.mono _ _ _ _ _ _ _ _ k) (K := 60) (by kernel_rfl))
theorem v_drafts : ship_Drafts.f 800 200 300 vHolds 60 vSills vLots [0, 1, -1] = some (1290000, 1340000, 1260000, 1310000, 0) := by
  unfold ship_Drafts.f
  rw [v_stow]
  kernel_rfl
theorem v_sail : ship_Sail.f 800 200 300 vHolds 60 vSills vLots [0, 1, -1] = some (1, [⟨90, 100⟩, ⟨240, 250⟩], 0) := by
  unfold ship_Sail.f
  rw [v_stow]
  kernel_rfl
section
variable (K : Nat) (light under trim : Int) (holds : List S85) (leaves : Int) (sills : List S59) (lots : List S79)
def goodK (s : List Int) : Option Bool :=
  (ship_checkStowage.f K light under trim holds leaves sills lots s).bind fun e => if e = 0 then (ship_apart.f K light under trim holds leaves sills lots s).bind fun x => (ship_level.f K light under trim holds leaves sills lots x.1 x.2).bind fun b =>
    if b = true then (ladenO light holds lots s).bind fun q => some (!decide ((sailO under leaves sills q false).length < sills.length)) else some false else some false
end
theorem goodK_good {K : Nat} {light under trim : Int} {holds : List S85} {leaves : Int} {sills : List S59} {lots : List S79} {s : List Int} {b : Bool} (h : goodK K light under trim holds leaves sills lots s = some b) : goodO light under trim holds leaves sills lots s = some b := by
  unfold goodK at h
  obtain ⟨e, he, h⟩ := Option.bind_eq_some_iff.1 h
  unfold goodO
  refine Option.bind_eq_some_iff.2 ⟨e, limO_of (ev_of_mono (fun k => ship_checkStowage.mono _ _ _ _ _ _ _ _ k) he), ?_⟩
  by_cases h0 : e = 0
  · rw [if_pos h0] at h ⊢
    obtain ⟨x, hx, h⟩ := Option.bind_eq_some_iff.1 h
    refine Option.bind_eq_some_iff.2 ⟨x, limO_of (ev_of_mono (fun k => ship_apart.mono _ _ _ _ _ _ _ _ k) hx), ?_⟩
    obtain ⟨c, hc, h⟩ := Option.bind_eq_some_iff.1 h
    exact Option.bind_eq_some_iff.2 ⟨c, limO_of (ev_of_mono (fun k => ship_level.mono _ _ _ _ _ _ _ _ _ k) hc), h⟩
  · rw [if_neg h0] at h ⊢
    exact h
theorem bestOf_congr {g1 g2 : List Int → Bool} (w : List Int → Int) : ∀ (L : List (List Int)) (b : List Int × Int), (∀ t, t ∈ L → g1 t = g2 t) → bestOf g1 w L b = bestOf g2 w L b
  | [], _, _ => rfl
  | t :: L, b, h => by
    show bestOf g1 w L (if g1 t = true then (if b.2 < w t then (t, w t) else b) else b) = bestOf g2 w L (if g2 t = true then (if b.2 < w t then (t, w t) else b) else b)
    rw [h t (by simp)]
    exact bestOf_congr w L _ (fun x hx => h x (List.mem_cons_of_mem _ hx))
theorem v_all : (stowsL 2 3).all (fun t => (goodK 60 800 200 300 vHolds 60 vSills vLots t).isSome) = true := by kernel_rfl
theorem v_best : ship_Best.f 800 200 300 vHolds 60 vSills vLots = some ([0, -1, 1], 95, 0) := by
  have hk : ∀ t, t ∈ stowsL 2 3 → goodO 800 200 300 vHolds 60 vSills vLots t = some ((goodK 60 800 200 300 vHolds 60 vSills vLots t).getD false) := fun t ht => by
    have h1 := List.all_eq_true.1 v_all t ht
    cases hg : goodK 60 800 200 300 vHolds 60 vSills vLots t with
    | none => rw [hg] at h1; cases h1
    | some b => exact goodK_good hg
  have hg : ∀ t, t ∈ stowsL 2 3 → goodB 800 200 300 vHolds 60 vSills vLots t = (goodK 60 800 200 300 vHolds 60 vSills vLots t).getD false := fun t ht => by
    unfold goodB; rw [hk t ht]; rfl
  have hb := bestOf_congr (fun t => worthGo vLots 0 t 0) (stowsL 2 3) ([], -1) hg
  have he : bestOf (fun t => (goodK 60 800 200 300 vHolds 60 vSills vLots t).getD false) (fun t => worthGo vLots 0 t 0) (stowsL 2 3) ([], -1) = ([0, -1, 1], 95) := by kernel_rfl
  rw [he] at hb
  unfold ship_Best.f
  refine Option.bind_eq_some_iff.2 ⟨0, v_check, ?_⟩
  rw [if_pos rfl, if_pos ⟨by decide, by decide, by decide, fun t ht => by rw [hk t ht]; rfl⟩]
  show some ((bestOf (goodB 800 200 300 vHolds 60 vSills vLots) (fun t => worthGo vLots 0 t 0) (stowsL 2 3) ([], -1)).1, (bestOf (goodB 800 200 300 vHolds 60 vSills vLots) (fun t => worthGo vLots 0 t 0) (stowsL 2 3) ([], -1)).2, (0 : Int)) = _
  rw [hb]
end Go.Proofs.Ytodmemndaaiolaa.PC7
namespace Go.Proofs.Ytodmemndaaiolaa.PC7
open Go.RowKit Go.Proofs.YtodmemndaaiolaaW.PrintWords Go.Proofs.YtodmemndaaiolaaW.PrintLast Go.Proofs.YtodmemndaaiolaaW.PrintMore
attribute [local go_sem] max2_int min2_int max_two min_two max_three min_three max_four min_four
set_option linter.unusedVariables false
set_option linter.unusedSimpArgs false
def ship_Level.f (k : Nat) (a0_0 : Int) (a0_1 : Int) (a0_2 : Int) (l0_3 : List (S85)) (a0_4 : Int) (l0_5 : List (S59)) (l0_6 : List (S79)) (l1 : List Int) : Option (Bool × Int × Int × Int) := (ship_CheckStowage.f k a0_0 a0_1 a0_2 l0_3 a0_4 l0_5 l0_6 l1).bind fun t737 => (if t737 = 0 then ((ship_apart.f k a0_0 a0_1 a0_2 l0_3 a0_4 l0_5 l0_6 l1).bind fun bt738 => ((ship_level.f k a0_0 a0_1 a0_2 l0_3 a0_4 l0_5 l0_6 bt738.1 bt738.2).bind fun t741 => (some (t741, bt738.1, bt738.2, 0)))) else (some (false, 0, 0, t737)))
set_option maxHeartbeats 8000000 in
set_option maxRecDepth 100000 in
theorem ship_Level.calls (k : Nat) (a0_0 : Int) (a0_1 : Int) (a0_2 : Int) (A0_3 : Option Addr) (c0_3 : Nat) (l0_3 : List (S85)) (a0_4 : Int) (A0_5 : Option Addr) (c0_5 : Nat) (l0_5 : List (S59)) (A0_6 : Option Addr) (c0_6 : Nat) (l0_6 : List (S79)) (A1 : Option Addr) (c1 : Nat) (l1 : List Int) (r1 : Bool) (r2 : Int) (r3 : Int) (r4 : Int) (w : World) (hr0_3 : Kd.C k85 w A0_3 l0_3.length l0_3) (hc0_3 : l0_3.length ≤ c0_3) (hr0_5 : Kd.C k59 w A0_5 l0_5.length l0_5) (hc0_5 : l0_5.length ≤ c0_5) (hr0_6 : Kd.C k79 w A0_6 l0_6.length l0_6) (hc0_6 : l0_6.length ≤ c0_6) (hr1 : Kd.C (Kd.int .i64) w A1 l1.length l1) (hc1 : l1.length ≤ c1) (h : ship_Level.f k a0_0 a0_1 a0_2 l0_3 a0_4 l0_5 l0_6 l1 = some (r1, r2, r3, r4)) :
  Calls Try.prog 37 #[.agg #[.int .i64 a0_0, .int .i64 a0_1, .int .i64 a0_2, .slice A0_3 l0_3.length c0_3, .int .i64 a0_4, .slice A0_5 l0_5.length c0_5, .slice A0_6 l0_6.length c0_6], .slice A1 l1.length c1] w fun e w' => e = .returned (.tuple #[.bool r1, .agg #[.int .i64 r2, .int .i64 r3], .int .i64 r4]) ∧ Below w.heap.size w w' := by
 have hu26 := Try.underlying26
 have hu56 := Try.underlying56
 have HR0_3 := Aside0.mk hr0_3
 have HC0_3 := Aside0.mk hc0_3
 clear hr0_3 hc0_3
 have HR0_5 := Aside0.mk hr0_5
 have HC0_5 := Aside0.mk hc0_5
 clear hr0_5 hc0_5
 have HR0_6 := Aside0.mk hr0_6
 have HC0_6 := Aside0.mk hc0_6
 clear hr0_6 hc0_6
 have HR1 := Aside0.mk hr1
 have HC1 := Aside0.mk hc1
 clear hr1 hc1
 have HB := Aside0.mk (Below.refl w.heap.size w)
 have H : ((ship_CheckStowage.f k a0_0 a0_1 a0_2 l0_3 a0_4 l0_5 l0_6 l1).bind fun t737 => (if t737 = 0 then ((ship_apart.f k a0_0 a0_1 a0_2 l0_3 a0_4 l0_5 l0_6 l1).bind fun bt738 => ((ship_level.f k a0_0 a0_1 a0_2 l0_3 a0_4 l0_5 l0_6 bt738.1 bt738.2).bind fun t741 => (some (t741, bt738.1, bt738.2, 0)))) else (some (false, 0, 0, t737)))) = some (r1, r2, r3, r4) := h
 clear h
 replace H := Option.bind_eq_some_iff.mp H
 obtain ⟨t737, A30, H⟩ := H
 try dsimp only at H
 have A3 := Aside0.mk A30
 clear A30
 by_cases c4 : t737 = 0
 ·
  rw [if_pos c4] at H; have c4b0 : (t737 == 0) = true := beq_iff_eq.mpr c4; have c4b1 : (t737 != 0) = false := bne_eq_false_iff_eq.mpr c4; clear c4; replace H := Option.bind_eq_some_iff.mp H; obtain ⟨⟨t738, t739⟩, A50, H⟩ := H
  try dsimp only at H
  have A5 := Aside0.mk A50; clear A50; replace H := Option.bind_eq_some_iff.mp H; obtain ⟨t741, A60, H⟩ := H; replace H : (some (t741, t738, t739, 0)) = some (r1, r2, r3, r4) := H; have A6 := Aside0.mk A60; clear A60; simp only [Option.some.injEq, Prod.mk.injEq] at H; obtain ⟨rfl, rfl, rfl, rfl⟩ := H; go_enter Try.func37, Try.ntmps37
  try go_wp2_with (first | (refine box_r (N := 2) rfl (cs := #[.int .i64 a0_0, .int .i64 a0_1, .int .i64 a0_2, .slice A0_3 l0_3.length c0_3, .int .i64 a0_4, .slice A0_5 l0_5.length c0_5, .slice A0_6 l0_6.length c0_6]) (t := 26) ?_; intro gb735 hg w7 hbox hb; have BK735 := Aside0.mk (hbox); have GW735 := gw_x hg HB; have GE735 := GW735; replace HB := Aside0.mk (below_step (below_x HB.out) hb); clear hb hbox hg) | (refine box_r (N := 5) rfl (cs := #[.int .i64 0, .int .i64 0]) (t := 56) ?_; intro gb736 hg w8 hbox hb; have BK736 := Aside0.mk (hbox); have GW736 := gw_x hg HB; have GE736 := GW736; replace HB := bl_x HB hb; have NB735_736 := nb_x hg BK735; have NB736_735 := nb_y hg BK735; replace BK735 := bk_x BK735 hb; clear hb hbox hg; have hnb9 := NB735_736.out; have hnc9 := NB736_735.out; obtain ⟨hfz10_0, _, _, _, _, _, _, _⟩ := cf7 BK735) | (refine goesG_x 40 rfl (some 11) Try.func40 #[.agg #[.int .i64 a0_0, .int .i64 a0_1, .int .i64 a0_2, .slice A0_3 l0_3.length c0_3, .int .i64 a0_4, .slice A0_5 l0_5.length c0_5, .slice A0_6 l0_6.length c0_6], .slice A1 l1.length c1] ?_; (with_reducible refine (ship_CheckStowage.calls k a0_0 a0_1 a0_2 _ _ l0_3 a0_4 _ _ l0_5 _ _ l0_6 _ _ l1 t737 _ ?side1 ?side2 ?side3 ?side4 ?side5 ?side6 ?side7 ?side8 A3.out).mono ?_); (case side1 => exact Kd.C_x HR0_3.out HB.out); (case side2 => exact HC0_3.out); (case side3 => exact Kd.C_x HR0_5.out HB.out); (case side4 => exact HC0_5.out); (case side5 => exact Kd.C_x HR0_6.out HB.out); (case side6 => exact HC0_6.out); (case side7 => exact Kd.C_x HR1.out HB.out); (case side8 => exact HC1.out); rintro e w11 ⟨rfl, hb⟩; refine ⟨_, rfl, ?_⟩; replace BK735 := bk_x BK735 hb; replace BK736 := bk_x BK736 hb; replace HB := bl_x HB hb; (try clear hb); (try clear hk); (try clear hi); obtain ⟨hfz12_0, _, _, _, _, _, _, _⟩ := cf7 BK735) | (refine goesG_x 65 rfl (some 18) Try.func65 #[.agg #[.int .i64 a0_0, .int .i64 a0_1, .int .i64 a0_2, .slice A0_3 l0_3.length c0_3, .int .i64 a0_4, .slice A0_5 l0_5.length c0_5, .slice A0_6 l0_6.length c0_6], .slice A1 l1.length c1] ?_; (with_reducible refine (ship_apart.calls k a0_0 a0_1 a0_2 _ _ l0_3 a0_4 _ _ l0_5 _ _ l0_6 _ _ l1 t738 t739 _ ?side1 ?side2 ?side3 ?side4 ?side5 ?side6 ?side7 ?side8 A5.out).mono ?_); (case side1 => exact Kd.C_x HR0_3.out HB.out); (case side2 => exact HC0_3.out); (case side3 => exact Kd.C_x HR0_5.out HB.out); (case side4 => exact HC0_5.out); (case side5 => exact Kd.C_x HR0_6.out HB.out); (case side6 => exact HC0_6.out); (case side7 => exact Kd.C_x HR1.out HB.out); (case side8 => exact HC1.out); rintro e w13 ⟨rfl, hb⟩; refine ⟨_, rfl, ?_⟩; replace BK735 := bk_x BK735 hb; replace BK736 := bk_x BK736 hb; replace HB := bl_x HB hb; (try clear hb); (try clear hk); (try clear hi)) | (refine box_r (N := 8) rfl (cs := #[.int .i64 0, .int .i64 0]) (t := 56) ?_; intro gb740 hg w14 hbox hb; have BK740 := Aside0.mk (hbox); have GW740 := gw_x hg HB; have GE740 := GW740; replace HB := bl_x HB hb; have NB735_740 := nb_x hg BK735; have NB740_735 := nb_y hg BK735; replace BK735 := bk_x BK735 hb; have NB736_740 := nb_x hg BK736; have NB740_736 := nb_y hg BK736; replace BK736 := bk_x BK736 hb; clear hb hbox hg; have hnb15 := NB740_735.out; have hnc15 := NB735_740.out; have hnb16 := NB740_736.out; have hnc16 := NB736_740.out; obtain ⟨hfz17_0, _, _⟩ := cf2 BK740))
  have n0_ : Aside0 (((w14.setCell ⟨gb740, 0, none⟩ (.int .i64 t738)).setCell ⟨gb740, 1, none⟩ (.int .i64 t739)).heap[gb735]? = some (.cells #[.int .i64 a0_0, .int .i64 a0_1, .int .i64 a0_2, .slice A0_3 l0_3.length c0_3, .int .i64 a0_4, .slice A0_5 l0_5.length c0_5, .slice A0_6 l0_6.length c0_6] 26 (0, 0))) := ⟨blk_w BK735.out⟩; have n1_ : Aside0 (((w14.setCell ⟨gb740, 0, none⟩ (.int .i64 t738)).setCell ⟨gb740, 1, none⟩ (.int .i64 t739)).heap[gb736]? = some (.cells #[.int .i64 0, .int .i64 0] 56 (0, 0))) := ⟨blk_w BK736.out⟩; have n2_ : Aside0 (((w14.setCell ⟨gb740, 0, none⟩ (.int .i64 t738)).setCell ⟨gb740, 1, none⟩ (.int .i64 t739)).heap[gb740]? = some (.cells #[.int .i64 t738, .int .i64 t739] 56 (0, 0))) := ⟨blk_z BK740.out⟩; have n3_ : Aside0 (Below w.heap.size w ((w14.setCell ⟨gb740, 0, none⟩ (.int .i64 t738)).setCell ⟨gb740, 1, none⟩ (.int .i64 t739))) := ⟨by exact below_y HB.out⟩
  (try clear BK735)
  (try clear BK736)
  (try clear BK740)
  (try clear HB)
  generalize ((w14.setCell ⟨gb740, 0, none⟩ (.int .i64 t738)).setCell ⟨gb740, 1, none⟩ (.int .i64 t739)) = w18 at n0_ n1_ n2_ n3_ ⊢; have BK735 := n0_; have BK736 := n1_; have BK740 := n2_; have HB := n3_; clear n0_ n1_ n2_ n3_; replace BK735 := Aside0.mk (blk_drew BK735.out); replace BK736 := Aside0.mk (blk_drew BK736.out); replace BK740 := Aside0.mk (blk_drew BK740.out); replace HB := Aside0.mk (below_drew1 HB.out); refine start_ (n := 7) (S := fun w' => w'.cell? ⟨gb735, 0, none⟩ = some (.int .i64 a0_0) ∧ w'.cell? ⟨gb735, 1, none⟩ = some (.int .i64 a0_1) ∧ w'.cell? ⟨gb735, 2, none⟩ = some (.int .i64 a0_2) ∧ w'.cell? ⟨gb735, 3, none⟩ = some (.slice A0_3 l0_3.length c0_3) ∧ w'.cell? ⟨gb735, 4, none⟩ = some (.int .i64 a0_4) ∧ w'.cell? ⟨gb735, 5, none⟩ = some (.slice A0_5 l0_5.length c0_5) ∧ w'.cell? ⟨gb735, 6, none⟩ = some (.slice A0_6 l0_6.length c0_6) ∧ w'.cell? ⟨gb740, 0, none⟩ = some (.int .i64 t738) ∧ w'.cell? ⟨gb740, 1, none⟩ = some (.int .i64 t739)) (ds := []) #[false, false, false, false, false, false, false] (by kernel_rfl) rfl rfl ⟨(blk_cell BK735.out 0).trans rfl, (blk_cell BK735.out 1).trans rfl, (blk_cell BK735.out 2).trans rfl, (blk_cell BK735.out 3).trans rfl, (blk_cell BK735.out 4).trans rfl, (blk_cell BK735.out 5).trans rfl, (blk_cell BK735.out 6).trans rfl, (blk_cell BK740.out 0).trans rfl, (blk_cell BK740.out 1).trans rfl⟩ (fun hHeld => ?_); generalize w18.drew = w19 at BK735 BK736 BK740 HB hHeld ⊢; refine take_y 0 (some 19) (bz 7 1) hHeld ?_; refine take_y 1 (some 20) (bz 7 3) hHeld ?_; refine take_y 3 (some 22) (bz 7 11) hHeld ?_; (refine one_y 2 (some 21) (bz 7 15) fun K hK => ?_); refine goes_x Try.func64 #[.agg #[.int .i64 a0_0, .int .i64 a0_1, .int .i64 a0_2, .slice A0_3 l0_3.length c0_3, .int .i64 a0_4, .slice A0_5 l0_5.length c0_5, .slice A0_6 l0_6.length c0_6], .agg #[.int .i64 t738, .int .i64 t739]] ?_
  with_reducible refine (ship_level.calls k a0_0 a0_1 a0_2 _ _ l0_3 a0_4 _ _ l0_5 _ _ l0_6 t738 t739 t741 _ ?side1 ?side2 ?side3 ?side4 ?side5 ?side6 A6.out).mono ?_
  (case side1 => exact Kd.C_x HR0_3.out HB.out)
  (case side2 => exact HC0_3.out)
  (case side3 => exact Kd.C_x HR0_5.out HB.out)
  (case side4 => exact HC0_5.out)
  (case side5 => exact Kd.C_x HR0_6.out HB.out)
  (case side6 => exact HC0_6.out)
  rintro e w20 ⟨rfl, hb⟩; refine ⟨_, rfl, ?_⟩; replace BK735 := bk_x BK735 hb; replace BK736 := bk_x BK736 hb; replace BK740 := bk_x BK740 hb; replace HB := bl_x HB hb
  (try clear hb)
  (try clear hb2)
  (try clear hk)
  (try clear hi)
  refine hK.out _ _ ⟨(blk_cell BK735.out 0).trans rfl, (blk_cell BK735.out 1).trans rfl, (blk_cell BK735.out 2).trans rfl, (blk_cell BK735.out 3).trans rfl, (blk_cell BK735.out 4).trans rfl, (blk_cell BK735.out 5).trans rfl, (blk_cell BK735.out 6).trans rfl, (blk_cell BK740.out 0).trans rfl, (blk_cell BK740.out 1).trans rfl⟩ (fun hHeld => ?_); clear hK K; refine norm_y (some 21) ?_; refine pure_y 4 (some 4) (bz 7 31) ?_; (refine one_y 5 (none) (bz 7 63) fun K hK => ?_); have hs21 : w20.cell? ⟨gb736, 0, none⟩ = some (.int .i64 0) := (blk_cell BK736.out 0).trans rfl; have hfs21 := blk_frozen BK736.out 0; have hns21_0 := NB735_736.out; have hns21_2 := NB740_736.out; have hms21_0 := NB736_735.out; have hms21_2 := NB736_740.out; have hs22 : w20.cell? ⟨gb736, 1, none⟩ = some (.int .i64 0) := (blk_cell BK736.out 1).trans rfl; have hfs22 := blk_frozen BK736.out 1; have hns22_0 := NB735_736.out; have hns22_2 := NB740_736.out; have hms22_0 := NB736_735.out; have hms22_2 := NB736_740.out; refine skip_ (w1 := ?_) (by rfl) rfl ?_ ?_; rotate_left
  ·
   go_simp
   rfl
  refine hK.out _ _ ⟨(cf2_y NB735_736.out hHeld.1), (cf2_y NB735_736.out hHeld.2.1), (cf2_y NB735_736.out hHeld.2.2.1), (cf2_y NB735_736.out hHeld.2.2.2.1), (cf2_y NB735_736.out hHeld.2.2.2.2.1), (cf2_y NB735_736.out hHeld.2.2.2.2.2.1), (cf2_y NB735_736.out hHeld.2.2.2.2.2.2.1), (cf2_y NB740_736.out hHeld.2.2.2.2.2.2.2.1), (cf2_y NB740_736.out hHeld.2.2.2.2.2.2.2.2)⟩ (fun hHeld => ?_); clear hK K; refine pure_y 6 (some 6) (bz 7 127) ?_; refine done_ (by kernel_rfl) ?_
  try go_wp2
  refine bodyPost_ret (results_list (rs := [.tmp 4, .cell 5 56, .tmp 6]) rfl (by simp) (.tmp (.cell gb736 56 #[.int .i64 t738, .int .i64 t739] (0, 0) _ rfl (blk_z BK736.out) Try.underlying56 rfl (by kernel_rfl) (.tmp .nil)))) rfl ?_; exact rt_y HB
 ·
  rw [if_neg c4] at H; have c4b0 : (t737 == 0) = false := beq_eq_false_iff_ne.mpr c4; have c4b1 : (t737 != 0) = true := bne_iff_ne.mpr c4; simp only [Option.some.injEq, Prod.mk.injEq] at H; obtain ⟨rfl, rfl, rfl, rfl⟩ := H; go_enter Try.func37, Try.ntmps37
  go_wp2_with (first | (refine box_r (N := 2) rfl (cs := #[.int .i64 a0_0, .int .i64 a0_1, .int .i64 a0_2, .slice A0_3 l0_3.length c0_3, .int .i64 a0_4, .slice A0_5 l0_5.length c0_5, .slice A0_6 l0_6.length c0_6]) (t := 26) ?_; intro gb735 hg w23 hbox hb; have BK735 := Aside0.mk (hbox); have GW735 := gw_x hg HB; have GE735 := GW735; replace HB := Aside0.mk (below_step (below_x HB.out) hb); clear hb hbox hg) | (refine box_r (N := 5) rfl (cs := #[.int .i64 0, .int .i64 0]) (t := 56) ?_; intro gb736 hg w24 hbox hb; have BK736 := Aside0.mk (hbox); have GW736 := gw_x hg HB; have GE736 := GW736; replace HB := bl_x HB hb; have NB735_736 := nb_x hg BK735; have NB736_735 := nb_y hg BK735; replace BK735 := bk_x BK735 hb; clear hb hbox hg; have hnb25 := NB735_736.out; have hnc25 := NB736_735.out; obtain ⟨hfz26_0, _, _, _, _, _, _, _⟩ := cf7 BK735) | (refine goesG_x 40 rfl (some 11) Try.func40 #[.agg #[.int .i64 a0_0, .int .i64 a0_1, .int .i64 a0_2, .slice A0_3 l0_3.length c0_3, .int .i64 a0_4, .slice A0_5 l0_5.length c0_5, .slice A0_6 l0_6.length c0_6], .slice A1 l1.length c1] ?_; (with_reducible refine (ship_CheckStowage.calls k a0_0 a0_1 a0_2 _ _ l0_3 a0_4 _ _ l0_5 _ _ l0_6 _ _ l1 t737 _ ?side1 ?side2 ?side3 ?side4 ?side5 ?side6 ?side7 ?side8 A3.out).mono ?_); (case side1 => exact Kd.C_x HR0_3.out HB.out); (case side2 => exact HC0_3.out); (case side3 => exact Kd.C_x HR0_5.out HB.out); (case side4 => exact HC0_5.out); (case side5 => exact Kd.C_x HR0_6.out HB.out); (case side6 => exact HC0_6.out); (case side7 => exact Kd.C_x HR1.out HB.out); (case side8 => exact HC1.out); rintro e w27 ⟨rfl, hb⟩; refine ⟨_, rfl, ?_⟩; replace BK735 := bk_x BK735 hb; replace BK736 := bk_x BK736 hb; replace HB := bl_x HB hb; (try clear hb); (try clear hk); (try clear hi); obtain ⟨hfz28_0, _, _⟩ := cf2 BK736))
  refine bodyPost_ret (results_list (rs := [.tmp 4, .cell 5 56, .tmp 6]) rfl (by simp) (.tmp (.cell gb736 56 #[.int .i64 0, .int .i64 0] (0, 0) _ rfl (blk_z BK736.out) Try.underlying56 rfl (by kernel_rfl) (.tmp .nil)))) rfl ?_; exact rt_y HB
end Go.Proofs.Ytodmemndaaiolaa.PC7
namespace Go.Proofs.Ytodmemndaaiolaa.PC7
set_option linter.unusedVariables false
set_option linter.unusedSimpArgs false
open Go.RowKit Go.Proofs.YtodmemndaaiolaaW.PrintWords Go.Proofs.YtodmemndaaiolaaW.PrintLast Go.Proofs.YtodmemndaaiolaaW.PrintMore
def ldS (h : S85) (t : S56) (q : Q4) : Q4 := ⟨q.b0 + t.f0 * h.f1, q.b1 + t.f0 * h.f2, q.h0 + t.f1 * h.f1, q.h1 + t.f1 * h.f2⟩
def ldL (holds : List S85) (lots : List S79) : Nat → List Int → Q4 → Q4
  | _, [], q => q
  | i, a :: r, q => ldL holds lots (i + 1) r (if a < 0 then q else ldS (holds.getD a.toNat z85) (lots.getD i z79).f0 q)
def apS (h : S85) (t : S56) (x : Int × Int) : Int × Int := (x.1 + min (t.f0 * (h.f1 - h.f2)) (t.f1 * (h.f1 - h.f2)), x.2 + max (t.f0 * (h.f1 - h.f2)) (t.f1 * (h.f1 - h.f2)))
def apL (holds : List S85) (lots : List S79) : Nat → List Int → Int × Int → Int × Int
  | _, [], x => x
  | i, a :: r, x => apL holds lots (i + 1) r (if a < 0 then x else apS (holds.getD a.toNat z85) (lots.getD i z79).f0 x)
def q0 (L : Int) : Q4 := ⟨1000 * L, 1000 * L, 1000 * L, 1000 * L⟩
theorem mn_min (a b : Int) : mn a b = min a b := by
  unfold mn
  by_cases h : b < a
  · rw [if_pos h]; omega
  · rw [if_neg h]; omega
theorem mul_bd2 {a b A B : Int} (h0 : 0 ≤ a) (h1 : a ≤ A) (h2 : -B ≤ b) (h3 : b ≤ B) (hB : 0 ≤ B) : -(A * B) ≤ a * b ∧ a * b ≤ A * B := by
  have k1 := Int.mul_le_mul_of_nonneg_left h3 h0
  have k2 := Int.mul_le_mul_of_nonneg_left h2 h0
  have k3 := Int.mul_le_mul_of_nonneg_right h1 hB
  rw [Int.mul_neg] at k2
  exact ⟨by omega, by omega⟩
def roomOK (holds : List S85) (lots : List S79) (s : List Int) : Prop := ∀ h : Nat, h < holds.length → used lots h 0 s ≤ (holds.getD h z85).f0
def wayL (U V : Int) (sills : List S59) (q : Q4) (soon : Bool) : List Int := sailL (sills.map (plainS soon)) V (max (if soon then q.b0 else q.h0) (if soon then q.b1 else q.h1) + 1000 * U)
structure Told (L U R : Int) (holds : List S85) (V : Int) (sills : List S59) (lots : List S79) (s : List Int) (q : Q4) (x : Int × Int) : Prop where
  qe : q = ldL holds lots 0 s (q0 L)
  xe : x = apL holds lots 0 s (0, 0)
  qok : QOK 10000000000 q
  xok : -1500000000 ≤ x.1 ∧ x.1 ≤ x.2 ∧ x.2 ≤ 1500000000
  le : (wayL U V sills q false).length ≤ (wayL U V sills q true).length
  top : (wayL U V sills q true).length ≤ sills.length
  good : goodB L U R holds V sills lots s = true ↔ (roomOK holds lots s ∧ max x.2 (-x.1) ≤ 1000 * R ∧ (wayL U V sills q false).length = sills.length)
  drafts : roomOK holds lots s → ship_Drafts.f L U R holds V sills lots s = some (q.b0, q.h0, q.b1, q.h1, 0)
  level : roomOK holds lots s → Ev (fun k => ship_Level.f k L U R holds V sills lots s) (decide (max x.2 (-x.1) ≤ 1000 * R), x.1, x.2, 0)
  sail : roomOK holds lots s → ship_Sail.f L U R holds V sills lots s = some (verdictE sills.length (wayL U V sills q true) (wayL U V sills q false), overE (wayL U V sills q true) (wayL U V sills q false), 0)
end Go.Proofs.Ytodmemndaaiolaa.PC7
