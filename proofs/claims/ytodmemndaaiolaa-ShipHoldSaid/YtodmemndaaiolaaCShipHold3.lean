/- Lemmas on the way to this: with a hold more, or a larger one, the worth of Best is no less -/
import Derived.Test.YtodmemndaaiolaaCShipHold1
import Derived.Test.YtodmemndaaiolaaCShipHold2
import Derived.Outline
import Derived.RegionTactic
import Derived.BigRegion
import Derived.ChangeAlike
import Derived.Deep.DeepCutAuto
import Derived.Deep.CutRange
import Derived.RangeFuncNested
import Derived.RangeFuncBound
import Derived.RangeFuncCalls
import Derived.RangeFuncLeaves
import Derived.Shelf.Abstract
import Derived.Shelf.RegionOpen
import Derived.OwnWalkIn
import Derived.TacticsInMore
import Derived.LoopNIn
import Derived.LoopIn
import Derived.WalkMore
import Derived.Laws.CopyOwn
import Derived.Laws.MakeOwn
import Derived.Lib.SliceRun
import Derived.BigQuiet
import Derived.Deep.LoopGhost
import Derived.OrdersIn
import Derived.TacticsIn
namespace Go.Proofs.Ytodmemndaaiolaa.PC7
set_option linter.unusedVariables false
set_option linter.unusedSimpArgs false
open Go.RowKit Go.Proofs.YtodmemndaaiolaaW.PrintWords Go.Proofs.YtodmemndaaiolaaW.PrintLast Go.Proofs.YtodmemndaaiolaaW.PrintMore
def copyOK (holds : List S85) (sills : List S59) (lots : List S79) : Prop := holds.length ≤ 100000 ∧ lots.length ≤ 100000 ∧ lensOK sills
instance (holds : List S85) (sills : List S59) (lots : List S79) : Decidable (copyOK holds sills lots) := by unfold copyOK; infer_instance
def swarfkit_CopyVoyage.f (a0_0 : Int) (a0_1 : Int) (a0_2 : Int) (l0_3 : List (S85)) (a0_4 : Int) (l0_5 : List (S59)) (l0_6 : List (S79)) : Option (Int × Int × Int × (List (S85)) × Int × (List (S59)) × (List (S79))) :=
  if copyOK l0_3 l0_5 l0_6 then some (a0_0, a0_1, a0_2, l0_3, a0_4, l0_5, l0_6) else none
set_option maxHeartbeats 8000000 in
set_option maxRecDepth 100000 in
theorem copy_calls (x : VoyV) (w : World) (hx : x.Ok w) (hn : copyOK x.holds x.sills x.lots) :
    Calls Try.prog 20 #[.agg #[.int .i64 x.light, .int .i64 x.under, .int .i64 x.trim, .slice x.A3 x.holds.length x.c3, .int .i64 x.leaves, .slice x.A5 x.sills.length x.c5, .slice x.A6 x.lots.length x.c6]] w fun e w' => ∃ v3_ v5_ v6_ : Value, e = .returned (.agg #[.int .i64 x.light, .int .i64 x.under, .int .i64 x.trim, v3_, .int .i64 x.leaves, v5_, v6_]) ∧ Kd.R k85 85 w' w.heap.size (fun _ => True) v3_ x.holds ∧ Kd.S k59 59 w' w.heap.size (fun _ => True) v5_ x.sills ∧ Kd.R k79 79 w' w.heap.size (fun _ => True) v6_ x.lots ∧ Below w.heap.size w w' := by
  have hu26 := Try.underlying26
  have hu23 := Try.underlying23
  have hu59 := Try.underlying59
  obtain ⟨hn1, hn2, hn3⟩ := hn
  have HX := Aside0.mk hx
  have HL := Aside0.mk (SailLens.of hn3)
  have hsl : x.sills.length ≤ 100000 := HL.out.s
  have hcc5 := hx.sc
  obtain ⟨A5, hA5⟩ : ∃ A5, A5 = x.A5 := ⟨_, rfl⟩
  have hs5 := hx.s
  rw [← hA5] at hs5 ⊢
  have HS5 := Aside0.mk hs5
  clear hx hA5 hs5 hn3
  go_enter Try.func20, Try.ntmps20
  go_upto_region 2 with (first
    | ((with_reducible refine gate_dst (N := 1) rfl ?_); refine box_event ?hg (N := 1) ?hd (cs := #[.int .i64 x.light, .int .i64 x.under, .int .i64 x.trim, .slice x.A3 x.holds.length x.c3, .int .i64 x.leaves, .slice A5 x.sills.length x.c5, .slice x.A6 x.lots.length x.c6]) (t := 26) ?hr ?_; (case hd => rfl); (case hg => rfl); (case hr => first | (go_simp; done) | (go_simp; rfl)); intro gb hg w2 hbox hb; have BK := Aside0.mk hbox; have GEb : Aside0 (w.heap.size ≤ gb) := ⟨by rw [hg]; exact Nat.le_refl _⟩; have HB := Aside0.mk hb; have hz3_ := (blk_cell BK.out 3).trans rfl; have hz5_ := (blk_cell BK.out 5).trans rfl; have hz6_ := (blk_cell BK.out 6).trans rfl; clear hg hbox hb)
    | ((with_reducible refine gate_dst (N := 2) rfl ?_); refine box_event ?hg (N := 2) ?hd (cs := #[.int .i64 0, .int .i64 0, .int .i64 0, .slice none 0 0, .int .i64 0, .slice none 0 0, .slice none 0 0]) (t := 26) ?hr ?_; (case hd => rfl); (case hg => rfl); (case hr => first | (go_simp; done) | (go_simp; rfl)); intro ge hg w3 hbox hb; have BE := Aside0.mk hbox; have NBE : Aside0 (gb ≠ ge) := ⟨by have := blk_lt BK.out; omega⟩; replace BK := Aside0.mk (blk_below BK.out hb); have GEe : Aside0 (w.heap.size ≤ ge) := ⟨by rw [hg]; exact HB.out.size⟩; replace HB := Aside0.mk (below_step HB.out hb); clear hz3_ hz5_ hz6_; have hz3_ := (blk_cell BK.out 3).trans rfl; have hz5_ := (blk_cell BK.out 5).trans rfl; have hz6_ := (blk_cell BK.out 6).trans rfl; clear hg hbox hb))
  have hd_ := below_drew1 (Below.refl w3.heap.size w3)
  replace BK := Aside0.mk (blk_drew BK.out)
  replace BE := Aside0.mk (blk_drew BE.out)
  replace HB := Aside0.mk (below_step HB.out hd_)
  clear hd_
  refine start_ (n := 14) (S := fun w' => w'.cell? ⟨gb, 3, none⟩ = some (.slice x.A3 x.holds.length x.c3) ∧ w'.cell? ⟨gb, 6, none⟩ = some (.slice x.A6 x.lots.length x.c6)) (ds := [9, 11, 13]) #[false, false, false, false, false, false, false, false, false, false, false, false, false, false] (by kernel_rfl) rfl rfl ⟨hz3_, hz6_⟩ (fun hHeld => ?_)
  generalize w3.drew = wd at BK BE HB hHeld ⊢
  refine pure_ (i := 1) (N := some 8) (v := ?_) (a' := ?_) #[false, true, false, false, false, false, false, false, false, false, false, false, false, false] rfl rfl (by kernel_rfl) (fun _ _ _ h => h) (Or.inl ⟨by rfl, ?_⟩) ?_ ?_
  rotate_left
  · intro w'
    go_simp
    with_reducible rfl
  rotate_left
  · simp only [Act.put, List.setIfInBounds_toArray, List.set_cons_zero, List.set_cons_succ, i64_w, i32_w]
    rfl
  refine pure_ (i := 5) (N := some 12) (v := ?_) (a' := ?_) #[false, true, false, false, false, true, false, false, false, false, false, false, false, false] rfl rfl (by kernel_rfl) (fun _ _ _ h => h) (Or.inl ⟨by rfl, ?_⟩) ?_ ?_
  rotate_left
  · intro w'
    go_simp
    with_reducible rfl
  rotate_left
  · simp only [Act.put, List.setIfInBounds_toArray, List.set_cons_zero, List.set_cons_succ, i64_w, i32_w]
    rfl
  refine take_ (i := 2) (N := some 9) (v := ?_) (a' := ?_) #[false, true, true, false, false, true, false, false, false, false, false, false, false, false] rfl rfl (by kernel_rfl) (fun _ _ _ h => h) (Or.inl ⟨by rfl, ?_⟩) hHeld ?_ ?_
  rotate_left
  · rintro w' ⟨s0, s1⟩
    go_simp
    with_reducible rfl
  rotate_left
  · simp only [Act.put, List.setIfInBounds_toArray, List.set_cons_zero, List.set_cons_succ, i64_w, i32_w]
    rfl
  refine take_ (i := 6) (N := some 13) (v := ?_) (a' := ?_) #[false, true, true, false, false, true, true, false, false, false, false, false, false, false] rfl rfl (by kernel_rfl) (fun _ _ _ h => h) (Or.inl ⟨by rfl, ?_⟩) hHeld ?_ ?_
  rotate_left
  · rintro w' ⟨s0, s1⟩
    go_simp
    with_reducible rfl
  rotate_left
  · simp only [Act.put, List.setIfInBounds_toArray, List.set_cons_zero, List.set_cons_succ, i64_w, i32_w]
    rfl
  refine join_ (σ := Value × Value × Value) 6 #[true, true, true, true, true, true, true, false, true, false, false, false, false, false] (fun s_ => [(7, s_.1), (10, s_.2.1), (11, s_.2.2), (15, .pointer (some ⟨gb, 3, none⟩))]) (fun s_ w' => (w'.cell? ⟨gb, 3, none⟩ = some (.slice x.A3 x.holds.length x.c3) ∧ w'.cell? ⟨gb, 6, none⟩ = some (.slice x.A6 x.lots.length x.c6)) ∧ Aside0 (Kd.R k85 85 w' wd.heap.size (fun _ => True) s_.2.1 x.holds) ∧ Aside0 (Kd.R k79 79 w' wd.heap.size (fun _ => True) s_.2.2 []) ∧ Aside0 (Below wd.heap.size wd w')) ?_ ?_
  rotate_left
  · intro hCont
    refine two_ (i := 0) (j := 4) (Ni := some 7) (Nj := some 11) #[true, true, true, false, false, true, true, false, false, false, false, false, false, false] #[false, true, true, false, true, true, true, false, false, false, false, false, false, false] rfl rfl rfl rfl (by kernel_rfl) (by decide) (by decide) (fun K hK => ?_) (fun K hK => ?_)
    · skip
      have HBd := Aside0.mk (Below.refl wd.heap.size wd)
      refine Kd.R_lit_step k85 _ 85 ?hg (N := 7) ?hd (xs := ([] : List S85)) (inner := []) (ok := fun _ => True) (okp := fun _ => True) ?hr ?hp (fun _ hk => hk) trivial (Below.refl _ _) (Nat.le_refl _) (by simp) ?_; (case hd => rfl); (case hg => rfl); (case hr => first | (go_simp; done) | (go_simp; rfl)); (case hp => exact (Reps.none _ _))
      intro v7 wq0 ho_ hb_ hg_ hnew_
      clear hg_ hnew_
      have R7 := Aside0.mk (Kd.R_lower ho_ HBd.out.size)
      replace HBd := Aside0.mk (below_step HBd.out hb_)
      clear ho_ hb_
      refine hK.out _ _ ⟨(HBd.out.cell (blk_lt BK.out)).trans ((blk_cell BK.out 3).trans rfl), (HBd.out.cell (blk_lt BK.out)).trans ((blk_cell BK.out 6).trans rfl)⟩ (fun hHeld => ?_)
      clear hK K
      refine norm_ (a' := ?_) ?_ ?_
      rotate_left
      · show Act.put _ (some 7) _ = _
        simp only [Act.put, List.setIfInBounds_toArray, List.set_cons_zero, List.set_cons_succ, i64_w, i32_w]
        rfl
      refine two_ (i := 3) (j := 4) (Ni := some 10) (Nj := some 11) #[true, true, true, true, false, true, true, false, false, false, false, false, false, false] #[true, true, true, false, true, true, true, false, false, false, false, false, false, false] rfl rfl rfl rfl (by kernel_rfl) (by decide) (by decide) (fun K hK => ?_) (fun K hK => ?_)
      · skip
        refine Kd.R_append_rows_step k85 (w0 := wd) wd.heap.size (by rfl) (.tmp 7) (.tmp 9) 22 85 (.agg #[(.int .i64 0), (.int .i64 0), (.int .i64 0)]) 24 rfl Try.underlying22 info85 rfl (by decide) (by omega) v7 [] x.holds x.A3 _ x.c3 (fun _ => True) (fun _ => False) rfl rfl ?aO ?aR (fun _ _ h => h) (fun _ h => h.elim) ?aF ?aB ?aS ?aL ?_
        (case aR => exact (Kd.C_below (Kd.C_below HX.out.h HB.out) HBd.out))
        (case aB => exact HBd.out)
        (case aF => exact (fun _ _ => trivial))
        (case aO => exact R7.out)
        (case aS => exact HBd.out.size)
        (case aL => simp only [List.length_nil]; omega)
        intro v10 wq1 ho_ hb_ hg_ hat_
        rw [List.nil_append] at ho_
        have R10 := Aside0.mk ho_
        replace HBd := Aside0.mk hb_
        clear ho_ hb_ hg_ hat_ R7
        refine hK.out _ _ ⟨(HBd.out.cell (blk_lt BK.out)).trans ((blk_cell BK.out 3).trans rfl), (HBd.out.cell (blk_lt BK.out)).trans ((blk_cell BK.out 6).trans rfl)⟩ (fun hHeld => ?_)
        clear hK K
        refine norm_ (a' := ?_) ?_ ?_
        rotate_left
        · show Act.put _ (some 10) _ = _
          simp only [Act.put, List.setIfInBounds_toArray, List.set_cons_zero, List.set_cons_succ, i64_w, i32_w]
          rfl
        refine pure_ (i := 8) (N := some 15) (v := ?_) (a' := ?_) #[true, true, true, true, false, true, true, false, true, false, false, false, false, false] rfl rfl (by kernel_rfl) (fun _ _ _ h => h) (Or.inl ⟨by rfl, ?_⟩) ?_ ?_
        rotate_left
        · intro w'
          go_simp
          with_reducible rfl
        rotate_left
        · simp only [Act.put, List.setIfInBounds_toArray, List.set_cons_zero, List.set_cons_succ, i64_w, i32_w]
          rfl
        refine one_ (i := 4) (N := some 11) #[true, true, true, true, true, true, true, false, true, false, false, false, false, false] rfl rfl (by kernel_rfl) (by decide) (fun K hK => ?_)
        refine Kd.R_lit_step k79 _ 79 ?hg (N := 11) ?hd (xs := ([] : List S79)) (inner := []) (ok := fun _ => True) (okp := fun _ => True) ?hr ?hp (fun _ hk => hk) trivial (Below.refl _ _) (Nat.le_refl _) (by simp) ?_; (case hd => rfl); (case hg => rfl); (case hr => first | (go_simp; done) | (go_simp; rfl)); (case hp => exact (Reps.none _ _))
        intro v11 wq2 ho_ hb_ hg_ hnew_
        clear hg_ hnew_
        have R11 := Aside0.mk (Kd.R_lower ho_ HBd.out.size)
        replace R10 := Aside0.mk (Kd.R_below R10.out hb_)
        replace HBd := Aside0.mk (below_step HBd.out hb_)
        clear ho_ hb_
        refine hK.out _ _ ⟨(HBd.out.cell (blk_lt BK.out)).trans ((blk_cell BK.out 3).trans rfl), (HBd.out.cell (blk_lt BK.out)).trans ((blk_cell BK.out 6).trans rfl)⟩ (fun hHeld => ?_)
        clear hK K
        refine norm_ (a' := ?_) ?_ ?_
        rotate_left
        · show Act.put _ (some 11) _ = _
          simp only [Act.put, List.setIfInBounds_toArray, List.set_cons_zero, List.set_cons_succ, i64_w, i32_w]
          rfl
        exact norm_ (by simp only [putAll, Act.put, List.setIfInBounds_toArray, List.set_cons_zero, List.set_cons_succ]) (hCont (v7, v10, v11) _ ⟨hHeld, R10, R11, HBd⟩)
      · skip
        refine Kd.R_lit_step k79 _ 79 ?hg (N := 11) ?hd (xs := ([] : List S79)) (inner := []) (ok := fun _ => True) (okp := fun _ => True) ?hr ?hp (fun _ hk => hk) trivial (Below.refl _ _) (Nat.le_refl _) (by simp) ?_; (case hd => rfl); (case hg => rfl); (case hr => first | (go_simp; done) | (go_simp; rfl)); (case hp => exact (Reps.none _ _))
        intro v11 wq1 ho_ hb_ hg_ hnew_
        clear hg_ hnew_
        have R11 := Aside0.mk (Kd.R_lower ho_ HBd.out.size)
        replace R7 := Aside0.mk (Kd.R_below R7.out hb_)
        replace HBd := Aside0.mk (below_step HBd.out hb_)
        clear ho_ hb_
        refine hK.out _ _ ⟨(HBd.out.cell (blk_lt BK.out)).trans ((blk_cell BK.out 3).trans rfl), (HBd.out.cell (blk_lt BK.out)).trans ((blk_cell BK.out 6).trans rfl)⟩ (fun hHeld => ?_)
        clear hK K
        refine norm_ (a' := ?_) ?_ ?_
        rotate_left
        · show Act.put _ (some 11) _ = _
          simp only [Act.put, List.setIfInBounds_toArray, List.set_cons_zero, List.set_cons_succ, i64_w, i32_w]
          rfl
        refine one_ (i := 3) (N := some 10) #[true, true, true, true, true, true, true, false, false, false, false, false, false, false] rfl rfl (by kernel_rfl) (by decide) (fun K hK => ?_)
        refine Kd.R_append_rows_step k85 (w0 := wd) wd.heap.size (by rfl) (.tmp 7) (.tmp 9) 22 85 (.agg #[(.int .i64 0), (.int .i64 0), (.int .i64 0)]) 24 rfl Try.underlying22 info85 rfl (by decide) (by omega) v7 [] x.holds x.A3 _ x.c3 (fun _ => True) (fun _ => False) rfl rfl ?aO ?aR (fun _ _ h => h) (fun _ h => h.elim) ?aF ?aB ?aS ?aL ?_
        (case aR => exact (Kd.C_below (Kd.C_below HX.out.h HB.out) HBd.out))
        (case aB => exact HBd.out)
        (case aF => exact (fun _ _ => trivial))
        (case aO => exact R7.out)
        (case aS => exact HBd.out.size)
        (case aL => simp only [List.length_nil]; omega)
        intro v10 wq2 ho_ hb_ hg_ hat_
        rw [List.nil_append] at ho_
        have R10 := Aside0.mk ho_
        replace R11 := Aside0.mk (Kd.R_over' R11.out (Kd.R_typed R7.out) (by decide) hg_)
        replace HBd := Aside0.mk hb_
        clear ho_ hb_ hg_ hat_ R7
        refine hK.out _ _ ⟨(HBd.out.cell (blk_lt BK.out)).trans ((blk_cell BK.out 3).trans rfl), (HBd.out.cell (blk_lt BK.out)).trans ((blk_cell BK.out 6).trans rfl)⟩ (fun hHeld => ?_)
        clear hK K
        refine norm_ (a' := ?_) ?_ ?_
        rotate_left
        · show Act.put _ (some 10) _ = _
          simp only [Act.put, List.setIfInBounds_toArray, List.set_cons_zero, List.set_cons_succ, i64_w, i32_w]
          rfl
        refine pure_ (i := 8) (N := some 15) (v := ?_) (a' := ?_) #[true, true, true, true, true, true, true, false, true, false, false, false, false, false] rfl rfl (by kernel_rfl) (fun _ _ _ h => h) (Or.inl ⟨by rfl, ?_⟩) ?_ ?_
        rotate_left
        · intro w'
          go_simp
          with_reducible rfl
        rotate_left
        · simp only [Act.put, List.setIfInBounds_toArray, List.set_cons_zero, List.set_cons_succ, i64_w, i32_w]
          rfl
        exact norm_ (by simp only [putAll, Act.put, List.setIfInBounds_toArray, List.set_cons_zero, List.set_cons_succ]) (hCont (v7, v10, v11) _ ⟨hHeld, R10, R11, HBd⟩)
    · skip
      have HBd := Aside0.mk (Below.refl wd.heap.size wd)
      refine Kd.R_lit_step k79 _ 79 ?hg (N := 11) ?hd (xs := ([] : List S79)) (inner := []) (ok := fun _ => True) (okp := fun _ => True) ?hr ?hp (fun _ hk => hk) trivial (Below.refl _ _) (Nat.le_refl _) (by simp) ?_; (case hd => rfl); (case hg => rfl); (case hr => first | (go_simp; done) | (go_simp; rfl)); (case hp => exact (Reps.none _ _))
      intro v11 wq0 ho_ hb_ hg_ hnew_
      clear hg_ hnew_
      have R11 := Aside0.mk (Kd.R_lower ho_ HBd.out.size)
      replace HBd := Aside0.mk (below_step HBd.out hb_)
      clear ho_ hb_
      refine hK.out _ _ ⟨(HBd.out.cell (blk_lt BK.out)).trans ((blk_cell BK.out 3).trans rfl), (HBd.out.cell (blk_lt BK.out)).trans ((blk_cell BK.out 6).trans rfl)⟩ (fun hHeld => ?_)
      clear hK K
      refine norm_ (a' := ?_) ?_ ?_
      rotate_left
      · show Act.put _ (some 11) _ = _
        simp only [Act.put, List.setIfInBounds_toArray, List.set_cons_zero, List.set_cons_succ, i64_w, i32_w]
        rfl
      refine one_ (i := 0) (N := some 7) #[true, true, true, false, true, true, true, false, false, false, false, false, false, false] rfl rfl (by kernel_rfl) (by decide) (fun K hK => ?_)
      refine Kd.R_lit_step k85 _ 85 ?hg (N := 7) ?hd (xs := ([] : List S85)) (inner := []) (ok := fun _ => True) (okp := fun _ => True) ?hr ?hp (fun _ hk => hk) trivial (Below.refl _ _) (Nat.le_refl _) (by simp) ?_; (case hd => rfl); (case hg => rfl); (case hr => first | (go_simp; done) | (go_simp; rfl)); (case hp => exact (Reps.none _ _))
      intro v7 wq1 ho_ hb_ hg_ hnew_
      clear hg_ hnew_
      have R7 := Aside0.mk (Kd.R_lower ho_ HBd.out.size)
      replace R11 := Aside0.mk (Kd.R_below R11.out hb_)
      replace HBd := Aside0.mk (below_step HBd.out hb_)
      clear ho_ hb_
      refine hK.out _ _ ⟨(HBd.out.cell (blk_lt BK.out)).trans ((blk_cell BK.out 3).trans rfl), (HBd.out.cell (blk_lt BK.out)).trans ((blk_cell BK.out 6).trans rfl)⟩ (fun hHeld => ?_)
      clear hK K
      refine norm_ (a' := ?_) ?_ ?_
      rotate_left
      · show Act.put _ (some 7) _ = _
        simp only [Act.put, List.setIfInBounds_toArray, List.set_cons_zero, List.set_cons_succ, i64_w, i32_w]
        rfl
      refine one_ (i := 3) (N := some 10) #[true, true, true, true, true, true, true, false, false, false, false, false, false, false] rfl rfl (by kernel_rfl) (by decide) (fun K hK => ?_)
      refine Kd.R_append_rows_step k85 (w0 := wd) wd.heap.size (by rfl) (.tmp 7) (.tmp 9) 22 85 (.agg #[(.int .i64 0), (.int .i64 0), (.int .i64 0)]) 24 rfl Try.underlying22 info85 rfl (by decide) (by omega) v7 [] x.holds x.A3 _ x.c3 (fun _ => True) (fun _ => False) rfl rfl ?aO ?aR (fun _ _ h => h) (fun _ h => h.elim) ?aF ?aB ?aS ?aL ?_
      (case aR => exact (Kd.C_below (Kd.C_below HX.out.h HB.out) HBd.out))
      (case aB => exact HBd.out)
      (case aF => exact (fun _ _ => trivial))
      (case aO => exact R7.out)
      (case aS => exact HBd.out.size)
      (case aL => simp only [List.length_nil]; omega)
      intro v10 wq2 ho_ hb_ hg_ hat_
      rw [List.nil_append] at ho_
      have R10 := Aside0.mk ho_
      replace R11 := Aside0.mk (Kd.R_over' R11.out (Kd.R_typed R7.out) (by decide) hg_)
      replace HBd := Aside0.mk hb_
      clear ho_ hb_ hg_ hat_ R7
      refine hK.out _ _ ⟨(HBd.out.cell (blk_lt BK.out)).trans ((blk_cell BK.out 3).trans rfl), (HBd.out.cell (blk_lt BK.out)).trans ((blk_cell BK.out 6).trans rfl)⟩ (fun hHeld => ?_)
      clear hK K
      refine norm_ (a' := ?_) ?_ ?_
      rotate_left
      · show Act.put _ (some 10) _ = _
        simp only [Act.put, List.setIfInBounds_toArray, List.set_cons_zero, List.set_cons_succ, i64_w, i32_w]
        rfl
      refine pure_ (i := 8) (N := some 15) (v := ?_) (a' := ?_) #[true, true, true, true, true, true, true, false, true, false, false, false, false, false] rfl rfl (by kernel_rfl) (fun _ _ _ h => h) (Or.inl ⟨by rfl, ?_⟩) ?_ ?_
      rotate_left
      · intro w'
        go_simp
        with_reducible rfl
      rotate_left
      · simp only [Act.put, List.setIfInBounds_toArray, List.set_cons_zero, List.set_cons_succ, i64_w, i32_w]
        rfl
      exact norm_ (by simp only [putAll, Act.put, List.setIfInBounds_toArray, List.set_cons_zero, List.set_cons_succ]) (hCont (v7, v10, v11) _ ⟨hHeld, R10, R11, HBd⟩)
  rintro ⟨v7, v10, v11⟩ wj ⟨hHeld, R10, R11, HBd⟩
  obtain ⟨A10, c10, hv10_⟩ := Kd.R_slice R10.out
  dsimp only at R10 R11 hv10_ ⊢
  subst hv10_
  refine norm_ (a' := ?_) ?_ ?_
  rotate_left
  · simp only [putAll, Act.put, List.setIfInBounds_toArray, List.set_cons_zero, List.set_cons_succ]
    rfl
  refine one_ (i := 7) (N := some 14) #[true, true, true, true, true, true, true, true, true, false, false, false, false, false] rfl rfl (by kernel_rfl) (by decide) (fun K hK => ?_)
  refine Kd.R_append_rows_step k79 (w0 := wd) wd.heap.size (by rfl) (.tmp 11) (.tmp 13) 24 79 (.agg #[(.int .i64 0), (.int .i64 0), (.int .i64 0)]) 24 rfl Try.underlying24 info79 rfl (by decide) (by omega) v11 [] x.lots x.A6 _ x.c6 (fun _ => True) (fun _ => False) rfl rfl ?aO ?aR (fun _ _ h => h) (fun _ h => h.elim) ?aF ?aB ?aS ?aL ?_
  (case aR => exact (Kd.C_below (Kd.C_below HX.out.l HB.out) HBd.out))
  (case aB => exact HBd.out)
  (case aF => exact (fun _ _ => trivial))
  (case aO => exact R11.out)
  (case aS => exact HBd.out.size)
  (case aL => simp only [List.length_nil]; omega)
  intro v14 w4 ho_ hb_ hg_ hat_
  rw [List.nil_append] at ho_
  obtain ⟨A14, c14, rfl⟩ := Kd.R_slice ho_
  have R14 := Aside0.mk ho_
  replace R10 := Aside0.mk (Kd.R_over' R10.out (Kd.R_typed R11.out) (by decide) hg_)
  have BK4 := Aside0.mk (blk_below BK.out hb_)
  have BE4 := Aside0.mk (blk_below BE.out hb_)
  replace HBd := Aside0.mk hb_
  clear ho_ hb_ hg_ hat_ R11
  refine hK.out _ _ ⟨(HBd.out.cell (blk_lt BK.out)).trans ((blk_cell BK.out 3).trans rfl), (HBd.out.cell (blk_lt BK.out)).trans ((blk_cell BK.out 6).trans rfl)⟩ (fun hHeld => ?_)
  clear hK K
  refine norm_ (a' := ?_) ?_ ?_
  rotate_left
  · show Act.put _ (some 14) _ = _
    simp only [Act.put, List.setIfInBounds_toArray, List.set_cons_zero, List.set_cons_succ, i64_w, i32_w]
    rfl
  refine last_ (i := 9) (N := none) #[true, true, true, true, true, true, true, true, true, true, false, false, false, false] rfl rfl (by kernel_rfl) (by decide) (fun K hK => ?_)
  have hy0_ := (blk_cell BK4.out 3).trans rfl
  have hf_ := blk_frozen BK4.out
  refine skip_ (w1 := ?_) (by rfl) rfl ?_ ?_
  rotate_left
  · (go_simp; rfl)
  clear hy0_ hf_
  refine hK.out _ _ ?_
  clear hK K
  refine pure_ (i := 10) (N := some 16) (v := ?_) (a' := ?_) #[true, true, true, true, true, true, true, true, true, true, true, false, false, false] rfl rfl (by kernel_rfl) (fun _ _ _ h => h) (Or.inl ⟨by rfl, ?_⟩) ?_ ?_
  rotate_left
  · intro w'
    go_simp
    with_reducible rfl
  rotate_left
  · simp only [Act.put, List.setIfInBounds_toArray, List.set_cons_zero, List.set_cons_succ, i64_w, i32_w]
    rfl
  refine last_ (i := 11) (N := none) #[true, true, true, true, true, true, true, true, true, true, true, true, false, false] rfl rfl (by kernel_rfl) (by decide) (fun K hK => ?_)
  have BK5 := Aside0.mk (blk_put (cs' := #[.int .i64 x.light, .int .i64 x.under, .int .i64 x.trim, .slice A10 x.holds.length c10, .int .i64 x.leaves, .slice A5 x.sills.length x.c5, .slice x.A6 x.lots.length x.c6]) BK4.out 3 (.slice A10 x.holds.length c10) rfl)
  have hy0_ := (blk_cell BK5.out 6).trans rfl
  have hf_ := blk_frozen BK5.out
  refine skip_ (w1 := ?_) (by rfl) rfl ?_ ?_
  rotate_left
  · (go_simp; rfl)
  clear hy0_ hf_
  refine hK.out _ _ ?_
  clear hK K
  refine pure_ (i := 12) (N := some 17) (v := ?_) (a' := ?_) #[true, true, true, true, true, true, true, true, true, true, true, true, true, false] rfl rfl (by kernel_rfl) (fun _ _ _ h => h) (Or.inl ⟨by rfl, ?_⟩) ?_ ?_
  rotate_left
  · intro w'
    go_simp
    with_reducible rfl
  rotate_left
  · simp only [Act.put, List.setIfInBounds_toArray, List.set_cons_zero, List.set_cons_succ, i64_w, i32_w]
    rfl
  refine last_ (i := 13) (N := none) #[true, true, true, true, true, true, true, true, true, true, true, true, true, true] rfl rfl (by kernel_rfl) (by decide) (fun K hK => ?_)
  have BK6 := Aside0.mk (blk_put (cs' := #[.int .i64 x.light, .int .i64 x.under, .int .i64 x.trim, .slice A10 x.holds.length c10, .int .i64 x.leaves, .slice A5 x.sills.length x.c5, .slice A14 x.lots.length c14]) BK5.out 6 (.slice A14 x.lots.length c14) rfl)
  have hy0_ := (blk_cell BK6.out 5).trans rfl
  have hf_ := blk_frozen BK6.out
  refine skip_ (w1 := ?_) (by rfl) rfl ?_ ?_
  rotate_left
  · (go_simp; rfl)
  clear hy0_ hf_
  refine hK.out _ _ ?_
  clear hK K
  refine done_ (by kernel_rfl) ?_
  clear hHeld hz3_ hz5_ hz6_
  have BK7 := Aside0.mk (blk_put (cs' := #[.int .i64 x.light, .int .i64 x.under, .int .i64 x.trim, .slice A10 x.holds.length c10, .int .i64 x.leaves, .slice none 0 0, .slice A14 x.lots.length c14]) BK6.out 5 (.slice none 0 0) rfl)
  have BE7 := Aside0.mk (blk_far (blk_far (blk_far BE4.out (p := ⟨gb, 3, none⟩) NBE.out.symm (.slice A10 x.holds.length c10)) (p := ⟨gb, 6, none⟩) NBE.out.symm (.slice A14 x.lots.length c14)) (p := ⟨gb, 5, none⟩) NBE.out.symm (.slice none 0 0))
  have HB7 := Aside0.mk (below_set (below_set (below_set (below_step HB.out HBd.out) GEb.out (j := 3) (v := (.slice A10 x.holds.length c10))) GEb.out (j := 6) (v := (.slice A14 x.lots.length c14))) GEb.out (j := 5) (v := .slice none 0 0))
  replace R10 := Aside0.mk (Kd.R_set (Kd.R_set (Kd.R_set R10.out BK4.out (by decide) 3 (.slice A10 x.holds.length c10)) BK5.out (by decide) 6 (.slice A14 x.lots.length c14)) BK6.out (by decide) 5 (.slice none 0 0))
  replace R14 := Aside0.mk (Kd.R_set (Kd.R_set (Kd.R_set R14.out BK4.out (by decide) 3 (.slice A10 x.holds.length c10)) BK5.out (by decide) 6 (.slice A14 x.lots.length c14)) BK6.out (by decide) 5 (.slice none 0 0))
  replace R10 := Aside0.mk (Kd.R_lower R10.out HB.out.size)
  replace R14 := Aside0.mk (Kd.R_lower R14.out HB.out.size)
  generalize hW_ : ((w4.setCell ⟨gb, 3, none⟩ (.slice A10 x.holds.length c10)).setCell ⟨gb, 6, none⟩ (.slice A14 x.lots.length c14)).setCell ⟨gb, 5, none⟩ (.slice none 0 0) = w5 at *
  clear hW_ BK4 BK5 BK6 BE4 HBd BK BE HB
  go_wp2
  go_loopg [4] x.sills.length (fun gk v4 wr => ∃ k : Nat, k ≤ x.sills.length ∧ x.sills.length - k ≤ gk ∧ v4 = .int .i64 k ∧ Aside0 (∃ v5, wr.heap[gb]? = some (.cells #[.int .i64 x.light, .int .i64 x.under, .int .i64 x.trim, .slice A10 x.holds.length c10, .int .i64 x.leaves, v5, .slice A14 x.lots.length c14] 26 (0, 0)) ∧ Kd.S k59 59 wr w.heap.size (fun _ => True) v5 (x.sills.take k)) ∧ Aside0 (wr.heap[ge]? = some (.cells #[.int .i64 0, .int .i64 0, .int .i64 0, .slice none 0 0, .int .i64 0, .slice none 0 0, .slice none 0 0] 26 (0, 0))) ∧ Aside0 (Kd.R k85 85 wr w.heap.size (fun _ => True) (.slice A10 x.holds.length c10) x.holds) ∧ Aside0 (Kd.R k79 79 wr w.heap.size (fun _ => True) (.slice A14 x.lots.length c14) x.lots) ∧ Aside0 (Below w.heap.size w wr))
  case atStart => exact ⟨0, by omega, by omega, rfl, ⟨⟨_, BK7.out, Kd.S_nil _ _ _ _ _⟩⟩, BE7, R10, R14, HB7⟩
  case round =>
    clear BK7 BE7 R10 R14 HB7
    obtain ⟨k, hk, hgk, rfl, HI, BE, R10, R14, HB⟩ := hrel
    obtain ⟨v5, hbk, hs5⟩ := HI.out
    obtain ⟨Av, cv, hv5_⟩ := Kd.S_slice hs5
    rw [List.length_take, Nat.min_eq_left hk] at hv5_
    subst hv5_
    have BK := Aside0.mk hbk
    have HO := Aside0.mk hs5
    clear hbk hs5 HI
    by_cases hlt : k < x.sills.length
    · have hlz : (k : Int) < (x.sills.length : Int) := by omega
      obtain ⟨ads, A2, c2, e, h0, h1, h2, l2, g2⟩ := at_T59 HS5.out (k : Int) (by omega) hlz
      cases e
      rw [Int.toNat_natCast] at h0 h1 h2
      have hlen := HL.out.l k hlt
      have htk : Aside0 (x.sills.take (k + 1) = x.sills.take k ++ [rd_T59 x.sills (k : Int)]) := ⟨by
        rw [List.take_succ_eq_append_getElem hlt]
        have : rd_T59 x.sills (k : Int) = x.sills[k] := by simp [rd_T59, List.getD, hlt]
        rw [this]⟩
      have htl : (x.sills.take k).length = k := by rw [List.length_take]; omega
      have HTL := Aside0.mk htl
      have hrd : x.sills.getD k z59 = rd_T59 x.sills (k : Int) := rfl
      rw [hrd] at hlen
      clear hrd htl
      generalize rd_T59 x.sills (k : Int) = sl at *
      have LT0 := Aside0.mk (World.block_lt_of_cell? w _ h0)
      have LT1 := Aside0.mk (World.block_lt_of_cell? w _ h1)
      have LT2 := Aside0.mk (World.block_lt_of_cell? w _ h2)
      have E0 := Aside0.mk h0
      have E1 := Aside0.mk h1
      have E2 := Aside0.mk h2
      have G2 := Aside0.mk g2
      clear g2
      replace h0 := (HB.out.cell LT0.out).trans h0
      replace h1 := (HB.out.cell LT1.out).trans h1
      replace h2 := (HB.out.cell LT2.out).trans h2
      have hz5_ := (blk_cell BK.out 5).trans rfl
      go_upto_region 6 with (fail)
      have hd_ := below_drew1 (Below.refl wr.heap.size wr)
      replace BK := Aside0.mk (blk_drew BK.out)
      replace BE := Aside0.mk (blk_drew BE.out)
      replace HO := Aside0.mk (Kd.S_drew HO.out)
      replace R10 := Aside0.mk (Kd.R_drew R10.out)
      replace R14 := Aside0.mk (Kd.R_drew R14.out)
      replace HB := Aside0.mk (below_step HB.out hd_)
      clear hd_
      refine start_ (n := 19) (S := fun w' => w'.cell? ⟨gb, 5, none⟩ = some (.slice Av k cv) ∧ w'.cell? (ads.add (k * 3)) = some (.int .i64 sl.f0.f0) ∧ w'.cell? ⟨(ads.add (k * 3)).block, (ads.add (k * 3)).off + 1, none⟩ = some (.int .i64 sl.f0.f1) ∧ w'.cell? ⟨(ads.add (k * 3)).block, (ads.add (k * 3)).off + 2, none⟩ = some (.slice A2 sl.f1.length c2)) (ds := [16, 18]) #[false, false, false, false, false, false, false, false, false, false, false, false, false, false, false, false, false, false, false] (by kernel_rfl) rfl rfl ⟨hz5_, h0, h1, h2⟩ (fun hHeld => ?_)
      generalize wr.drew = wd at BK BE HO R10 R14 HB hHeld ⊢
      refine pure_ (i := 0) (N := some 24) (v := ?_) (a' := ?_) #[true, false, false, false, false, false, false, false, false, false, false, false, false, false, false, false, false, false, false] rfl rfl (by kernel_rfl) (fun _ _ _ h => h) (Or.inl ⟨by rfl, ?_⟩) ?_ ?_
      rotate_left
      · intro w'
        go_simp
        with_reducible rfl
      rotate_left
      · simp only [Act.put, List.setIfInBounds_toArray, List.set_cons_zero, List.set_cons_succ, i64_w, i32_w]
        rfl
      refine pure_ (i := 2) (N := some 26) (v := ?_) (a' := ?_) #[true, false, true, false, false, false, false, false, false, false, false, false, false, false, false, false, false, false, false] rfl rfl (by kernel_rfl) (fun _ _ _ h => h) (Or.inl ⟨by rfl, ?_⟩) ?_ ?_
      rotate_left
      · intro w'
        go_simp
        with_reducible rfl
      rotate_left
      · simp only [Act.put, List.setIfInBounds_toArray, List.set_cons_zero, List.set_cons_succ, i64_w, i32_w]
        rfl
      refine pure_ (i := 3) (N := some 27) (v := ?_) (a' := ?_) #[true, false, true, true, false, false, false, false, false, false, false, false, false, false, false, false, false, false, false] rfl rfl (by kernel_rfl) (fun _ _ _ h => h) (Or.inl ⟨by rfl, ?_⟩) ?_ ?_
      rotate_left
      · intro w'
        go_simp
        with_reducible rfl
      rotate_left
      · simp only [Act.put, List.setIfInBounds_toArray, List.set_cons_zero, List.set_cons_succ, i64_w, i32_w]
        rfl
      refine pure_ (i := 4) (N := some 28) (v := ?_) (a' := ?_) #[true, false, true, true, true, false, false, false, false, false, false, false, false, false, false, false, false, false, false] rfl rfl (by kernel_rfl) (fun _ _ _ h => h) (Or.inl ⟨by rfl, ?_⟩) ?_ ?_
      rotate_left
      · intro w'
        go_simp
        with_reducible rfl
      rotate_left
      · simp only [Act.put, List.setIfInBounds_toArray, List.set_cons_zero, List.set_cons_succ, i64_w, i32_w]
        rfl
      refine pure_ (i := 5) (N := some 29) (v := ?_) (a' := ?_) #[true, false, true, true, true, true, false, false, false, false, false, false, false, false, false, false, false, false, false] rfl rfl (by kernel_rfl) (fun _ _ _ h => h) (Or.inl ⟨by rfl, ?_⟩) ?_ ?_
      rotate_left
      · intro w'
        go_simp
        with_reducible rfl
      rotate_left
      · simp only [Act.put, List.setIfInBounds_toArray, List.set_cons_zero, List.set_cons_succ, i64_w, i32_w]
        rfl
      refine pure_ (i := 8) (N := some 32) (v := ?_) (a' := ?_) #[true, false, true, true, true, true, false, false, true, false, false, false, false, false, false, false, false, false, false] rfl rfl (by kernel_rfl) (fun _ _ _ h => h) (Or.inl ⟨by rfl, ?_⟩) ?_ ?_
      rotate_left
      · intro w'
        go_simp
        with_reducible rfl
      rotate_left
      · simp only [Act.put, List.setIfInBounds_toArray, List.set_cons_zero, List.set_cons_succ, i64_w, i32_w]
        rfl
      refine pure_ (i := 9) (N := some 33) (v := ?_) (a' := ?_) #[true, false, true, true, true, true, false, false, true, true, false, false, false, false, false, false, false, false, false] rfl rfl (by kernel_rfl) (fun _ _ _ h => h) (Or.inl ⟨by rfl, ?_⟩) ?_ ?_
      rotate_left
      · intro w'
        go_simp
        with_reducible rfl
      rotate_left
      · simp only [Act.put, List.setIfInBounds_toArray, List.set_cons_zero, List.set_cons_succ, i64_w, i32_w]
        rfl
      refine pure_ (i := 10) (N := some 34) (v := ?_) (a' := ?_) #[true, false, true, true, true, true, false, false, true, true, true, false, false, false, false, false, false, false, false] rfl rfl (by kernel_rfl) (fun _ _ _ h => h) (Or.inl ⟨by rfl, ?_⟩) ?_ ?_
      rotate_left
      · intro w'
        go_simp
        with_reducible rfl
      rotate_left
      · simp only [Act.put, List.setIfInBounds_toArray, List.set_cons_zero, List.set_cons_succ, i64_w, i32_w]
        rfl
      refine pure_ (i := 11) (N := some 35) (v := ?_) (a' := ?_) #[true, false, true, true, true, true, false, false, true, true, true, true, false, false, false, false, false, false, false] rfl rfl (by kernel_rfl) (fun _ _ _ h => h) (Or.inl ⟨by rfl, ?_⟩) ?_ ?_
      rotate_left
      · intro w'
        go_simp
        with_reducible rfl
      rotate_left
      · simp only [Act.put, List.setIfInBounds_toArray, List.set_cons_zero, List.set_cons_succ, i64_w, i32_w]
        rfl
      refine take_ (i := 1) (N := some 25) (v := ?_) (a' := ?_) #[true, true, true, true, true, true, false, false, true, true, true, true, false, false, false, false, false, false, false] rfl rfl (by kernel_rfl) (fun _ _ _ h => h) (Or.inl ⟨by rfl, ?_⟩) hHeld ?_ ?_
      rotate_left
      · rintro w' ⟨s0, s1, s2, s3⟩
        go_simp
        with_reducible rfl
      rotate_left
      · simp only [Act.put, List.setIfInBounds_toArray, List.set_cons_zero, List.set_cons_succ, i64_w, i32_w]
        rfl
      refine take_ (i := 6) (N := some 30) (v := ?_) (a' := ?_) #[true, true, true, true, true, true, true, false, true, true, true, true, false, false, false, false, false, false, false] rfl rfl (by kernel_rfl) (fun _ _ _ h => h) (Or.inl ⟨by rfl, ?_⟩) hHeld ?_ ?_
      rotate_left
      · rintro w' ⟨s0, s1, s2, s3⟩
        go_simp
        with_reducible rfl
      rotate_left
      · simp only [Act.put, List.setIfInBounds_toArray, List.set_cons_zero, List.set_cons_succ, i64_w, i32_w]
        rfl
      refine take_ (i := 12) (N := some 36) (v := ?_) (a' := ?_) #[true, true, true, true, true, true, true, false, true, true, true, true, true, false, false, false, false, false, false] rfl rfl (by kernel_rfl) (fun _ _ _ h => h) (Or.inl ⟨by rfl, ?_⟩) hHeld ?_ ?_
      rotate_left
      · rintro w' ⟨s0, s1, s2, s3⟩
        go_simp
        with_reducible rfl
      rotate_left
      · simp only [Act.put, List.setIfInBounds_toArray, List.set_cons_zero, List.set_cons_succ, i64_w, i32_w]
        rfl
      refine one_ (i := 7) (N := some 31) #[true, true, true, true, true, true, true, true, true, true, true, true, true, false, false, false, false, false, false] rfl rfl (by kernel_rfl) (by decide) (fun K hK => ?_)
      refine Kd.R_lit_step k62 _ 62 ?hg (N := 31) ?hd (xs := ([] : List S62)) (inner := []) (ok := fun _ => True) (okp := fun _ => True) ?hr ?hp (fun _ hk => hk) trivial (Below.refl _ _) (Nat.le_refl _) (by simp) ?_; (case hd => rfl); (case hg => rfl); (case hr => first | (go_simp; done) | (go_simp; rfl)); (case hp => exact (Reps.none _ _))
      intro v31 w6 ho_ hb_ hg_ hnew_
      clear hg_ hnew_
      have R31 := Aside0.mk ho_
      have HBd := Aside0.mk hb_
      clear ho_ hb_
      refine hK.out _ _ ⟨(HBd.out.cell (blk_lt BK.out)).trans ((blk_cell BK.out 5).trans rfl), (HBd.out.cell (Nat.lt_of_lt_of_le LT0.out HB.out.size)).trans ((HB.out.cell LT0.out).trans E0.out), (HBd.out.cell (Nat.lt_of_lt_of_le LT1.out HB.out.size)).trans ((HB.out.cell LT1.out).trans E1.out), (HBd.out.cell (Nat.lt_of_lt_of_le LT2.out HB.out.size)).trans ((HB.out.cell LT2.out).trans E2.out)⟩ (fun hHeld => ?_)
      clear hK K
      refine norm_ (a' := ?_) ?_ ?_
      rotate_left
      · show Act.put _ (some 31) _ = _
        simp only [Act.put, List.setIfInBounds_toArray, List.set_cons_zero, List.set_cons_succ, i64_w, i32_w]
        rfl
      refine one_ (i := 13) (N := some 37) #[true, true, true, true, true, true, true, true, true, true, true, true, true, true, false, false, false, false, false] rfl rfl (by kernel_rfl) (by decide) (fun K hK => ?_)
      refine Kd.R_append_rows_step k62 (w0 := wd) wd.heap.size (by rfl) (.tmp 31) (.tmp 36) 57 62 (.agg #[(.int .i64 0), (.int .i64 0), (.int .i64 0)]) 24 rfl Try.underlying57 info62 rfl (by decide) (by omega) v31 [] sl.f1 A2 _ c2 (fun _ => True) (fun _ => False) rfl rfl ?aO ?aR (fun _ _ h => h) (fun _ h => h.elim) ?aF ?aB ?aS ?aL ?_
      (case aR => exact (Kd.C_below (Kd.C_below G2.out HB.out) HBd.out))
      (case aB => exact HBd.out)
      (case aF => exact (fun _ _ => trivial))
      (case aO => exact R31.out)
      (case aS => exact HBd.out.size)
      (case aL => simp only [List.length_nil]; omega)
      intro v37 w7 ho_ hb_ hg_ hat_
      rw [List.nil_append] at ho_
      obtain ⟨A37, c37, rfl⟩ := Kd.R_slice ho_
      have R37 := Aside0.mk ho_
      replace HBd := Aside0.mk hb_
      clear ho_ hb_ hg_ hat_ R31
      refine hK.out _ _ ⟨(HBd.out.cell (blk_lt BK.out)).trans ((blk_cell BK.out 5).trans rfl), (HBd.out.cell (Nat.lt_of_lt_of_le LT0.out HB.out.size)).trans ((HB.out.cell LT0.out).trans E0.out), (HBd.out.cell (Nat.lt_of_lt_of_le LT1.out HB.out.size)).trans ((HB.out.cell LT1.out).trans E1.out), (HBd.out.cell (Nat.lt_of_lt_of_le LT2.out HB.out.size)).trans ((HB.out.cell LT2.out).trans E2.out)⟩ (fun hHeld => ?_)
      clear hK K
      refine norm_ (a' := ?_) ?_ ?_
      rotate_left
      · show Act.put _ (some 37) _ = _
        simp only [Act.put, List.setIfInBounds_toArray, List.set_cons_zero, List.set_cons_succ, i64_w, i32_w]
        rfl
      refine pure_ (i := 14) (N := some 38) (v := ?_) (a' := ?_) #[true, true, true, true, true, true, true, true, true, true, true, true, true, true, true, false, false, false, false] rfl rfl (by kernel_rfl) (fun _ _ _ h => h) (Or.inl ⟨by rfl, ?_⟩) ?_ ?_
      rotate_left
      · intro w'
        go_simp
        with_reducible rfl
      rotate_left
      · simp only [Act.put, List.setIfInBounds_toArray, List.set_cons_zero, List.set_cons_succ, i64_w, i32_w]
        rfl
      refine one_ (i := 15) (N := some 39) #[true, true, true, true, true, true, true, true, true, true, true, true, true, true, true, true, false, false, false] rfl rfl (by kernel_rfl) (by decide) (fun K hK => ?_)
      refine value_ (w1 := ?_) (v := ?_) (by rfl) rfl ?_ ?_
      rotate_left 2
      · (go_simp; constructor <;> rfl)
      refine hK.out _ _ ⟨((below_alloc HBd.out _).cell (blk_lt BK.out)).trans ((blk_cell BK.out 5).trans rfl), ((below_alloc HBd.out _).cell (Nat.lt_of_lt_of_le LT0.out HB.out.size)).trans ((HB.out.cell LT0.out).trans E0.out), ((below_alloc HBd.out _).cell (Nat.lt_of_lt_of_le LT1.out HB.out.size)).trans ((HB.out.cell LT1.out).trans E1.out), ((below_alloc HBd.out _).cell (Nat.lt_of_lt_of_le LT2.out HB.out.size)).trans ((HB.out.cell LT2.out).trans E2.out)⟩ (fun hHeld => ?_)
      clear hK K
      refine norm_ (a' := ?_) ?_ ?_
      rotate_left
      · show Act.put _ (some 39) _ = _
        simp only [Act.put, List.setIfInBounds_toArray, List.set_cons_zero, List.set_cons_succ, i64_w, i32_w]
        rfl
      refine last_ (i := 16) (N := some 40) #[true, true, true, true, true, true, true, true, true, true, true, true, true, true, true, true, true, false, false] rfl rfl (by kernel_rfl) (by decide) (fun K hK => ?_)
      refine Kd.S_append_step k59 (w0 := w) w.heap.size (by rfl) (.tmp 25) (.tmp 39) 23 59 (.agg #[(.int .i64 0), (.int .i64 0), (.slice none 0 0)]) 40 rfl Try.underlying23 info59 rfl (by decide) (by omega) (.slice Av k cv) (x.sills.take k) sl [.int .i64 sl.f0.f0, .int .i64 sl.f0.f1, .slice A37 sl.f1.length c37] (fun _ => True) (fun k_ => wd.heap.size ≤ k_) rfl rfl ?aP ?aK ?aF ?aO ?aB ?aS ?aL ?_
      (case aP => exact k59_mkM _ _ _ sl (Kd.R_mono (Kd.R_bound (Kd.R_lower (Kd.R_mono (Kd.R_bound R37.out) (fun _ hk => hk.2.1)) HB.out.size)) (fun _ hk => hk.1)))
      (case aK => exact (fun k_ hk => ⟨trivial, fun he => by have := Kd.S_lt HO.out k_ he.symm; omega⟩))
      (case aF => exact (fun _ _ => trivial))
      (case aO => exact Kd.S_mono (Kd.S_old HO.out HBd.out) (fun _ hk => ⟨trivial, by have := hk.2; omega⟩))
      (case aB => exact below_step HB.out HBd.out)
      (case aS => exact Nat.le_trans HB.out.size HBd.out.size)
      (case aL => have := HTL.out; omega)
      intro v40 w8 ho_ hb_ hg_ hat_
      obtain ⟨A40, c40, hv40_⟩ := Kd.S_slice ho_
      rw [List.length_append, HTL.out, List.length_singleton] at hv40_
      subst hv40_
      have HO2 := Aside0.mk ho_
      have BK2 := Aside0.mk (blk_grown (blk_below BK.out HBd.out) hg_ (Kd.S_ne HO.out BK.out (by decide)))
      have BE2 := Aside0.mk (blk_grown (blk_below BE.out HBd.out) hg_ (Kd.S_ne HO.out BE.out (by decide)))
      have T_ := Aside0.mk (fun k_ he => (Kd.S_typed HO.out k_ he).imp fun _ hc => blk_below hc HBd.out)
      replace R10 := Aside0.mk (Kd.R_over' (Kd.R_below R10.out HBd.out) T_.out (by decide) hg_)
      replace R14 := Aside0.mk (Kd.R_over' (Kd.R_below R14.out HBd.out) T_.out (by decide) hg_)
      have HB2 := Aside0.mk hb_
      clear ho_ hb_ hg_ hat_ T_ R37
      refine hK.out _ _ ?_
      clear hK K
      refine norm_ (a' := ?_) ?_ ?_
      rotate_left
      · show Act.put _ (some 40) _ = _
        simp only [Act.put, List.setIfInBounds_toArray, List.set_cons_zero, List.set_cons_succ, i64_w, i32_w]
        rfl
      refine pure_ (i := 17) (N := some 41) (v := ?_) (a' := ?_) #[true, true, true, true, true, true, true, true, true, true, true, true, true, true, true, true, true, true, false] rfl rfl (by kernel_rfl) (fun _ _ _ h => h) (Or.inl ⟨by rfl, ?_⟩) ?_ ?_
      rotate_left
      · intro w'
        go_simp
        with_reducible rfl
      rotate_left
      · simp only [Act.put, List.setIfInBounds_toArray, List.set_cons_zero, List.set_cons_succ, i64_w, i32_w]
        rfl
      refine last_ (i := 18) (N := none) #[true, true, true, true, true, true, true, true, true, true, true, true, true, true, true, true, true, true, true] rfl rfl (by kernel_rfl) (by decide) (fun K hK => ?_)
      have hy0_ := (blk_cell BK2.out 5).trans rfl
      have hf_ := blk_frozen BK2.out
      refine skip_ (w1 := ?_) (by rfl) rfl ?_ ?_
      rotate_left
      · (go_simp; rfl)
      clear hy0_ hf_
      refine hK.out _ _ ?_
      clear hK K
      refine done_ (by kernel_rfl) ?_
      clear hHeld hz5_ h0 h1 h2
      have BK3 := Aside0.mk (blk_put (cs' := #[.int .i64 x.light, .int .i64 x.under, .int .i64 x.trim, .slice A10 x.holds.length c10, .int .i64 x.leaves, .slice A40 (k + 1) c40, .slice A14 x.lots.length c14]) BK2.out 5 (.slice A40 (k + 1) c40) rfl)
      have BE3 := Aside0.mk (blk_far BE2.out (p := ⟨gb, 5, none⟩) NBE.out.symm (.slice A40 (k + 1) c40))
      have HB3 := Aside0.mk (below_set HB2.out GEb.out (j := 5) (v := (.slice A40 (k + 1) c40)))
      have HO3 := Aside0.mk (Kd.S_set HO2.out BK2.out (by decide) 5 (.slice A40 (k + 1) c40))
      replace R10 := Aside0.mk (Kd.R_set R10.out BK2.out (by decide) 5 (.slice A40 (k + 1) c40))
      replace R14 := Aside0.mk (Kd.R_set R14.out BK2.out (by decide) 5 (.slice A40 (k + 1) c40))
      generalize hW_ : w8.setCell ⟨gb, 5, none⟩ (.slice A40 (k + 1) c40) = w9 at *
      clear hW_ BK BE HO HB BK2 BE2 HB2 HO2 HBd
      go_wp2
      go_roundg (x.sills.length - (k + 1))
      case measure => omega
      case rel => exact ⟨k + 1, by omega, by omega, by go_num, ⟨⟨_, BK3.out, by rw [htk.out]; exact HO3.out⟩⟩, BE3, R10, R14, HB3⟩
    · have : k = x.sills.length := by omega
      subst this
      have HOe := HO.out
      rw [List.take_length] at HOe
      have HO2 := Aside0.mk HOe
      clear HOe HO
      have hz0_ := (blk_cell BK.out 0).trans rfl
      have hz1_ := (blk_cell BK.out 1).trans rfl
      have hz2_ := (blk_cell BK.out 2).trans rfl
      have hz3_ := (blk_cell BK.out 3).trans rfl
      have hz4_ := (blk_cell BK.out 4).trans rfl
      have hz5_ := (blk_cell BK.out 5).trans rfl
      have hz6_ := (blk_cell BK.out 6).trans rfl
      have hy0_ := (blk_cell BE.out 0).trans rfl
      have hy1_ := (blk_cell BE.out 1).trans rfl
      have hy2_ := (blk_cell BE.out 2).trans rfl
      have hy3_ := (blk_cell BE.out 3).trans rfl
      have hy4_ := (blk_cell BE.out 4).trans rfl
      have hy5_ := (blk_cell BE.out 5).trans rfl
      have hy6_ := (blk_cell BE.out 6).trans rfl
      have hf_ := blk_frozen BE.out
      go_wp2
      have BR := BE
      have BR0 := BR
      replace BR := Aside0.mk (blk_put (cs' := #[.int .i64 x.light, .int .i64 0, .int .i64 0, .slice none 0 0, .int .i64 0, .slice none 0 0, .slice none 0 0]) BR.out 0 (.int .i64 x.light) rfl)
      have BR1 := BR
      replace BR := Aside0.mk (blk_put (cs' := #[.int .i64 x.light, .int .i64 x.under, .int .i64 0, .slice none 0 0, .int .i64 0, .slice none 0 0, .slice none 0 0]) BR.out 1 (.int .i64 x.under) rfl)
      have BR2 := BR
      replace BR := Aside0.mk (blk_put (cs' := #[.int .i64 x.light, .int .i64 x.under, .int .i64 x.trim, .slice none 0 0, .int .i64 0, .slice none 0 0, .slice none 0 0]) BR.out 2 (.int .i64 x.trim) rfl)
      have BR3 := BR
      replace BR := Aside0.mk (blk_put (cs' := #[.int .i64 x.light, .int .i64 x.under, .int .i64 x.trim, .slice A10 x.holds.length c10, .int .i64 0, .slice none 0 0, .slice none 0 0]) BR.out 3 (.slice A10 x.holds.length c10) rfl)
      have BR4 := BR
      replace BR := Aside0.mk (blk_put (cs' := #[.int .i64 x.light, .int .i64 x.under, .int .i64 x.trim, .slice A10 x.holds.length c10, .int .i64 x.leaves, .slice none 0 0, .slice none 0 0]) BR.out 4 (.int .i64 x.leaves) rfl)
      have BR5 := BR
      replace BR := Aside0.mk (blk_put (cs' := #[.int .i64 x.light, .int .i64 x.under, .int .i64 x.trim, .slice A10 x.holds.length c10, .int .i64 x.leaves, .slice Av x.sills.length cv, .slice none 0 0]) BR.out 5 (.slice Av x.sills.length cv) rfl)
      have BR6 := BR
      replace BR := Aside0.mk (blk_put (cs' := #[.int .i64 x.light, .int .i64 x.under, .int .i64 x.trim, .slice A10 x.holds.length c10, .int .i64 x.leaves, .slice Av x.sills.length cv, .slice A14 x.lots.length c14]) BR.out 6 (.slice A14 x.lots.length c14) rfl)
      have HBe := Aside0.mk (show Below w.heap.size w (((((((wr.setCell ⟨ge, 0, none⟩ (.int .i64 x.light)).setCell ⟨ge, 1, none⟩ (.int .i64 x.under)).setCell ⟨ge, 2, none⟩ (.int .i64 x.trim)).setCell ⟨ge, 3, none⟩ (.slice A10 x.holds.length c10)).setCell ⟨ge, 4, none⟩ (.int .i64 x.leaves)).setCell ⟨ge, 5, none⟩ (.slice Av x.sills.length cv)).setCell ⟨ge, 6, none⟩ (.slice A14 x.lots.length c14)) from below_set (below_set (below_set (below_set (below_set (below_set (below_set (HB.out) GEe.out) GEe.out) GEe.out) GEe.out) GEe.out) GEe.out) GEe.out)
      have HOe := Aside0.mk (Kd.S_set (Kd.S_set (Kd.S_set (Kd.S_set (Kd.S_set (Kd.S_set (Kd.S_set HO2.out BR0.out (by decide) 0 (.int .i64 x.light)) BR1.out (by decide) 1 (.int .i64 x.under)) BR2.out (by decide) 2 (.int .i64 x.trim)) BR3.out (by decide) 3 (.slice A10 x.holds.length c10)) BR4.out (by decide) 4 (.int .i64 x.leaves)) BR5.out (by decide) 5 (.slice Av x.sills.length cv)) BR6.out (by decide) 6 (.slice A14 x.lots.length c14))
      have R10e := Aside0.mk (Kd.R_set (Kd.R_set (Kd.R_set (Kd.R_set (Kd.R_set (Kd.R_set (Kd.R_set R10.out BR0.out (by decide) 0 (.int .i64 x.light)) BR1.out (by decide) 1 (.int .i64 x.under)) BR2.out (by decide) 2 (.int .i64 x.trim)) BR3.out (by decide) 3 (.slice A10 x.holds.length c10)) BR4.out (by decide) 4 (.int .i64 x.leaves)) BR5.out (by decide) 5 (.slice Av x.sills.length cv)) BR6.out (by decide) 6 (.slice A14 x.lots.length c14))
      have R14e := Aside0.mk (Kd.R_set (Kd.R_set (Kd.R_set (Kd.R_set (Kd.R_set (Kd.R_set (Kd.R_set R14.out BR0.out (by decide) 0 (.int .i64 x.light)) BR1.out (by decide) 1 (.int .i64 x.under)) BR2.out (by decide) 2 (.int .i64 x.trim)) BR3.out (by decide) 3 (.slice A10 x.holds.length c10)) BR4.out (by decide) 4 (.int .i64 x.leaves)) BR5.out (by decide) 5 (.slice Av x.sills.length cv)) BR6.out (by decide) 6 (.slice A14 x.lots.length c14))
      clear hf_ BR0 BR1 BR2 BR3 BR4 BR5 BR6 BE HB HO2 R10 R14 BK
      clear hz0_ hz1_ hz2_ hz3_ hz4_ hz5_ hz6_
      clear hy0_ hy1_ hy2_ hy3_ hy4_ hy5_ hy6_
      generalize hW_ : ((((((wr.setCell ⟨ge, 0, none⟩ (.int .i64 x.light)).setCell ⟨ge, 1, none⟩ (.int .i64 x.under)).setCell ⟨ge, 2, none⟩ (.int .i64 x.trim)).setCell ⟨ge, 3, none⟩ (.slice A10 x.holds.length c10)).setCell ⟨ge, 4, none⟩ (.int .i64 x.leaves)).setCell ⟨ge, 5, none⟩ (.slice Av x.sills.length cv)).setCell ⟨ge, 6, none⟩ (.slice A14 x.lots.length c14) = we at *
      clear hW_
      have hr0_ := (blk_cell BR.out 0).trans rfl
      have hr1_ := (blk_cell BR.out 1).trans rfl
      have hr2_ := (blk_cell BR.out 2).trans rfl
      have hr3_ := (blk_cell BR.out 3).trans rfl
      have hr4_ := (blk_cell BR.out 4).trans rfl
      have hr5_ := (blk_cell BR.out 5).trans rfl
      have hr6_ := (blk_cell BR.out 6).trans rfl
      exact bodyPost_ret (results_single (r := .cell 2 26) rfl (.cell ge 26 #[.int .i64 x.light, .int .i64 x.under, .int .i64 x.trim, .slice A10 x.holds.length c10, .int .i64 x.leaves, .slice Av x.sills.length cv, .slice A14 x.lots.length c14] (0, 0) _ rfl BR.out hu26 rfl (by kernel_rfl) .nil)) rfl ⟨_, _, _, rfl, R10e.out, HOe.out, R14e.out, HBe.out⟩
theorem swarfkit_CopyVoyage.calls (a0_0 : Int) (a0_1 : Int) (a0_2 : Int) (A0_3 : Option Addr) (c0_3 : Nat) (l0_3 : List (S85)) (a0_4 : Int) (A0_5 : Option Addr) (c0_5 : Nat) (l0_5 : List (S59)) (A0_6 : Option Addr) (c0_6 : Nat) (l0_6 : List (S79)) (r1 : Int) (r2 : Int) (r3 : Int) (r4 : List (S85)) (r5 : Int) (r6 : List (S59)) (r7 : List (S79)) (w : World) (hr0_3 : Kd.C k85 w A0_3 l0_3.length l0_3) (hc0_3 : l0_3.length ≤ c0_3) (hr0_5 : Kd.C k59 w A0_5 l0_5.length l0_5) (hc0_5 : l0_5.length ≤ c0_5) (hr0_6 : Kd.C k79 w A0_6 l0_6.length l0_6) (hc0_6 : l0_6.length ≤ c0_6) (h : swarfkit_CopyVoyage.f a0_0 a0_1 a0_2 l0_3 a0_4 l0_5 l0_6 = some (r1, r2, r3, r4, r5, r6, r7)) :
    Calls Try.prog 20 #[.agg #[.int .i64 a0_0, .int .i64 a0_1, .int .i64 a0_2, .slice A0_3 l0_3.length c0_3, .int .i64 a0_4, .slice A0_5 l0_5.length c0_5, .slice A0_6 l0_6.length c0_6]] w fun e w' => ∃ v3_ v5_ v6_ : Value, e = .returned (.agg #[.int .i64 r1, .int .i64 r2, .int .i64 r3, v3_, .int .i64 r5, v5_, v6_]) ∧ Kd.R k85 85 w' w.heap.size (fun _ => True) v3_ r4 ∧ Kd.S k59 59 w' w.heap.size (fun _ => True) v5_ r6 ∧ Kd.R k79 79 w' w.heap.size (fun _ => True) v6_ r7 ∧ Below w.heap.size w w' := by
  unfold swarfkit_CopyVoyage.f at h
  by_cases hn : copyOK l0_3 l0_5 l0_6
  · rw [if_pos hn] at h
    simp only [Option.some.injEq, Prod.mk.injEq] at h
    obtain ⟨rfl, rfl, rfl, rfl, rfl, rfl, rfl⟩ := h
    exact copy_calls ⟨_, _, _, A0_3, c0_3, _, _, A0_5, c0_5, _, A0_6, c0_6, _⟩ w ⟨hr0_3, hc0_3, hr0_5, hc0_5, hr0_6, hc0_6⟩ hn
  · rw [if_neg hn] at h; cases h
end Go.Proofs.Ytodmemndaaiolaa.PC7
namespace Go.Proofs.Ytodmemndaaiolaa.PC7
set_option linter.unusedVariables false
open Go.RowKit Go.Shelf Go.Proofs.YtodmemndaaiolaaW.PrintWords Go.Proofs.YtodmemndaaiolaaW.PrintLast Go.Proofs.YtodmemndaaiolaaW.PrintMore
def GivesR {α : Type} (n g : Nat) (lb : Array Value) (encs : α → Array Value) (Rx : Nat → α → World → Prop) (Kp : World → World → Prop) (S : List α → Prop) (w : World) : Prop :=
  ∀ (l : Nat) (J : Nat → List α → World → Prop) (W : World), Below w.heap.size w W → (∀ b, AbidesFrom W.heap.size (J b)) → (∀ b pre A i v, W.heap.size ≤ b → J b pre A → A.cell? ⟨b, i, none⟩ ≠ none → J b pre (A.setCell ⟨b, i, none⟩ v)) →
    (∀ b pre x W1, W.heap.size ≤ b → J b pre W1 → Rx b x W1 → YieldAt Fence.wide (n - 1) Try.prog l (encs x) W1 fun e W' => e = .returned (.bool true) ∧ J b (pre ++ [x]) W' ∧ Kp W1 W') →
    (∀ b, W.heap.size ≤ b → J b [] W) → CallsIn Fence.wide n Try.prog g (#[.func (.yield l) #[] #[]] ++ lb) W fun e W' => (∃ v, e = .returned v) ∧ ∃ b xs, W.heap.size ≤ b ∧ S xs ∧ J b xs W'
def roundOwes {α : Type} (Kp : World → World → Prop) (I : List α → World → Prop) (xs : List α) (W : World) : Exit → Act → World → Prop
  | .normal, _, W' => KeepsOthers W W' ∧ Kp W W' ∧ I xs W'
  | _, _, _ => False
theorem loop_far {W : World} {l b i : Nat} {r : Loop} {v : Value} (h : W.heap[l]? = some (.loop r)) (hc : W.cell? ⟨b, i, none⟩ ≠ none) : (W.setCell ⟨b, i, none⟩ v).heap[l]? = some (.loop r) := by
  have hne : l ≠ b := fun e => by subst e; simp [World.cell?, h] at hc
  rw [Below.heap_setCell _ _ _ _ hne]; exact h
theorem defer_far {W : World} {l b i : Nat} {v : Value} {d : Option (List Deferred)} (h : W.heap[l]? = some (.deferred d)) (hc : W.cell? ⟨b, i, none⟩ ≠ none) : (W.setCell ⟨b, i, none⟩ v).heap[l]? = some (.deferred d) := by
  have hne : l ≠ b := fun e => by subst e; simp [World.cell?, h] at hc
  rw [Below.heap_setCell _ _ _ _ hne]; exact h
theorem range_gives {α : Type} {g : Operand} {ps : Array Tmp} {assign body : Code} {Q : Exit → Act → World → Prop} {a : Act} {w w0 : World} {n gf : Nat} {lb : Array Value} (h1 : 1 ≤ n)
    (hg : a.eval g = .func (.func gf) #[] lb) (eg : ∀ args w, (callFunc gf args).run Try.prog w = .ok (.enter gf args) w)
    {encs : α → Array Value} {Rx : Nat → α → World → Prop} {Kp : World → World → Prop} {S : List α → Prop} (hseq : GivesR (n - 1) gf lb encs Rx Kp S w0)
    (hKt : ∀ {A B C : World}, Kp A B → Kp B C → Kp A C) (hKb : ∀ (W : World) (l : Nat) (o o' : Obj), W.heap[l]? = some o → o.isCells = false → Kp W (W.putObj l o'))
    (hRb : ∀ (b : Nat) (x : α) (W : World) (l : Nat) (o o' : Obj), W.heap[l]? = some o → o.isCells = false → Rx b x W → Rx b x (W.putObj l o'))
    (hb0 : Below w0.heap.size w0 w) (hps : ∀ x, (encs x).size = ps.size) (I : Nat → List α → World → Prop) (hI : ∀ b, OwnFrom w.heap.size (I b)) (hIs : ∀ b pre A i v, w.heap.size ≤ b → I b pre A → A.cell? ⟨b, i, none⟩ ≠ none → I b pre (A.setCell ⟨b, i, none⟩ v)) (h0 : ∀ b, w.heap.size ≤ b → I b [] w) (a₁ : α → Act)
    (hassign : ∀ (l : Nat) (x : α) (W : World) (K : Act → World → Prop), K (a₁ x) W →
      assign.wpIn (Fence.wide.inRound l) (n - 1 - 1) Try.prog (Exit.then K (fun _ _ _ => False)) { tmps := (ps.zip (encs x)).foldl (fun t (p, v) => t.setIfInBounds p v) a.tmps, defers := [] } W)
    (hbody : ∀ (l b : Nat) (pre : List α) (x : α) (W : World), w.heap.size ≤ b → I b pre W → Rx b x W → body.wpIn (Fence.wide.inRound l) (n - 1 - 1) Try.prog (roundOwes Kp (I b) (pre ++ [x]) W) (a₁ x) W)
    (hdone : ∀ (D b : Nat) (xs : List α) (W : World), w.heap.size ≤ D → w.heap.size ≤ b → S xs → I b xs W → W.heap[D]? = some (.deferred (some [])) → Q .normal { a with defers := { target := .collected D, args := #[] } :: a.defers } W) :
    (Code.rangeFunc g ps assign body).wpIn Fence.wide n Try.prog Q a w := by
  refine wpIn_rangeFunc fun fn hfn => ?_
  obtain ⟨r0, hr0⟩ : ∃ r : Loop, r = { state := .ready, pending := none, fn, tmps := a.tmps, params := ps, assign, body, defers := w.heap.size } := ⟨_, rfl⟩
  have hsz : ∀ W : World, W = (w.alloc (.deferred (some []))).alloc (.loop r0) → W.heap[w.heap.size + 1]? = some (.loop r0) ∧ W.heap[w.heap.size]? = some (.deferred (some [])) ∧ W.heap.size = w.heap.size + 2 := by
    rintro W rfl
    refine ⟨?_, (Below.heap_alloc _ _ _ (by simp)).trans (World.alloc_heap_new w _), by simp⟩
    have := World.alloc_heap_new (w.alloc (.deferred (some []))) (.loop r0)
    rwa [World.size_alloc] at this
  obtain ⟨Ws, hWs⟩ : ∃ W : World, W = (w.alloc (.deferred (some []))).alloc (.loop r0) := ⟨_, rfl⟩
  obtain ⟨hL, hD, hS⟩ := hsz Ws hWs
  refine ⟨w.heap.size + 1, [{ target := .collected w.heap.size, args := #[] }], Ws, { target := .fn (.func gf) lb, args := #[.func (.yield (w.heap.size + 1)) #[] #[]] }, Ws, gf, #[.func (.yield (w.heap.size + 1)) #[] #[]] ++ lb, Ws, ?_, ?_, ?_, ?_, fun _ => h1, ?_⟩
  · rw [hWs, hr0]; exact run_enterLoop_outer _ _ _ _ _
  · simp only [resolve, hg]; simp [go_sem]
  · intro f' hf'; simp [Target.leads] at hf'; subst hf'; trivial
  · simp [invoke, go_sem, eg]
  have walkNo : ∀ {A : World} {row : Option Nat}, (∀ r, row = some r → Ws.heap.size ≤ r ∧ ∃ o : Obj, A.heap[r]? = some o ∧ o.isWalk = true) → ∀ r, row = some r → w.heap.size ≤ r ∧ ∃ o : Obj, A.heap[r]? = some o ∧ o.isCells = false := by
    intro A row hr r e
    obtain ⟨hB, o, ho, hw⟩ := hr r e
    exact ⟨by omega, o, ho, Obj.not_cells_of_walk hw⟩
  refine (hseq (w.heap.size + 1) (fun b pre W => I b pre W ∧ W.heap[w.heap.size + 1]? = some (.loop r0) ∧ W.heap[w.heap.size]? = some (.deferred (some []))) Ws (by rw [hWs]; exact hb0.trans ((((Below.refl _ w).alloc (Nat.le_refl _) _).alloc (by simp) _).mono hb0.size)) ?_ ?_ ?_
    (fun b hb => ⟨by rw [hWs]; exact (hI b).alloc _ ((hI b).alloc _ (h0 b (by omega))), hL, hD⟩)).mono ?_
  · intro b s A B row hs hgr hr
    exact ⟨hI b s A B row hs.1 hgr (walkNo hr), (grownBy_keeps hgr (fun r e => (hr r e).2) hs.2.1 rfl).trans hs.2.1, (grownBy_keeps hgr (fun r e => (hr r e).2) hs.2.2 rfl).trans hs.2.2⟩
  · rintro b pre A i v hb ⟨hi, hl, hd⟩ hc
    exact ⟨hIs b pre A i v (by omega) hi hc, loop_far hl hc, defer_far hd hc⟩
  · rintro b pre x W hb ⟨hi, hl, hd⟩ hrx
    have hy := run_yield (P := Try.prog) (args := encs x) hl (by rw [hr0]; exact hps x)
    rw [hr0] at hy
    refine ⟨fn, _, assign, body, hy, roundIn_of_wpIn hfn (hassign _ x W _ ?_)⟩
    clear hy
    have hlt := (Array.getElem?_eq_some_iff.1 hl).1
    refine ⟨_, run_beginRound hl (by rw [hr0]), ?_⟩
    have hl2 : (W.putObj (w.heap.size + 1) (.loop { r0 with state := .busy })).heap[w.heap.size + 1]? = some (.loop { r0 with state := .busy }) := World.putObj_heap_same hlt
    have hd2 : (W.putObj (w.heap.size + 1) (.loop { r0 with state := .busy })).heap[w.heap.size]? = some (.deferred (some [])) := (World.putObj_heap_other (by omega)).trans hd
    refine wpIn_mono (hbody _ b pre x _ (by omega) ((hI b).putObj _ hi (by omega) hl rfl) (hRb b x _ _ _ _ hl rfl hrx)) ?_
    rintro e a3 W3 hp
    cases e with
    | normal =>
      obtain ⟨hk3, hkp3, hi3⟩ := hp
      have hl3 := hk3.same _ _ hl2 rfl
      have hd3 := hk3.same _ _ hd2 rfl
      have hend := run_endRound (P := Try.prog) none hl3
      refine ⟨_, _, hend, rfl, ⟨(hI b).putObj _ hi3 (by omega) hl3 rfl, ?_, (World.putObj_heap_other (by omega)).trans hd3⟩, hKt (hKb _ _ _ _ hl rfl) (hKt hkp3 (hKb _ _ _ _ hl3 rfl))⟩
      refine (World.putObj_heap_same (Array.getElem?_eq_some_iff.1 hl3).1).trans ?_
      rw [hr0]
      rfl
    | ret => exact hp.elim
    | exit id => exact hp.elim
    | goto t => exact hp.elim
    | panic ch => exact hp.elim
    | outgrown => exact hp.elim
  · rintro e W2 ⟨⟨v, rfl⟩, b, xs, hb, hS2, hi, hl, hd⟩
    have hend := run_endLoop (P := Try.prog) hl (by rw [hr0]; simp)
    have hpend : r0.pending = none := by rw [hr0]
    rw [hpend] at hend
    exact ⟨none, _, hend, hdone _ b xs _ (Nat.le_refl _) (by omega) hS2 ((hI b).putObj _ hi (by omega) hl rfl) ((World.putObj_heap_other (by omega)).trans hd)⟩
end Go.Proofs.Ytodmemndaaiolaa.PC7
namespace Go.Proofs.Ytodmemndaaiolaa.PC7
set_option linter.unusedVariables false
def nextL (H : Int) : List Int → Option (List Int)
  | [] => none
  | d :: t => match nextL H t with
    | some t' => some (d :: t')
    | none => if d = H - 1 then none else some ((d + 1) :: List.replicate t.length (-1))
theorem nextL_app (H : Int) (t t' : List Int) (h : nextL H t = some t') : ∀ a : List Int, nextL H (a ++ t) = some (a ++ t')
  | [] => h
  | d :: a => by simp only [List.cons_append, nextL, nextL_app H t t' h a]
theorem nextL_rep (H : Int) : ∀ k, nextL H (List.replicate k (H - 1)) = none
  | 0 => rfl
  | k + 1 => by rw [List.replicate_succ]; simp only [nextL, nextL_rep H k, if_true]
theorem nextL_at (H d : Int) (a : List Int) (k : Nat) (h : d ≠ H - 1) : nextL H (a ++ d :: List.replicate k (H - 1)) = some (a ++ (d + 1) :: List.replicate k (-1)) := by
  refine nextL_app H _ _ ?_ a
  simp only [nextL, nextL_rep, if_neg h, List.length_replicate]
inductive Runs {α : Type} (f : α → Option α) : List α → Option α → Prop
  | one (x : α) (e : Option α) (h : f x = e) : Runs f [x] e
  | cons (x y : α) (r : List α) (e : Option α) (h : f x = some y) (hr : Runs f (y :: r) e) : Runs f (x :: y :: r) e
theorem Runs.app {α : Type} {f : α → Option α} {A : List α} {eA : Option α} (h : Runs f A eA) : ∀ {b : α} {B : List α} {e : Option α}, eA = some b → Runs f (b :: B) e → Runs f (A ++ b :: B) e := by
  induction h with
  | one x e0 hx => intro b B e hb hB; subst hb; exact .cons _ _ _ _ hx hB
  | cons x y r e0 hx hr ih => intro b B e hb hB; exact .cons _ _ _ _ hx (ih hb hB)
theorem Runs.get {α : Type} {f : α → Option α} {L : List α} {e : Option α} (h : Runs f L e) : e = none → ∀ k x, L[k]? = some x → f x = L[k + 1]? := by
  induction h with
  | one x e hx => intro he k y hy; cases k with
    | zero => simp at hy; subst hy; rw [hx, he]; rfl
    | succ k => simp at hy
  | cons x y r e hx hr ih => intro he k z hz; cases k with
    | zero => simp at hz; subst hz; rw [hx]; rfl
    | succ k => exact ih he k z hz
theorem Runs.consed (H d : Int) (n : Nat) {L : List (List Int)} {e : Option (List Int)} (h : Runs (nextL H) L e) : e = none → (∀ t ∈ L, t.length = n) →
    Runs (nextL H) (L.map (d :: ·)) (if d = H - 1 then none else some ((d + 1) :: List.replicate n (-1))) := by
  induction h with
  | one x e hx =>
    intro he hl
    refine .one _ _ ?_
    rw [he] at hx
    simp only [nextL, hx, hl x (by simp)]
  | cons x y r e hx hr ih =>
    intro he hl
    refine .cons _ _ _ _ ?_ (ih he fun t ht => hl t (by simp_all))
    simp only [nextL, hx]
def stowsL (H : Nat) : Nat → List (List Int)
  | 0 => [[]]
  | n + 1 => (List.range (H + 1)).flatMap fun (d : Nat) => (stowsL H n).map fun t => ((d : Int) - 1) :: t
theorem stowsL_mem (H : Nat) : ∀ n t, t ∈ stowsL H n → t.length = n ∧ ∀ y ∈ t, -1 ≤ y ∧ y < (H : Int)
  | 0, t, h => by simp [stowsL] at h; subst h; simp
  | n + 1, t, h => by
    simp only [stowsL, List.mem_flatMap, List.mem_range, List.mem_map] at h
    obtain ⟨d, hd, s, hs, rfl⟩ := h
    obtain ⟨h1, h2⟩ := stowsL_mem H n s hs
    refine ⟨by simp [h1], fun y hy => ?_⟩
    rcases List.mem_cons.1 hy with rfl | hy
    · omega
    · exact h2 y hy
theorem stowsL_head (H : Nat) : ∀ n, ∃ r, stowsL H n = List.replicate n (-1) :: r
  | 0 => ⟨[], rfl⟩
  | n + 1 => by
    obtain ⟨r, hr⟩ := stowsL_head H n
    simp only [stowsL, List.range_succ_eq_map, List.flatMap_cons, hr, List.map_cons, List.cons_append, List.replicate_succ]
    exact ⟨_, rfl⟩
theorem stowsL_runs (H : Nat) : ∀ n, Runs (nextL H) (stowsL H n) none
  | 0 => .one _ _ rfl
  | n + 1 => by
    have ih := stowsL_runs H n
    have hl : ∀ t ∈ stowsL H n, t.length = n := fun t ht => (stowsL_mem H n t ht).1
    have key : ∀ k, k ≤ H → Runs (nextL H) ((List.range (k + 1)).flatMap fun (d : Nat) => (stowsL H n).map fun t => ((d : Int) - 1) :: t) (if k = H then none else some ((k : Int) :: List.replicate n (-1))) := by
      intro k
      induction k with
      | zero =>
        intro hk
        have h := Runs.consed H ((0 : Nat) - 1) n ih rfl hl
        have e : (if (((0 : Nat) : Int) - 1) = (H : Int) - 1 then none else some ((((0 : Nat) : Int) - 1 + 1) :: List.replicate n (-1))) = (if 0 = H then none else some (((0 : Nat) : Int) :: List.replicate n (-1))) := by
          by_cases h0 : 0 = H
          · rw [if_pos h0, if_pos (by omega)]
          · rw [if_neg h0, if_neg (by omega)]; congr 2
        rw [e] at h
        simpa using h
      | succ k ihk =>
        intro hk
        have h1 := ihk (by omega)
        rw [if_neg (by omega)] at h1
        have h2 := Runs.consed H (((k + 1 : Nat) : Int) - 1) n ih rfl hl
        have e : (if (((k + 1 : Nat) : Int) - 1) = (H : Int) - 1 then none else some ((((k + 1 : Nat) : Int) - 1 + 1) :: List.replicate n (-1))) = (if k + 1 = H then none else some (((k + 1 : Nat) : Int) :: List.replicate n (-1))) := by
          by_cases h0 : k + 1 = H
          · rw [if_pos h0, if_pos (by omega)]
          · rw [if_neg h0, if_neg (by omega)]; congr 2; omega
        rw [e] at h2
        obtain ⟨r, hr⟩ := stowsL_head H n
        rw [List.range_succ, List.flatMap_append, List.flatMap_singleton]
        have hd : (((k + 1 : Nat) : Int) - 1) = (k : Int) := by omega
        rw [hr, List.map_cons, hd] at h2 ⊢
        rw [← hr]
        exact h1.app rfl h2
    have := key H (Nat.le_refl _)
    rw [if_pos rfl] at this
    exact this
theorem stowsL_next (H n k : Nat) (x : List Int) (h : (stowsL H n)[k]? = some x) : nextL H x = (stowsL H n)[k + 1]? := (stowsL_runs H n).get rfl k x h
def curL (t : List Int) (j : Nat) : List Int := t.take j ++ List.replicate (t.length - j) (-1)
theorem curL_all (t : List Int) : curL t t.length = t := by simp [curL]
theorem take_snoc (t : List Int) (j : Nat) (h : j < t.length) : t.take (j + 1) = t.take j ++ [t.getD j 0] := by
  rw [List.take_succ_eq_append_getElem h, List.getD, List.getElem?_eq_getElem h]; rfl
theorem curL_get (t : List Int) (j : Nat) (h : j < t.length) : (curL t (j + 1))[j]? = some (t.getD j 0) := by
  rw [curL, take_snoc t j h, List.append_assoc, List.getElem?_append_right (by simp; omega)]
  simp [Nat.min_eq_left (Nat.le_of_lt h)]
theorem curL_set (t : List Int) (j : Nat) (y : Int) (h : j < t.length) : (curL t (j + 1)).set j y = t.take j ++ y :: List.replicate (t.length - (j + 1)) (-1) := by
  rw [curL, take_snoc t j h, List.append_assoc, List.set_append_right _ _ (by simp; omega)]
  simp [Nat.min_eq_left (Nat.le_of_lt h)]
theorem curL_back (t : List Int) (j : Nat) (h : j < t.length) : (curL t (j + 1)).set j (-1) = curL t j := by
  rw [curL_set t j _ h, curL, show t.length - j = t.length - (j + 1) + 1 by omega, List.replicate_succ]
theorem full_back (t : List Int) (H : Int) (j : Nat) (h : j < t.length) (hf : t = t.take (j + 1) ++ List.replicate (t.length - (j + 1)) (H - 1)) (hd : t.getD j 0 = H - 1) : t = t.take j ++ List.replicate (t.length - j) (H - 1) := by
  have hf2 := hf
  rw [take_snoc t j h, hd, List.append_assoc] at hf2
  rw [show t.length - j = t.length - (j + 1) + 1 by omega, List.replicate_succ]
  exact hf2
theorem next_at (t : List Int) (H : Int) (j : Nat) (h : j < t.length) (hf : t = t.take (j + 1) ++ List.replicate (t.length - (j + 1)) (H - 1)) (hd : t.getD j 0 ≠ H - 1) : nextL H t = some ((curL t (j + 1)).set j (t.getD j 0 + 1)) := by
  rw [curL_set t j _ h]
  have hf2 := hf
  rw [take_snoc t j h, List.append_assoc] at hf2
  have h3 := nextL_at H (t.getD j 0) (t.take j) (t.length - (j + 1)) hd
  rw [show t.take j ++ t.getD j 0 :: List.replicate (t.length - (j + 1)) (H - 1) = t from hf2.symm] at h3
  exact h3
theorem next_none (t : List Int) (H : Int) (hf : t = t.take 0 ++ List.replicate (t.length - 0) (H - 1)) : nextL H t = none := by
  rw [hf]; simp only [List.take_zero, List.nil_append]; exact nextL_rep H _
theorem map_set_int (l : List Int) (j : Nat) (y : Int) : ((l.map (Value.int .i64)).toArray.setIfInBounds j (.int .i64 y)) = ((l.set j y).map (Value.int .i64)).toArray := by
  simp [List.map_set]
theorem enum_more {T : List (List Int)} {pre : List (Value × List Int)} {k : Nat} {t : List Int} (v : Value) (hp : pre.map (·.2) = T.take k) (ht : T[k]? = some t) : (pre ++ [(v, t)]).map (·.2) = T.take (k + 1) := by
  obtain ⟨h, e⟩ := List.getElem?_eq_some_iff.1 ht
  rw [List.map_append, hp, List.take_succ_eq_append_getElem h, e]; rfl
theorem enum_done {T : List (List Int)} {pre : List (Value × List Int)} {k : Nat} {t : List Int} (v : Value) (hp : pre.map (·.2) = T.take k) (ht : T[k]? = some t) (hn : T[k + 1]? = none) : (pre ++ [(v, t)]).map (·.2) = T := by
  rw [enum_more v hp ht]
  exact List.take_of_length_le (List.getElem?_eq_none_iff.1 hn)
end Go.Proofs.Ytodmemndaaiolaa.PC7
namespace Go.Proofs.Ytodmemndaaiolaa.PC7
open Go.RowKit Go.Proofs.YtodmemndaaiolaaW.PrintWords Go.Proofs.YtodmemndaaiolaaW.PrintLast Go.Proofs.YtodmemndaaiolaaW.PrintMore
attribute [local go_sem] max2_int min2_int max_two min_two max_three min_three max_four min_four
set_option linter.unusedVariables false
set_option linter.unusedSimpArgs false
def bits_Mul64.f (a0 : Int) (a1 : Int) : Option (Int × Int) := some (IntKind.u64.wrap ((IntKind.u64.wrap ((IntKind.u64.wrap ((a0 / 4294967296) * (a1 / 4294967296))) + ((IntKind.u64.wrap ((IntKind.u64.wrap ((a0 / 4294967296) * (Go.bits .and .u64 a1 4294967295))) + ((IntKind.u64.wrap ((Go.bits .and .u64 a0 4294967295) * (Go.bits .and .u64 a1 4294967295))) / 4294967296))) / 4294967296))) + ((IntKind.u64.wrap ((Go.bits .and .u64 (IntKind.u64.wrap ((IntKind.u64.wrap ((a0 / 4294967296) * (Go.bits .and .u64 a1 4294967295))) + ((IntKind.u64.wrap ((Go.bits .and .u64 a0 4294967295) * (Go.bits .and .u64 a1 4294967295))) / 4294967296))) 4294967295) + (IntKind.u64.wrap ((Go.bits .and .u64 a0 4294967295) * (a1 / 4294967296))))) / 4294967296)), IntKind.u64.wrap (a0 * a1))
set_option maxHeartbeats 8000000 in
set_option maxRecDepth 100000 in
theorem bits_Mul64.calls (a0 : Int) (a1 : Int) (r1 : Int) (r2 : Int) (w : World) (h : bits_Mul64.f a0 a1 = some (r1, r2)) :
  Calls Try.prog 92 #[.int .u64 a0, .int .u64 a1] w fun e w' => e = .returned (.tuple #[.int .u64 r1, .int .u64 r2]) ∧ Drawn0 w w' := by
 have H : (some (IntKind.u64.wrap ((IntKind.u64.wrap ((IntKind.u64.wrap ((a0 / 4294967296) * (a1 / 4294967296))) + ((IntKind.u64.wrap ((IntKind.u64.wrap ((a0 / 4294967296) * (Go.bits .and .u64 a1 4294967295))) + ((IntKind.u64.wrap ((Go.bits .and .u64 a0 4294967295) * (Go.bits .and .u64 a1 4294967295))) / 4294967296))) / 4294967296))) + ((IntKind.u64.wrap ((Go.bits .and .u64 (IntKind.u64.wrap ((IntKind.u64.wrap ((a0 / 4294967296) * (Go.bits .and .u64 a1 4294967295))) + ((IntKind.u64.wrap ((Go.bits .and .u64 a0 4294967295) * (Go.bits .and .u64 a1 4294967295))) / 4294967296))) 4294967295) + (IntKind.u64.wrap ((Go.bits .and .u64 a0 4294967295) * (a1 / 4294967296))))) / 4294967296)), IntKind.u64.wrap (a0 * a1))) = some (r1, r2) := h
 clear h
 simp only [Option.some.injEq, Prod.mk.injEq] at H
 obtain ⟨rfl, rfl⟩ := H
 go_enter Try.func92, Try.ntmps92
 go_wp2
 go_ret2
 exact ⟨by first | rfl | (simp; done) | (simp [*]; done), by repeat (first | exact Drawn0.refl _ | apply Drawn0.step)⟩
def bits_Mul.f (a0 : Int) (a1 : Int) : Option (Int × Int) := (bits_Mul64.f a0 a1).bind fun bt155 => (some (bt155.1, bt155.2))
set_option maxHeartbeats 8000000 in
set_option maxRecDepth 100000 in
theorem bits_Mul.calls (a0 : Int) (a1 : Int) (r1 : Int) (r2 : Int) (w : World) (h : bits_Mul.f a0 a1 = some (r1, r2)) :
  Calls Try.prog 90 #[.int .u64 a0, .int .u64 a1] w fun e w' => e = .returned (.tuple #[.int .u64 r1, .int .u64 r2]) ∧ Drawn0 w w' := by
 have H : ((bits_Mul64.f a0 a1).bind fun bt155 => (some (bt155.1, bt155.2))) = some (r1, r2) := h
 clear h
 replace H := Option.bind_eq_some_iff.mp H
 obtain ⟨⟨t155, t156⟩, A30, H⟩ := H
 replace H : (some (t155, t156)) = some (r1, r2) := H
 have A3 := Aside0.mk A30
 clear A30
 simp only [Option.some.injEq, Prod.mk.injEq] at H
 obtain ⟨rfl, rfl⟩ := H
 go_enter Try.func90, Try.ntmps90
 go_wp2_with (first | ((with_reducible refine gate_callee (f := 92) rfl ?_); refine goesL_ (some 25) rfl rfl Try.func92 (by kernel_rfl) rfl #[.int .u64 a0, .int .u64 a1] rfl (by (try simp only [List.map_toArray, List.map_cons, List.map_nil]); first | done | rfl | (simp only [List.length_drop, List.length_take]; rfl)) ?_; (with_reducible refine (bits_Mul64.calls a0 a1 t155 t156 _ A3.out).mono ?_); rintro e w' ⟨rfl, ⟨nd, rfl⟩⟩; refine ⟨_, rfl, ?_⟩))
 go_ret2
 exact ⟨by first | rfl | (simp; done) | (simp [*]; done), by repeat (first | exact Drawn0.refl _ | apply Drawn0.step)⟩
end Go.Proofs.Ytodmemndaaiolaa.PC7
namespace Go.Proofs.Ytodmemndaaiolaa.PC7
set_option linter.unusedVariables false
set_option linter.unusedSimpArgs false
open Go.RowKit Go.Proofs.YtodmemndaaiolaaW.PrintWords Go.Proofs.YtodmemndaaiolaaW.PrintLast Go.Proofs.YtodmemndaaiolaaW.PrintMore
theorem mul_one : ∀ n : Nat, n ≤ 6 → bits_Mul.f 1 (n : Int) = some (0, (n : Int))
  | 0, _ => by kernel_rfl
  | 1, _ => by kernel_rfl
  | 2, _ => by kernel_rfl
  | 3, _ => by kernel_rfl
  | 4, _ => by kernel_rfl
  | 5, _ => by kernel_rfl
  | 6, _ => by kernel_rfl
  | n + 7, h => by omega
def repL (n m : Nat) : List Value := List.replicate m (Value.int .i64 (-1)) ++ List.replicate (n - m) (Value.int .i64 0)
theorem repL_len (n m : Nat) (h : m ≤ n) : (repL n m).length = n := by simp [repL]; omega
theorem repL_zero (n : Nat) : madeCells #[Value.int .i64 0] n = (repL n 0).toArray := by
  apply Array.ext
  · simp [size_madeCells, repL]
  · intro i h1 h2
    simp [madeCells, repL, Nat.mod_one]
theorem repL_splice (n m k : Nat) (h : m + k ≤ n) : splice (repL n m) m (List.replicate k (Value.int .i64 (-1))) = repL n (m + k) := by
  unfold splice repL
  have h1 : (List.replicate m (Value.int .i64 (-1)) ++ List.replicate (n - m) (Value.int .i64 0)).take m = List.replicate m (Value.int .i64 (-1)) := by rw [List.take_append_of_le_length (by simp)]; simp
  rw [h1, List.length_replicate, List.drop_append, List.drop_of_length_le (by simp), List.nil_append, List.drop_replicate, ← List.append_assoc, List.replicate_append_replicate]
  congr 2
  simp
  omega
theorem repL_get (n m j : Nat) (h : j < m) : (repL n m)[j]? = some (Value.int .i64 (-1)) := by
  unfold repL
  rw [List.getElem?_append_left (by simpa using h)]
  simp [h]
set_option maxHeartbeats 8000000 in
set_option maxRecDepth 100000 in
theorem repeat_calls (gx n : Nat) (w : World) (hn : n ≤ 6) (hx : w.heap[gx]? = some (.cells #[.int .i64 (-1)] 3 (0, 0))) :
    Calls Try.prog 83 #[.slice (some ⟨gx, 0, none⟩) 1 1, .int .i64 (n : Int)] w fun e w' => ∃ g, e = .returned (.slice (some ⟨g, 0, none⟩) n n) ∧ w'.heap[g]? = some (.cells (List.replicate n (Value.int .i64 (-1))).toArray 3 (0, 0)) ∧ w.heap.size ≤ g ∧ Below w.heap.size w w' := by
  have HX := Aside0.mk hx
  have HM := Aside0.mk (mul_one n hn)
  have hnn : ¬ (n : Int) < 0 := by omega
  have hcv : IntKind.u64.wrap (n : Int) = (n : Int) := IntWalk.u64_in _ (by omega)
  have hci : IntKind.i64.wrap (n : Int) = (n : Int) := IntWalk.i64_in _ (by omega)
  have hbig : decide ((9223372036854775807 : Int) < (n : Int)) = false := decide_eq_false (by omega)
  clear hx
  go_enter Try.func83, Try.ntmps83
  go_wp2_with (fail)
  refine (bits_Mul.calls 1 (n : Int) 0 (n : Int) w HM.out).mono ?_
  rintro e w' ⟨rfl, ⟨m, rfl⟩⟩
  have hmk : ∀ W : World, (Instr.makeSlice 27 (.int .i64 (n : Int)) (.int .i64 (n : Int))).run Try.prog W = .ok (.slice (some ⟨W.heap.size, 0, none⟩) n n) (W.alloc (.cells (repL n 0).toArray 3)) := fun W => by
    rw [run_make_row' 27 3 (.int .i64 0) 8 Try.underlying27 info3 rfl .i64 .i64 n (by omega) (by omega) W, repL_zero]
  have hsz3 : (Try.prog.info? 3).map (·.size) = some 1 := by kernel_rfl
  have HSZ := Aside0.mk hsz3
  clear hsz3
  obtain ⟨w1, hw1⟩ : ∃ w1 : World, w1 = w.drewN m := ⟨_, rfl⟩
  have HB := Aside0.mk (show Below w.heap.size w w1 by rw [hw1]; exact pw_below_drewN (Below.refl _ _) m)
  rw [← hw1]
  clear hw1
  go_upto_region 7 with (fail)
  clear hmk
  obtain ⟨g, hg_⟩ : ∃ b, b = w1.heap.size := ⟨_, rfl⟩
  have Ng := Aside0.mk (blk_new w1 (.cells (repL n 0).toArray 3 (0, 0)))
  have hbw : Below w1.heap.size w1 (w1.alloc (.cells (repL n 0).toArray 3 (0, 0))) := below_alloc (Below.refl _ _) _
  have hgs_ : w.heap.size ≤ g := by rw [hg_]; exact HB.out.size
  generalize hw_ : w1.alloc (.cells (repL n 0).toArray 3 (0, 0)) = w2 at *
  rw [← hg_] at Ng ⊢
  replace HB := Aside0.mk (below_step HB.out hbw)
  have GEg : Aside0 (w.heap.size ≤ g) := ⟨hgs_⟩
  clear hbw hw_ hg_ hgs_
  have hcs : ∃ k, k = min 1 n := ⟨_, rfl⟩
  obtain ⟨k0, hk0⟩ := hcs
  have HXc := Aside0.mk (blk_below HX.out HB.out)
  have CL := Aside0.mk (show (List.replicate k0 (Value.int .i64 (-1))).length = Nat.min 1 n by rw [List.length_replicate, hk0])
  have CP := Aside0.mk (show 0 < (List.replicate k0 (Value.int .i64 (-1))).length → some (⟨g, 0, none⟩ : Addr) = some ⟨g, 0, none⟩ ∧ ∃ ad, some (⟨gx, 0, none⟩ : Addr) = some ad ∧ ∀ j v, (List.replicate k0 (Value.int .i64 (-1)))[j]? = some v → w2.cell? (ad.add j) = some v from fun hp => ⟨rfl, _, rfl, fun j v hj => by
    have hj0 : j < k0 := by
      have := (List.getElem?_eq_some_iff.1 hj).1
      simpa using this
    have : j = 0 := by omega
    subst this
    rw [List.getElem?_replicate] at hj
    rw [if_pos hj0] at hj
    injection hj with hj
    subst hj
    exact (blk_cell HXc.out 0).trans rfl⟩)
  have CF := Aside0.mk (show 0 + (List.replicate k0 (Value.int .i64 (-1))).length ≤ (repL n 0).length by rw [repL_len n 0 (by omega), List.length_replicate]; omega)
  have C1 := Aside0.mk (show ∀ v ∈ List.replicate k0 (Value.int .i64 (-1)), v.oneCell' = true from fun v hv => by rw [List.eq_of_mem_replicate hv]; rfl)
  go_wp2_with ((with_reducible refine gate_builtin (b := .copy) (xs := #[.tmp 31, .tmp 32]) rfl ?_); refine wpList_copy_splice rfl (.tmp 31) (.tmp 32) 27 27 rfl 3 Try.underlying27 HSZ.out (some ⟨g, 0, none⟩) (some ⟨gx, 0, none⟩) n n 1 1 rfl rfl g 0 (repL n 0) 3 Ng.out (List.replicate k0 (Value.int .i64 (-1))) CL.out CP.out CF.out C1.out w.heap.size w HB.out GEg.out ?_; intro w3 hid hb3; have B3 := Aside0.mk hid.out; have HB3 := Aside0.mk hb3; clear hid hb3)
  have B4 := Aside0.mk (show w3.heap[g]? = some (.cells (repL n k0).toArray 3 (0, 0)) by have h := repL_splice n 0 k0 (by omega); rw [Nat.zero_add] at h; rw [← h]; exact B3.out)
  clear Ng B3 CL CP CF C1 HB HXc
  go_loopg [8] n (fun gk v8 wr => ∃ m : Nat, m ≤ n ∧ (0 < m ∨ n = 0) ∧ n - m ≤ gk ∧ v8 = .int .i64 m ∧ Aside0 (wr.heap[g]? = some (.cells (repL n m).toArray 3 (0, 0))) ∧ Aside0 (Below w.heap.size w wr))
  case atStart => exact ⟨k0, by omega, by omega, by omega, by rw [hk0], B4, HB3⟩
  case round =>
    clear B4 HB3
    obtain ⟨m, hm, hm0, hgk, rfl, B3, HB⟩ := hrel
    by_cases hlt : m < n
    · have hlz : (m : Int) < (n : Int) := by omega
      obtain ⟨k1, hk1⟩ : ∃ k, k = min m (n - m) := ⟨_, rfl⟩
      go_upto_region 9 with (fail)
      have hd_ := below_drew1 (Below.refl wr.heap.size wr)
      replace B3 := Aside0.mk (blk_drew B3.out)
      replace HB := Aside0.mk (below_step HB.out hd_)
      clear hd_
      have CL := Aside0.mk (show (List.replicate k1 (Value.int .i64 (-1))).length = Nat.min m (n - m) by rw [List.length_replicate, hk1])
      have CP := Aside0.mk (show 0 < (List.replicate k1 (Value.int .i64 (-1))).length → (if n = m then some (⟨g, 0, none⟩ : Addr) else some ⟨g, m, none⟩) = some ⟨g, m, none⟩ ∧ ∃ ad, some (⟨g, 0, none⟩ : Addr) = some ad ∧ ∀ j v, (List.replicate k1 (Value.int .i64 (-1)))[j]? = some v → wr.drew.cell? (ad.add j) = some v from fun hp => ⟨if_neg (by omega), _, rfl, fun j v hj => by
        have hj0 : j < k1 := by
          have := (List.getElem?_eq_some_iff.1 hj).1
          simpa using this
        rw [List.getElem?_replicate, if_pos hj0] at hj
        refine ((congrArg wr.drew.cell? (show Addr.add ⟨g, 0, none⟩ j = ⟨g, j, none⟩ by simp [Addr.add, eq_comm])).trans (blk_cell B3.out j)).trans ?_
        rw [List.getElem?_toArray, repL_get n m j (by omega)]
        exact hj⟩)
      have CF := Aside0.mk (show m + (List.replicate k1 (Value.int .i64 (-1))).length ≤ (repL n m).length by rw [repL_len n m hm, List.length_replicate]; omega)
      have C1 := Aside0.mk (show ∀ v ∈ List.replicate k1 (Value.int .i64 (-1)), v.oneCell' = true from fun v hv => by rw [List.eq_of_mem_replicate hv]; rfl)
      refine start_ (n := 10) (S := fun w' => True) (ds := [7]) #[false, false, false, false, false, false, false, false, false, false] (by kernel_rfl) rfl rfl trivial (fun hHeld => ?_)
      generalize wr.drew = wd at B3 HB CP hHeld ⊢
      refine pure_ (i := 0) (N := some 38) (v := ?_) (a' := ?_) #[true, false, false, false, false, false, false, false, false, false] rfl rfl (by kernel_rfl) (fun _ _ _ h => h) (Or.inl ⟨by rfl, ?_⟩) ?_ ?_
      rotate_left
      · intro w'
        go_simp
        with_reducible rfl
      rotate_left
      · simp only [Act.put, List.setIfInBounds_toArray, List.set_cons_zero, List.set_cons_succ, i64_w, i32_w]
        rfl
      refine pure_ (i := 1) (N := some 39) (v := ?_) (a' := ?_) #[true, true, false, false, false, false, false, false, false, false] rfl rfl (by kernel_rfl) (fun _ _ _ h => h) (Or.inl ⟨by rfl, ?_⟩) ?_ ?_
      rotate_left
      · intro w'
        go_simp
        with_reducible rfl
      rotate_left
      · simp only [Act.put, List.setIfInBounds_toArray, List.set_cons_zero, List.set_cons_succ, i64_w, i32_w]
        rfl
      refine pure_ (i := 2) (N := some 40) (v := ?_) (a' := ?_) #[true, true, true, false, false, false, false, false, false, false] rfl rfl (by kernel_rfl) (fun _ _ _ h => h) (Or.inl ⟨by rfl, ?_⟩) ?_ ?_
      rotate_left
      · intro w'
        go_simp
        with_reducible rfl
      rotate_left
      · simp only [Act.put, List.setIfInBounds_toArray, List.set_cons_zero, List.set_cons_succ, i64_w, i32_w]
        rfl
      refine pure_ (i := 3) (N := some 41) (v := ?_) (a' := ?_) #[true, true, true, true, false, false, false, false, false, false] rfl rfl (by kernel_rfl) (fun _ _ _ h => h) (Or.inl ⟨by rfl, ?_⟩) ?_ ?_
      rotate_left
      · intro w'
        go_simp
        with_reducible rfl
      rotate_left
      · simp only [Act.put, List.setIfInBounds_toArray, List.set_cons_zero, List.set_cons_succ, i64_w, i32_w]
        rfl
      refine pure_ (i := 4) (N := some 42) (v := ?_) (a' := ?_) #[true, true, true, true, true, false, false, false, false, false] rfl rfl (by kernel_rfl) (fun _ _ _ h => h) (Or.inl ⟨by rfl, ?_⟩) ?_ ?_
      rotate_left
      · intro w'
        go_simp
        with_reducible rfl
      rotate_left
      · simp only [Act.put, List.setIfInBounds_toArray, List.set_cons_zero, List.set_cons_succ, i64_w, i32_w]
        rfl
      refine pure_ (i := 5) (N := some 43) (v := ?_) (a' := ?_) #[true, true, true, true, true, true, false, false, false, false] rfl rfl (by kernel_rfl) (fun _ _ _ h => h) (Or.inl ⟨by rfl, ?_⟩) ?_ ?_
      rotate_left
      · intro w'
        go_simp
        with_reducible rfl
      rotate_left
      · simp only [Act.put, List.setIfInBounds_toArray, List.set_cons_zero, List.set_cons_succ, i64_w, i32_w]
        rfl
      refine pure_ (i := 6) (N := some 44) (v := ?_) (a' := ?_) #[true, true, true, true, true, true, true, false, false, false] rfl rfl (by kernel_rfl) (fun _ _ _ h => h) (Or.inl ⟨by rfl, ?_⟩) ?_ ?_
      rotate_left
      · intro w'
        go_simp
        with_reducible rfl
      rotate_left
      · simp only [Act.put, List.setIfInBounds_toArray, List.set_cons_zero, List.set_cons_succ, i64_w, i32_w]
        rfl
      refine last_ (i := 7) (N := some 45) #[true, true, true, true, true, true, true, true, false, false] rfl rfl (by kernel_rfl) (by decide) (fun K hK => ?_)
      refine step_copy_splice rfl (.tmp 41) (.tmp 44) 27 27 rfl 3 Try.underlying27 HSZ.out _ _ _ _ _ _ rfl rfl g m (repL n m) 3 B3.out (List.replicate k1 (.int .i64 (-1))) CL.out CP.out CF.out C1.out w.heap.size w HB.out GEg.out ?_
      intro w' hid hb'
      have B5 := Aside0.mk hid.out
      have HB5 := Aside0.mk hb'
      clear hid hb'
      refine hK.out _ _ ?_
      clear hK K
      refine norm_ (a' := ?_) ?_ ?_
      rotate_left
      · show Act.put _ (some 45) _ = _
        simp only [Act.put, List.setIfInBounds_toArray, List.set_cons_zero, List.set_cons_succ, i64_w, i32_w]
        rfl
      refine pure_ (i := 8) (N := some 46) (v := ?_) (a' := ?_) #[true, true, true, true, true, true, true, true, true, false] rfl rfl (by kernel_rfl) (fun _ _ _ h => h) (Or.inl ⟨by rfl, ?_⟩) ?_ ?_
      rotate_left
      · intro w'
        go_simp
        with_reducible rfl
      rotate_left
      · simp only [Act.put, List.setIfInBounds_toArray, List.set_cons_zero, List.set_cons_succ, i64_w, i32_w]
        rfl
      refine pure_ (i := 9) (N := some 8) (v := ?_) (a' := ?_) #[true, true, true, true, true, true, true, true, true, true] rfl rfl (by kernel_rfl) (fun _ _ _ h => h) (Or.inl ⟨by rfl, ?_⟩) ?_ ?_
      rotate_left
      · intro w'
        go_simp
        with_reducible rfl
      rotate_left
      · simp only [Act.put, List.setIfInBounds_toArray, List.set_cons_zero, List.set_cons_succ, i64_w, i32_w]
        rfl
      refine done_ (by kernel_rfl) ?_
      clear CL CP CF C1 HB
      have B6 := Aside0.mk (show w'.heap[g]? = some (.cells (repL n (m + k1)).toArray 3 (0, 0)) by rw [← repL_splice n m k1 (by omega)]; exact B5.out)
      go_wp2
      go_roundg (n - (m + k1))
      case measure => omega
      case rel => exact ⟨m + k1, by omega, by omega, by omega, (congrArg (Value.int .i64) (by first | omega | (rw [IntWalk.wrap64_in _ (by omega)]; omega))), B6, HB5⟩
    · have : m = n := by omega
      subst this
      go_wp2
      go_ret
      refine ⟨g, rfl, ?_, GEg.out, HB.out⟩
      have hb := B3.out
      unfold repL at hb
      rw [Nat.sub_self] at hb
      simpa using hb
set_option maxHeartbeats 8000000 in
set_option maxRecDepth 100000 in
theorem clone_calls (ad : Addr) (c : Nat) (l : List Int) (w : World) (hr : Kd.C (Kd.int .i64) w (some ad) l.length l) (hc : l.length ≤ c) (hl : l.length ≤ 1000000) :
    Calls Try.prog 84 #[.slice (some ad) l.length c] w fun e w' => ∃ v, e = .returned v ∧ Kd.R (Kd.int .i64) 3 w' w.heap.size (fun _ => True) v l ∧ Below w.heap.size w w' := by
  have HR0 := Aside0.mk hr
  clear hr
  obtain ⟨y0, hy0⟩ : ∃ y : List Int, y = [] := ⟨_, rfl⟩
  have hyl : y0.length = 0 := by rw [hy0]; rfl
  have HY := Aside0.mk hy0
  clear hy0
  have hnil : ∀ w : World, (binOp .eql 27 (.slice (some ad) l.length c) (.slice none 0 0)).run Try.prog w = .ok (.bool false) w := fun w => Lib.run_eql_slice_nil w 27 3 (some ad) l.length c 0 0 Try.underlying27
  go_enter Try.func84, Try.ntmps84
  go_wp2_with (first
    | ((with_reducible refine gate_dst (N := 5) rfl ?_); refine Kd.R_lit (Kd.int .i64) _ 3 ?hg (N := 5) ?hd (xs := ([] : List Int)) (inner := []) (ok := fun _ => True) (okp := fun _ => True) ?hr ?hp (fun _ hk => hk) trivial (Below.refl _ _) (Nat.le_refl _) (by simp) ?_; (case hd => rfl); (case hg => rfl); (case hr => first | (go_simp; done) | (go_simp; rfl)); (case hp => exact (Reps.none _ _)); intro v3 w3 ho hb hg_ hnew_; clear hg_ hnew_; rw [← HY.out] at ho; have HO := Aside0.mk ho; have HB := Aside0.mk hb; clear hb ho)
    | ((with_reducible refine gate_builtin (b := .append) (xs := #[.tmp 5, .tmp 6]) rfl ?_); at_builtin; refine Kd.R_append_rows (Kd.int .i64) (w0 := w) w.heap.size rfl (.tmp 5) (.tmp 6) 27 3 (.int .i64 0) 8 rfl Try.underlying27 info3 rfl (by decide) (by omega) v3 y0 l _ _ _ (fun _ => True) (fun _ => False) rfl rfl ?aO ?aR (fun _ _ h => h) (fun _ h => h.elim) ?aF ?aB ?aS ?aL ?_; (case aR => exact Kd.C_below HR0.out HB.out); (case aB => exact HB.out); (case aF => exact (fun _ _ => trivial)); (case aO => exact HO.out); (case aS => exact HB.out.size); (case aL => omega); intro v4 w5 ho hb hg hat; rw [HY.out, List.nil_append] at ho; have HO5 := Aside0.mk ho; have HB5 := Aside0.mk hb; clear ho hb hg hat))
  go_ret
  exact ⟨_, rfl, HO5.out, HB5.out⟩
end Go.Proofs.Ytodmemndaaiolaa.PC7
namespace Go.Proofs.Ytodmemndaaiolaa.PC7
set_option linter.unusedVariables false
set_option linter.unusedSimpArgs false
open Go.RowKit Go.Proofs.YtodmemndaaiolaaW.PrintWords Go.Proofs.YtodmemndaaiolaaW.PrintLast Go.Proofs.YtodmemndaaiolaaW.PrintMore
open Go.Shelf
attribute [local go_sem] Oper.semAt_some
def KpB (gb : Nat) (A B : World) : Prop := ∀ b o, b ≠ gb → A.heap[b]? = some o → o.isCells = true → B.heap[b]? = some o
def encStow (x : Value × List Int) : Array Value := #[x.1]
def RxS (n₀ : Nat) (L : List (List Int)) (b : Nat) (x : Value × List Int) (W : World) : Prop := x.2 ∈ L ∧ ∃ base, n₀ ≤ base ∧ b < base ∧ Kd.R (Kd.int .i64) 3 W base (fun _ => True) x.1 x.2
set_option maxHeartbeats 8000000 in
set_option maxRecDepth 100000 in
theorem clone_row (g N : Nat) (l : List Int) (w : World) (hb : w.heap[g]? = some (.cells (l.map (Value.int .i64)).toArray 3 (0, 0))) (hl : l.length = N) (hN : N ≤ 6) :
    Calls Try.prog 84 #[.slice (some ⟨g, 0, none⟩) N N] w fun e w' => ∃ v, e = .returned v ∧ Kd.R (Kd.int .i64) 3 w' w.heap.size (fun _ => True) v l ∧ Below w.heap.size w w' := by
  subst hl
  refine clone_calls ⟨g, 0, none⟩ l.length l w ?_ (Nat.le_refl _) (by omega)
  refine (Kd.R_reads' (R_of_owns .i64 (e := 3) (W := w) (base := 0) (v := .slice (some ⟨g, 0, none⟩) l.length l.length) (xs := l) ⟨by simp, .inr ⟨g, l.length, _, rfl, Nat.zero_le _, hb, Nat.le_refl _, by unfold maxLen; omega, by simp, by rw [Nat.mul_one]; exact List.take_of_length_le (by simp)⟩⟩)).2.2
set_option maxHeartbeats 8000000 in
set_option maxRecDepth 100000 in
theorem stowages_gives (n gv n₀ gbest : Nat) (hn : 1 ≤ n) (x : VoyV) (w : World) (hb : w.heap[gv]? = some (.cells #[.int .i64 x.light, .int .i64 x.under, .int .i64 x.trim, .slice x.A3 x.holds.length x.c3, .int .i64 x.leaves, .slice x.A5 x.sills.length x.c5, .slice x.A6 x.lots.length x.c6] 26 (0, 0))) (hne : gv ≠ gbest) (hlt : gbest < w.heap.size) (hH : x.holds.length ≤ 100) (hN : x.lots.length ≤ 6) (hn0 : n₀ ≤ w.heap.size) :
    GivesR n 82 #[.pointer (some ⟨gv, 0, none⟩)] encStow (RxS n₀ (stowsL x.holds.length x.lots.length)) (KpB gbest) (fun xs => xs.map (·.2) = stowsL x.holds.length x.lots.length) w := by
  intro l J W hW hJ hJs hY h0
  refine callsIn_wide.2 ?_
  have BV := Aside0.mk (blk_below hb hW)
  have HY := Aside0.mk hY
  have H0 := Aside0.mk h0
  have HW := Aside0.mk (Below.refl W.heap.size W)
  have HLT := Aside0.mk (show gbest < W.heap.size from Nat.lt_of_lt_of_le hlt hW.size)
  have HN0 := Aside0.mk (Nat.le_trans hn0 hW.size)
  have HNV := Aside0.mk (show gv < W.heap.size from blk_lt BV.out)
  clear hb hY h0 hW hlt hn0
  have hz6_ : (W.alloc (.cells #[.int .i64 (-1)] 3 (0, 0))).cell? ⟨gv, 6, none⟩ = some (.slice x.A6 x.lots.length x.c6) := (blk_cell (blk_below BV.out (below_alloc HW.out _)) 6).trans rfl
  go_enter Try.func82, Try.ntmps82
  go_wp2_with (fail)
  refine (repeat_calls W.heap.size x.lots.length _ hN (blk_new _ _)).mono ?_
  rintro e w1 ⟨g, rfl, hg1, hgs, hb1⟩
  have BG0 := Aside0.mk hg1
  have GE := Aside0.mk (show W.heap.size ≤ g by have := World.size_alloc W (.cells #[.int .i64 (-1)] 3 (0, 0)); omega)
  have HB1 := Aside0.mk (show Below W.heap.size W w1 from below_step (below_alloc (Below.refl _ _) _) hb1)
  have BV1 := Aside0.mk (blk_below BV.out HB1.out)
  have HJ1 := Aside0.mk (hJ g _ _ _ _ (H0.out g GE.out) (grown_of_below HB1.out none) (by simp))
  clear hg1 hgs hb1 hz6_ H0 HW BV
  go_wp2_with (fail)
  obtain ⟨T, hT⟩ : ∃ T : List (List Int), T = stowsL x.holds.length x.lots.length := ⟨_, rfl⟩
  obtain ⟨r0, hr0⟩ := stowsL_head x.holds.length x.lots.length
  have HTM := Aside0.mk (fun k t (h : (stowsL x.holds.length x.lots.length)[k]? = some t) => stowsL_mem _ _ t (List.mem_of_getElem? h))
  have HTN := Aside0.mk (stowsL_next x.holds.length x.lots.length)
  rw [← hT] at hr0 HTM HTN
  have HTQ := Aside0.mk hT
  have HT0 := Aside0.mk (show T[0]? = some (List.replicate x.lots.length (-1)) by rw [hr0]; rfl)
  have HTT := Aside0.mk (show 0 < T.length by rw [hr0]; simp)
  clear hr0 r0 hT
  go_loopg [4] T.length (fun gk v4 wr => ∃ k : Nat, ∃ pre : List (Value × List Int), ∃ t : List Int, k < T.length ∧ T.length - k ≤ gk + 1 ∧ Aside0 (pre.map (·.2) = T.take k) ∧ Aside0 (T[k]? = some t) ∧ Aside0 (J g pre wr) ∧ Aside0 (wr.heap[g]? = some (.cells (t.map (Value.int .i64)).toArray 3 (0, 0))) ∧ Aside0 (wr.heap[gv]? = some (.cells #[.int .i64 x.light, .int .i64 x.under, .int .i64 x.trim, .slice x.A3 x.holds.length x.c3, .int .i64 x.leaves, .slice x.A5 x.sills.length x.c5, .slice x.A6 x.lots.length x.c6] 26 (0, 0))))
  case atStart => exact ⟨0, [], _, HTT.out, by omega, ⟨rfl⟩, HT0, HJ1, ⟨by rw [BG0.out]; simp⟩, BV1⟩
  case round =>
    clear BG0 HB1 BV1 HJ1 HT0 HTT
    obtain ⟨k, pre, t, hk, hgk, HPR, HTK, HJP, BG, BV⟩ := hrel
    obtain ⟨htl, hte⟩ := HTM.out k t HTK.out
    have HTE := Aside0.mk hte
    clear hte
    refine (wpIn_wide (n := n)).1 ?_
    gi_wp2
    refine ⟨trivial, callsIn_wide.2 ((clone_row g x.lots.length t wr BG.out htl hN).mono ?_)⟩
    rintro e w2 ⟨v, rfl, hR, hb2⟩
    have hgl : g < wr.heap.size := blk_lt BG.out
    have hRX : RxS n₀ (stowsL x.holds.length x.lots.length) g (v, t) w2 := ⟨by rw [← HTQ.out]; exact List.mem_of_getElem? HTK.out, wr.heap.size, by have := HN0.out; have := GE.out; omega, hgl, hR⟩
    have BG2 := Aside0.mk (blk_below BG.out hb2)
    have BV2 := Aside0.mk (blk_below BV.out hb2)
    have hJ2 := hJ g _ _ _ _ HJP.out (grown_of_below hb2 none) (by simp)
    obtain ⟨fn, tmps, assign, body, hy, hRR⟩ := HY.out g pre (v, t) w2 GE.out hJ2 hRX
    dsimp only [encStow] at hy
    have HRR := Aside0.mk hRR
    clear hRR hJ2 hRX hR hb2 hgl BG BV HJP
    gi_wp2
    refine HRR.out.mono ?_
    rintro e W3 ⟨rfl, hJ3, hk3⟩
    have HJ3 := Aside0.mk hJ3
    have BG3 := Aside0.mk (hk3 g _ (by have := HLT.out; have := GE.out; omega) BG2.out rfl)
    have BV3 := Aside0.mk (hk3 gv _ hne BV2.out rfl)
    clear hJ3 hk3 HRR hy BG2 BV2
    gi_wp2
    refine wpIn_wide.2 ?_
    have HN := Aside0.mk (HTN.out k t HTK.out)
    go_loopg [4] x.lots.length (fun gk2 v4 wr2 => ∃ j : Nat, j ≤ x.lots.length ∧ j ≤ gk2 ∧ v4 = .int .i64 ((j : Int) - 1) ∧ Aside0 (t = t.take j ++ List.replicate (t.length - j) ((x.holds.length : Int) - 1)) ∧ Aside0 (J g (pre ++ [(v, t)]) wr2) ∧ Aside0 (wr2.heap[g]? = some (.cells ((curL t j).map (Value.int .i64)).toArray 3 (0, 0))) ∧ Aside0 (wr2.heap[gv]? = some (.cells #[.int .i64 x.light, .int .i64 x.under, .int .i64 x.trim, .slice x.A3 x.holds.length x.c3, .int .i64 x.leaves, .slice x.A5 x.sills.length x.c5, .slice x.A6 x.lots.length x.c6] 26 (0, 0))))
    case atStart => exact ⟨x.lots.length, Nat.le_refl _, Nat.le_refl _, rfl, ⟨by rw [← htl]; simp⟩, HJ3, ⟨by rw [← htl, curL_all]; exact BG3.out⟩, BV3⟩
    case round =>
      clear BG3 BV3 HJ3
      obtain ⟨j, hj, hgk2, rfl, HF, HJP, BG, BV⟩ := hrel
      cases j with
      | zero =>
        have HDN := Aside0.mk (enum_done v HPR.out HTK.out (HN.out.symm.trans (next_none t _ HF.out)))
        go_upto_region 3 with (fail)
        go_quiet (fail)
        have HJ4 := Aside0.mk (hJ g _ _ _ _ HJP.out (grown_of_below (pw_below_drewN (Below.refl _ _) nq) none) (by simp))
        obtain ⟨wq, hwq⟩ : ∃ wq : World, wq = wr.drewN nq := ⟨_, rfl⟩
        rw [← hwq] at HJ4 ⊢
        clear hwq
        go_wp2
        refine wpIn_wide.2 ?_
        go_wp2
        refine bodyPost_ret (results_none rfl _ _ _) rfl ?_
        exact ⟨⟨_, rfl⟩, g, _, GE.out, by rw [← HTQ.out]; exact HDN.out, HJ4.out⟩
      | succ j =>
        rw [show ((j + 1 : Nat) : Int) - 1 = (j : Int) by omega]
        have hjl : j < t.length := by omega
        have hjz : (j : Int) < (x.lots.length : Int) := by omega
        have hge : decide ((0 : Int) ≤ (j : Int)) = true := decide_eq_true (by omega)
        have HG := Aside0.mk (curL_get t j hjl)
        have HC := Aside0.mk (curL_back t j hjl)
        have hcl : wr.cell? ⟨g, j, none⟩ = some (.int .i64 (t.getD j 0)) := (blk_cell BG.out j).trans (by rw [List.getElem?_toArray, List.getElem?_map, HG.out]; rfl)
        have hz3 : wr.cell? ⟨gv, 3, none⟩ = some (.slice x.A3 x.holds.length x.c3) := (blk_cell BV.out 3).trans rfl
        have HI := Aside0.mk (HTE.out (t.getD j 0) (by rw [List.getD, List.getElem?_eq_getElem hjl]; exact List.getElem_mem hjl))
        by_cases hd : t.getD j 0 = (x.holds.length : Int) - 1
        · have HFB := Aside0.mk (full_back t _ j hjl HF.out hd)
          rw [hd] at hcl
          clear HF HI
          go_upto_region 3 with (fail)
          go_quiet (fail)
          have HJ4 := Aside0.mk (hJ g _ _ _ _ HJP.out (grown_of_below (pw_below_drewN (Below.refl _ _) nq) none) (by simp))
          have BG4 := Aside0.mk (blk_drewN BG.out nq)
          have BV4 := Aside0.mk (blk_drewN BV.out nq)
          obtain ⟨wq, hwq⟩ : ∃ wq : World, wq = wr.drewN nq := ⟨_, rfl⟩
          rw [← hwq] at HJ4 BG4 BV4 ⊢
          clear hwq hcl hz3 BG BV HJP
          have hcl : wq.cell? ⟨g, j, none⟩ = some (.int .i64 ((x.holds.length : Int) - 1)) := (blk_cell BG4.out j).trans (by rw [List.getElem?_toArray, List.getElem?_map, HG.out, hd]; rfl)
          have HSJ := Aside0.mk (hJs g _ _ j (.int .i64 (-1)) GE.out HJ4.out (by rw [hcl]; simp))
          have BG5 := Aside0.mk (blk_put BG4.out j (.int .i64 (-1)) ((map_set_int (curL t (j + 1)) j (-1)).trans (by rw [HC.out])))
          have BV5 := Aside0.mk (blk_far BV4.out (p := ⟨g, j, none⟩) (by have := HNV.out; have := GE.out; show gv ≠ g; omega) (.int .i64 (-1)))
          have hfz := blk_frozen BG4.out
          clear HG
          go_wp2
          go_roundg j
          case measure => omega
          case rel => exact ⟨j, by omega, Nat.le_refl _, rfl, HFB, HSJ, BG5, BV5⟩
        · have HNX := Aside0.mk (next_at t _ j hjl HF.out hd)
          have hdi := HI.out
          clear HF HI
          generalize t.getD j 0 = d at *
          have hdb : (d == (x.holds.length : Int) - 1) = false := beq_eq_false_iff_ne.2 hd
          go_upto_region 3 with (fail)
          go_quiet (fail)
          have HJ4 := Aside0.mk (hJ g _ _ _ _ HJP.out (grown_of_below (pw_below_drewN (Below.refl _ _) nq) none) (by simp))
          have BG4 := Aside0.mk (blk_drewN BG.out nq)
          have BV4 := Aside0.mk (blk_drewN BV.out nq)
          obtain ⟨wq, hwq⟩ : ∃ wq : World, wq = wr.drewN nq := ⟨_, rfl⟩
          rw [← hwq] at HJ4 BG4 BV4 ⊢
          have hcq : wq.cell? ⟨g, j, none⟩ = some (.int .i64 d) := (blk_cell BG4.out j).trans (by rw [List.getElem?_toArray, List.getElem?_map, HG.out]; rfl)
          clear hwq hcl hz3 BG BV HJP
          have HSJ := Aside0.mk (hJs g _ _ j (.int .i64 (d + 1)) GE.out HJ4.out (by rw [hcq]; simp))
          have BG5 := Aside0.mk (blk_put BG4.out j (.int .i64 (d + 1)) (map_set_int (curL t (j + 1)) j (d + 1)))
          have BV5 := Aside0.mk (blk_far BV4.out (p := ⟨g, j, none⟩) (by have := HNV.out; have := GE.out; show gv ≠ g; omega) (.int .i64 (d + 1)))
          have hfz := blk_frozen BG4.out
          have HK1 := Aside0.mk (HN.out.symm.trans HNX.out)
          have HLK := Aside0.mk (List.getElem?_eq_some_iff.1 HK1.out).1
          have HMO := Aside0.mk (enum_more v HPR.out HTK.out)
          have hgx := HLK.out
          clear HG
          go_wp2
          refine wpIn_wide.2 ?_
          go_wp2
          go_roundg (T.length - (k + 2))
          case measure => omega
          case rel => exact ⟨k + 1, _, _, HLK.out, by omega, HMO, HK1, HSJ, BG5, BV5⟩
end Go.Proofs.Ytodmemndaaiolaa.PC7
namespace Go.Proofs.Ytodmemndaaiolaa.PC7
set_option linter.unusedVariables false
open Go.RowKit Go.Proofs.YtodmemndaaiolaaW.PrintLast
section
variable {P : Program} {ops : Array Oper} {Q : Exit → Act → World → Prop} {md : Region.Mode} {S : World → Prop} {ds : List Nat} {l n : Nat}
theorem opIn_of_wp {o : Oper} {a : Act} {w : World} {K : Act → World → Prop} (hd : ∀ c, o.op ≠ .defer c) (h : o.wp P a w K Q) : o.wpIn (Fence.wide.inRound l) n P a w K Q := by
  refine ⟨fun _ _ => trivial, ?_⟩
  rw [Oper.semAt_eq _ _ _ hd]
  unfold Oper.wp at h
  have hdep : (Fence.wide.inRound l).depth.isSome = true → 1 ≤ n := fun hh => by simp [Fence.wide, Fence.inRound] at hh
  generalize (execOp a.eval o).run P w = r at h ⊢
  cases r with
  | ok x w' =>
    cases x with
    | value v => exact h
    | skip => exact h
    | defer d => exact h
    | enter f args => exact ⟨hdep, (callsIn_wide.2 h).inRound l⟩
    | row row args =>
      refine ⟨hdep, fun c cs _ => ?_⟩
      obtain ⟨v, w2, hr, hs⟩ := h c cs
      exact ⟨v, w2, hr, stepsIn_wide.2 hs⟩
    | round l' f tmps assign body => exact h.elim
    | _ => exact h.elim
  | halt x w' =>
    cases x with
    | panic v => exact h
    | _ => exact h.elim
theorem opIn_of {i : Nat} {a : Act} {w : World} {K : Act → World → Prop} (hd : ∀ o, ops[i]? = some o → ∀ c, o.op ≠ .defer c) (hL : ¬ LetsOut Q) (h : wpOp P ops Q i K a w) : wpOpIn (Fence.wide.inRound l) n P ops Q i K a w := by
  unfold wpOp at h
  unfold wpOpIn
  cases ho : ops[i]? with
  | none => rw [ho] at h; exact h
  | some o =>
    rw [ho] at h
    simp only at h ⊢
    by_cases hw : Region.wanted o (yielded ops a.tmps) = true
    · rw [if_pos hw] at h ⊢
      rcases h with h | ⟨_, h⟩
      · exact opIn_of_wp (hd o ho) h
      · exact absurd h hL
    · rw [if_neg hw] at h ⊢
      exact ⟨fun _ _ => trivial, h⟩
theorem anyIn_of (hd : ∀ (i : Nat) (o : Oper), ops[i]? = some o → ∀ c, o.op ≠ .defer c) (hL : ¬ LetsOut Q) : ∀ (fuel : Nat) (listed : Array Bool) (a : Act) (w : World), wpAny P md ops Q fuel listed a w → wpAnyIn (Fence.wide.inRound l) n P md ops Q fuel listed a w
  | 0, _, _, _, h => h
  | fuel + 1, listed, a, w, h => ⟨h.1, fun i hi => opIn_of (hd i) hL (wpOp_mono (fun a' w' h' => anyIn_of hd hL fuel _ a' w' h') (h.2 i hi))⟩
def noDefer (ops : Array Oper) : Bool := ops.all fun o => match o.op with | .defer _ => false | _ => true
theorem noDefer_spec (h : noDefer ops = true) : ∀ (i : Nat) (o : Oper), ops[i]? = some o → ∀ c, o.op ≠ .defer c := by
  intro i o ho c hc
  have := Array.all_eq_true_iff_forall_mem.1 h o (Array.mem_of_getElem? ho)
  rw [hc] at this
  cases this
theorem startR_ {id m : Nat} {a : Act} {w : World} (l₀ : Array Bool) (hdf : noDefer ops = true) (hL : ¬ LetsOut Q) (hm : P.follows .mixedOrders = true) (hn : ops.size = m) (hl : Array.replicate m false = l₀) (hS : S w.drew)
    (h : S w.drew → wpAnyLast P .any ops Q S ds m l₀ a w.drew) : (Code.region id ops true).wpIn (Fence.wide.inRound l) n P Q a w := by
  subst hn
  subst hl
  exact wpIn_region_any hm (anyIn_of (noDefer_spec hdf) hL _ _ _ _ (wpAny_of_last _ _ _ _ (h hS)))
end
end Go.Proofs.Ytodmemndaaiolaa.PC7
namespace Go.Proofs.Ytodmemndaaiolaa.PC7
open Go.RowKit Go.Proofs.YtodmemndaaiolaaW.PrintWords Go.Proofs.YtodmemndaaiolaaW.PrintLast Go.Proofs.YtodmemndaaiolaaW.PrintMore
attribute [local go_sem] max2_int min2_int max_two min_two max_three min_three max_four min_four
set_option linter.unusedVariables false
set_option linter.unusedSimpArgs false
def ship_level.f (k : Nat) (a0_0 : Int) (a0_1 : Int) (a0_2 : Int) (l0_3 : List (S85)) (a0_4 : Int) (l0_5 : List (S59)) (l0_6 : List (S79)) (a1_0 : Int) (a1_1 : Int) : Option (Bool) := (ship_greatest.f k a1_1 (([wrap64 (-a1_0)] : List Int))).bind fun t154 => (some (decide (t154 ≤ (wrap64 (1000 * a0_2)))))
theorem ship_level.mono : ∀ a0 a1 a2 a3 a4 a5 a6 a7 a8 k, LeO (ship_level.f k a0 a1 a2 a3 a4 a5 a6 a7 a8) (ship_level.f (k + 1) a0 a1 a2 a3 a4 a5 a6 a7 a8) := by
 intro a0 a1 a2 a3 a4 a5 a6 a7 a8 k
 unfold ship_level.f
 repeat' first
   | (with_reducible exact ship_greatest.mono _ _ _)
   | (with_reducible exact LeO.refl _)
   | (with_reducible exact LeO.none _)
   | (with_reducible refine LeO.ite ?_ ?_)
   | (with_reducible refine LeO.bind ?_ (fun _ => ?_))
   | exact ship_greatest.mono _ _ _
   | exact LeO.none _
   | refine LeO.ite ?_ ?_
   | refine LeO.bind ?_ (fun _ => ?_)
def ship_level.T1 : Bool × List (List Nat × List Nat) := (true, [([], []), ([0], [0]), ([], []), ([2], [2]), ([3], [3]), ([4], [4]), ([1, 5], [1, 5]), ([], []), ([7], [7]), ([8], [8]), ([6, 9], [6, 9]), ([10, 6, 0, 1, 2, 3, 4, 5, 6, 7, 8, 9, 10], [10])])
def ship_level.B1 : List Nat := [0, 1, 0, 4, 12, 28, 63, 0, 128, 384, 1023, 2047]
theorem ship_level.tab1 : rtab .any (opsOf Try.f64 1) = ship_level.T1 := by kernel_rfl
theorem ship_level.bits1 : waitsOk ship_level.T1.2 ship_level.B1 = true := by kernel_rfl
set_option maxHeartbeats 8000000 in
set_option maxRecDepth 100000 in
theorem ship_level.calls (k : Nat) (a0_0 : Int) (a0_1 : Int) (a0_2 : Int) (A0_3 : Option Addr) (c0_3 : Nat) (l0_3 : List (S85)) (a0_4 : Int) (A0_5 : Option Addr) (c0_5 : Nat) (l0_5 : List (S59)) (A0_6 : Option Addr) (c0_6 : Nat) (l0_6 : List (S79)) (a1_0 : Int) (a1_1 : Int) (r : Bool) (w : World) (hr0_3 : Kd.C k85 w A0_3 l0_3.length l0_3) (hc0_3 : l0_3.length ≤ c0_3) (hr0_5 : Kd.C k59 w A0_5 l0_5.length l0_5) (hc0_5 : l0_5.length ≤ c0_5) (hr0_6 : Kd.C k79 w A0_6 l0_6.length l0_6) (hc0_6 : l0_6.length ≤ c0_6) (h : ship_level.f k a0_0 a0_1 a0_2 l0_3 a0_4 l0_5 l0_6 a1_0 a1_1 = some r) :
  Calls Try.prog 64 #[.agg #[.int .i64 a0_0, .int .i64 a0_1, .int .i64 a0_2, .slice A0_3 l0_3.length c0_3, .int .i64 a0_4, .slice A0_5 l0_5.length c0_5, .slice A0_6 l0_6.length c0_6], .agg #[.int .i64 a1_0, .int .i64 a1_1]] w fun e w' => e = .returned (.bool r) ∧ Below w.heap.size w w' := by
 have hu26 := Try.underlying26
 have hu56 := Try.underlying56
 have HR0_3 := Aside0.mk hr0_3
 have HC0_3 := Aside0.mk hc0_3
 clear hr0_3 hc0_3
 have HR0_5 := Aside0.mk hr0_5
 have HC0_5 := Aside0.mk hc0_5
 clear hr0_5 hc0_5
 have HR0_6 := Aside0.mk hr0_6
 have HC0_6 := Aside0.mk hc0_6
 clear hr0_6 hc0_6
 have HB := Aside0.mk (Below.refl w.heap.size w)
 have H : ((ship_greatest.f k a1_1 (([wrap64 (-a1_0)] : List Int))).bind fun t154 => (some (decide (t154 ≤ (wrap64 (1000 * a0_2)))))) = some r := h
 clear h
 obtain ⟨y151, hy151⟩ : ∃ y_ : List Int, y_ = (([wrap64 (-a1_0)] : List Int)) := ⟨_, rfl⟩
 replace H : ((ship_greatest.f k a1_1 y151).bind fun t154 => (some (decide (t154 ≤ (wrap64 (1000 * a0_2)))))) = some r := by first | (rw [hy151]; with_reducible exact H) | (have H2_ := (Option.bind_some _ _).symm.trans H; rw [hy151]; with_reducible exact H2_) | (have H2_ := (Option.bind_some _ _).symm.trans H; with_reducible exact H2_) | with_reducible exact H | (rw [hy151]; exact H) | exact H
 have Ny151 := Aside0.mk hy151
 clear hy151
 replace H := Option.bind_eq_some_iff.mp H
 obtain ⟨t154, A30, H⟩ := H
 replace H : (some (decide (t154 ≤ (wrap64 (1000 * a0_2))))) = some r := H
 have A3 := Aside0.mk A30
 clear A30
 obtain rfl := Option.some.inj H
 go_enter Try.func64, Try.ntmps64
 try go_wp2_with (first | ((with_reducible refine gate_dst (N := 2) rfl ?_); refine box_event ?hg (N := 2) ?hd (cs := #[.int .i64 a0_0, .int .i64 a0_1, .int .i64 a0_2, .slice A0_3 l0_3.length c0_3, .int .i64 a0_4, .slice A0_5 l0_5.length c0_5, .slice A0_6 l0_6.length c0_6]) (t := 26) ?hr ?_; (case hd => rfl); (case hg => rfl); (case hr => first | (go_simp; done) | (go_simp; rfl)); intro gb149 hg w4 hbox hb; have BK149 := Aside0.mk (hbox); have GW149 := Aside0.mk ((by rw [hg]; exact (below_size (below_x HB.out)) : w.heap.size ≤ gb149)); have GE149 := Aside0.mk ((by rw [hg]; exact (below_size (below_x HB.out)) : w.heap.size ≤ gb149)); replace HB := Aside0.mk (below_step (below_x HB.out) hb); clear hb hbox hg) | ((with_reducible refine gate_dst (N := 3) rfl ?_); refine box_event ?hg (N := 3) ?hd (cs := #[.int .i64 a1_0, .int .i64 a1_1]) (t := 56) ?hr ?_; (case hd => rfl); (case hg => rfl); (case hr => first | (go_simp; done) | (go_simp; rfl)); intro gb150 hg w5 hbox hb; have BK150 := Aside0.mk (hbox); have GW150 := Aside0.mk ((by rw [hg]; exact (below_size (by exact below_y HB.out)) : w.heap.size ≤ gb150)); have GE150 := Aside0.mk ((by rw [hg]; exact (below_size (by exact below_y HB.out)) : w.heap.size ≤ gb150)); replace HB := bl_x HB hb; have NB149_150 := Aside0.mk ((by rw [hg]; exact Nat.ne_of_lt (blk_lt (g := gb149) (o := .cells #[.int .i64 a0_0, .int .i64 a0_1, .int .i64 a0_2, .slice A0_3 l0_3.length c0_3, .int .i64 a0_4, .slice A0_5 l0_5.length c0_5, .slice A0_6 l0_6.length c0_6] 26 (0, 0)) (blk_x BK149.out)) : gb149 ≠ gb150)); have NB150_149 := Aside0.mk ((by rw [hg]; exact Nat.ne_of_gt (blk_lt (g := gb149) (o := .cells #[.int .i64 a0_0, .int .i64 a0_1, .int .i64 a0_2, .slice A0_3 l0_3.length c0_3, .int .i64 a0_4, .slice A0_5 l0_5.length c0_5, .slice A0_6 l0_6.length c0_6] 26 (0, 0)) (blk_x BK149.out)) : gb150 ≠ gb149)); replace BK149 := Aside0.mk (blk_below (blk_x BK149.out) hb); clear hb hbox hg))
 replace BK149 := Aside0.mk (blk_drew BK149.out)
 replace BK150 := Aside0.mk (blk_drew BK150.out)
 replace HB := Aside0.mk (below_drew1 HB.out)
 refine start_ (n := 12) (S := fun w' => w'.cell? ⟨gb150, 0, none⟩ = some (.int .i64 a1_0) ∧ w'.cell? ⟨gb150, 1, none⟩ = some (.int .i64 a1_1) ∧ w'.cell? ⟨gb149, 0, none⟩ = some (.int .i64 a0_0) ∧ w'.cell? ⟨gb149, 1, none⟩ = some (.int .i64 a0_1) ∧ w'.cell? ⟨gb149, 2, none⟩ = some (.int .i64 a0_2) ∧ w'.cell? ⟨gb149, 3, none⟩ = some (.slice A0_3 l0_3.length c0_3) ∧ w'.cell? ⟨gb149, 4, none⟩ = some (.int .i64 a0_4) ∧ w'.cell? ⟨gb149, 5, none⟩ = some (.slice A0_5 l0_5.length c0_5) ∧ w'.cell? ⟨gb149, 6, none⟩ = some (.slice A0_6 l0_6.length c0_6)) (ds := []) #[false, false, false, false, false, false, false, false, false, false, false, false] (by kernel_rfl) rfl rfl ⟨(blk_cell BK150.out 0).trans rfl, (blk_cell BK150.out 1).trans rfl, (blk_cell BK149.out 0).trans rfl, (blk_cell BK149.out 1).trans rfl, (blk_cell BK149.out 2).trans rfl, (blk_cell BK149.out 3).trans rfl, (blk_cell BK149.out 4).trans rfl, (blk_cell BK149.out 5).trans rfl, (blk_cell BK149.out 6).trans rfl⟩ (fun hHeld => ?_); refine with_tabW ship_level.tab1 ship_level.bits1 (fun HT_ HW_ => ?_)
 generalize w5.drew = w6 at BK149 BK150 HB hHeld ⊢
 refine pure_ (i := 0) (N := some 5) (v := ?_) (a' := ?_) (bz 12 1) rfl rfl (any_of HT_.out (by kernel_rfl)) (fun _ _ _ h => h) (Or.inl ⟨by rfl, ?_⟩) ?_ ?_
 rotate_left
 ·
  intro w'
  go_simp
  with_reducible rfl
 rotate_left
 ·
  simp only [Act.put, put_x, i64_w, i32_w]
  rfl
 refine pure_ (i := 2) (N := some 7) (v := ?_) (a' := ?_) (bz 12 5) rfl rfl (any_of HT_.out (by kernel_rfl)) (fun _ _ _ h => h) (Or.inl ⟨by rfl, ?_⟩) ?_ ?_
 rotate_left
 ·
  intro w'
  go_simp
  with_reducible rfl
 rotate_left
 ·
  simp only [Act.put, put_x, i64_w, i32_w]
  rfl
 refine pure_ (i := 7) (N := some 12) (v := ?_) (a' := ?_) (bz 12 133) rfl rfl (any_of HT_.out (by kernel_rfl)) (fun _ _ _ h => h) (Or.inl ⟨by rfl, ?_⟩) ?_ ?_
 rotate_left
 ·
  intro w'
  go_simp
  with_reducible rfl
 rotate_left
 ·
  simp only [Act.put, put_x, i64_w, i32_w]
  rfl
 refine take_ (i := 1) (N := some 6) (v := ?_) (a' := ?_) (bz 12 135) rfl rfl (take_ofW HT_.out HW_.out (by kernel_rfl)) (fun _ _ _ h => h) (Or.inl ⟨by rfl, ?_⟩) hHeld ?_ ?_
 rotate_left
 ·
  rintro w' ⟨s0, s1, s2, s3, s4, s5, s6, s7, s8⟩
  go_simp
  with_reducible rfl
 rotate_left
 ·
  simp only [Act.put, put_x, i64_w, i32_w]
  rfl
 refine take_ (i := 3) (N := some 8) (v := ?_) (a' := ?_) (bz 12 143) rfl rfl (take_ofW HT_.out HW_.out (by kernel_rfl)) (fun _ _ _ h => h) (Or.inl ⟨by rfl, ?_⟩) hHeld ?_ ?_
 rotate_left
 ·
  rintro w' ⟨s0, s1, s2, s3, s4, s5, s6, s7, s8⟩
  go_simp
  with_reducible rfl
 rotate_left
 ·
  simp only [Act.put, put_x, i64_w, i32_w]
  rfl
 refine pure_ (i := 4) (N := some 9) (v := ?_) (a' := ?_) (bz 12 159) rfl rfl (any_of HT_.out (by kernel_rfl)) (fun _ _ _ h => h) (Or.inl ⟨by rfl, ?_⟩) ?_ ?_
 rotate_left
 ·
  intro w'
  go_simp
  with_reducible rfl
 rotate_left
 ·
  simp only [Act.put, put_x, i64_w, i32_w]
  rfl
 refine take_ (i := 8) (N := some 13) (v := ?_) (a' := ?_) (bz 12 415) rfl rfl (take_ofW HT_.out HW_.out (by kernel_rfl)) (fun _ _ _ h => h) (Or.inl ⟨by rfl, ?_⟩) hHeld ?_ ?_
 rotate_left
 ·
  rintro w' ⟨s0, s1, s2, s3, s4, s5, s6, s7, s8⟩
  go_simp
  with_reducible rfl
 rotate_left
 ·
  simp only [Act.put, put_x, i64_w, i32_w]
  rfl
 refine pure_ (i := 9) (N := some 14) (v := ?_) (a' := ?_) (bz 12 927) rfl rfl (any_of HT_.out (by kernel_rfl)) (fun _ _ _ h => h) (Or.inl ⟨by rfl, ?_⟩) ?_ ?_
 rotate_left
 ·
  intro w'
  go_simp
  with_reducible rfl
 rotate_left
 ·
  simp only [Act.put, put_x, i64_w, i32_w]
  rfl
 refine one_ (i := 5) (N := some 10) (bz 12 959) rfl rfl (one_of HT_.out (by kernel_rfl)) (by decide) (fun K hK => ?_)
 refine Kd.R_lit_step (Kd.int .i64) _ 3 ?hg (N := 10) ?hd (xs := ([wrap64 (-a1_0)] : List Int)) (inner := [.int .i64 (wrap64 (-a1_0))]) (ok := fun _ => True) (okp := fun _ => True) ?hr ?hp (fun _ hk => hk) trivial (Below.refl _ _) (Nat.le_refl _) (by simp) ?_; (case hd => rfl); (case hg => rfl); (case hr => first | (go_simp; done) | (go_simp; rfl)); (case hp => exact (Reps.one (show Kd.M (Kd.int .i64) _ _ _ (wrap64 (-a1_0)) [.int .i64 (wrap64 (-a1_0))] from rfl) (Reps.none _ _)))
 intro v152 w7 ho8 hb hg_ hnew_
 clear hg_ hnew_
 (first | rw [← Ny151.out] at ho8 | (simp only [Int.reduceToNat] at ho8; rw [← Ny151.out] at ho8))
 have HO153 := Aside0.mk (Kd.R_lower ho8 (below_size (by exact below_y HB.out)))
 replace BK149 := Aside0.mk (blk_below (blk_x BK149.out) hb)
 replace BK150 := Aside0.mk (blk_below (blk_x BK150.out) hb)
 replace HB := bl_x HB hb
 clear hb ho8
 obtain ⟨Ao9, co9, eo9⟩ := Kd.R_slice HO153.out
 (first | subst eo9 | (injection eo9 with f1_ f2_ f3_; have f4_ := f1_.symm; have f5_ := f3_.symm; clear f1_ f2_ f3_; subst f4_; subst f5_))
 refine hK.out _ _ ⟨(blk_cell BK150.out 0).trans rfl, (blk_cell BK150.out 1).trans rfl, (blk_cell BK149.out 0).trans rfl, (blk_cell BK149.out 1).trans rfl, (blk_cell BK149.out 2).trans rfl, (blk_cell BK149.out 3).trans rfl, (blk_cell BK149.out 4).trans rfl, (blk_cell BK149.out 5).trans rfl, (blk_cell BK149.out 6).trans rfl⟩ (fun hHeld => ?_)
 clear hK K
 refine norm_ (a' := ?_) ?_ ?_
 rotate_left
 ·
  show Act.put _ (some 10) _ = _
  simp only [Act.put, put_x, i64_w, i32_w]
  rfl
 refine one_ (i := 6) (N := some 11) (bz 12 1023) rfl rfl (one_of HT_.out (by kernel_rfl)) (by decide) (fun K hK => ?_)
 refine goes_ Try.func79 (by kernel_rfl) rfl #[.int .i64 a1_1, .slice Ao9 y151.length co9] (by rfl) rfl rfl (by (try simp only [List.map_toArray, List.map_cons, List.map_nil]); first | done | rfl | (simp only [List.length_drop, List.length_take]; rfl)) ?_
 with_reducible refine (ship_greatest.calls k a1_1 _ _ y151 t154 _ ?side1 ?side2 A3.out).mono ?_
 (case side1 => exact Kd.C_y (Kd.R_reads' HO153.out).2.2)
 (case side2 => exact (Kd.R_reads' HO153.out).2.1)
 rintro e w10 ⟨rfl, hb⟩
 refine ⟨_, rfl, ?_⟩
 replace HO153 := Aside0.mk (Kd.R_below (Kd.R_x HO153.out) hb)
 replace BK149 := Aside0.mk (blk_below (blk_x BK149.out) hb)
 replace BK150 := Aside0.mk (blk_below (blk_x BK150.out) hb)
 replace HB := bl_x HB hb
 (try clear hb)
 (try clear hb2)
 (try clear hk)
 (try clear hi)
 refine hK.out _ _ ⟨(blk_cell BK150.out 0).trans rfl, (blk_cell BK150.out 1).trans rfl, (blk_cell BK149.out 0).trans rfl, (blk_cell BK149.out 1).trans rfl, (blk_cell BK149.out 2).trans rfl, (blk_cell BK149.out 3).trans rfl, (blk_cell BK149.out 4).trans rfl, (blk_cell BK149.out 5).trans rfl, (blk_cell BK149.out 6).trans rfl⟩ (fun hHeld => ?_)
 clear hK K
 refine norm_ (a' := ?_) ?_ ?_
 rotate_left
 ·
  show Act.put _ (some 11) _ = _
  simp only [Act.put, put_x, i64_w, i32_w]
  rfl
 refine pure_ (i := 10) (N := some 15) (v := ?_) (a' := ?_) (bz 12 2047) rfl rfl (any_of HT_.out (by kernel_rfl)) (fun _ _ _ h => h) (Or.inl ⟨by rfl, ?_⟩) ?_ ?_
 rotate_left
 ·
  intro w'
  go_simp
  with_reducible rfl
 rotate_left
 ·
  simp only [Act.put, put_x, i64_w, i32_w]
  rfl
 refine pure_ (i := 11) (N := some 4) (v := ?_) (a' := ?_) (bz 12 4095) rfl rfl (any_of HT_.out (by kernel_rfl)) (fun _ _ _ h => h) (Or.inl ⟨by rfl, ?_⟩) ?_ ?_
 rotate_left
 ·
  intro w'
  go_simp
  with_reducible rfl
 rotate_left
 ·
  simp only [Act.put, put_x, i64_w, i32_w]
  rfl
 refine done_ (done_of HT_.out (by kernel_rfl)) ?_
 try go_wp2
 go_ret
 exact ⟨by first | rfl | (simp [errW_none, errW_some] <;> rfl) | (simp [*, errW_none, errW_some] <;> rfl), by exact below_y HB.out⟩
def ship_apart.l0 : Nat → List Int → Int → Int → Int → Int → Int → List (S85) → Int → List (S59) → List (S79) → Int → Int → Option (Int × Int)
 | 0, _, _, _, _, _, _, _, _, _, _, _, _ => none
 | k + 1, x10, x11, x12, x141000, x141001, x141002, x141003, x141004, x141005, x141006, x143000, x143001 => if x12 < x11 then (if 0 ≤ x12 then (if x12 < (x10.length : Int) then (if (rd x10 x12) < 0 then (ship_apart.l0 k x10 x11 (wrap64 (x12 + 1)) x141000 x141001 x141002 x141003 x141004 x141005 x141006 x143000 x143001) else (if x12 < (x141006.length : Int) then (if 0 ≤ (rd x10 x12) then (if (rd x10 x12) < (x141003.length : Int) then (ship_apart.l0 k x10 x11 (wrap64 (x12 + 1)) x141000 x141001 x141002 x141003 x141004 x141005 x141006 (wrap64 (x143000 + (mn (wrap64 (((rd_T79 x141006 x12).f0.f0) * (wrap64 (((rd_T85 x141003 (rd x10 x12)).f1) - ((rd_T85 x141003 (rd x10 x12)).f2))))) (wrap64 (((rd_T79 x141006 x12).f0.f1) * (wrap64 (((rd_T85 x141003 (rd x10 x12)).f1) - ((rd_T85 x141003 (rd x10 x12)).f2)))))))) (wrap64 (x143001 + (mx (wrap64 (((rd_T79 x141006 x12).f0.f0) * (wrap64 (((rd_T85 x141003 (rd x10 x12)).f1) - ((rd_T85 x141003 (rd x10 x12)).f2))))) (wrap64 (((rd_T79 x141006 x12).f0.f1) * (wrap64 (((rd_T85 x141003 (rd x10 x12)).f1) - ((rd_T85 x141003 (rd x10 x12)).f2))))))))) else (none)) else (none)) else (none))) else (none)) else (none)) else (some (x143000, x143001))
def ship_apart.f (k : Nat) (a0_0 : Int) (a0_1 : Int) (a0_2 : Int) (l0_3 : List (S85)) (a0_4 : Int) (l0_5 : List (S59)) (l0_6 : List (S79)) (l1 : List Int) : Option (Int × Int) := ship_apart.l0 k l1 (l1.length : Int) 0 a0_0 a0_1 a0_2 l0_3 a0_4 l0_5 l0_6 0 0
theorem ship_apart.mono_l : ∀ k, (∀ y0 y1 y2 y3 y4 y5 y6 y7 y8 y9 y10 y11, LeO (ship_apart.l0 k y0 y1 y2 y3 y4 y5 y6 y7 y8 y9 y10 y11) (ship_apart.l0 (k + 1) y0 y1 y2 y3 y4 y5 y6 y7 y8 y9 y10 y11))
 | 0 => fun _ _ _ _ _ _ _ _ _ _ _ _ r h => by simp [ship_apart.l0] at h
 | k + 1 => by
  have ih0 := ship_apart.mono_l k
  ·
   intro y0 y1 y2 y3 y4 y5 y6 y7 y8 y9 y10 y11
   unfold ship_apart.l0
   repeat' first
   | (with_reducible exact ih0 _ _ _ _ _ _ _ _ _ _ _ _)
   | (with_reducible exact LeO.refl _)
   | (with_reducible exact LeO.none _)
   | (with_reducible refine LeO.ite ?_ ?_)
   | (with_reducible refine LeO.bind ?_ (fun _ => ?_))
   | exact ih0 _ _ _ _ _ _ _ _ _ _ _ _
   | exact LeO.none _
   | refine LeO.ite ?_ ?_
   | refine LeO.bind ?_ (fun _ => ?_)
theorem ship_apart.mono : ∀ a0 a1 a2 a3 a4 a5 a6 a7 k, LeO (ship_apart.f k a0 a1 a2 a3 a4 a5 a6 a7) (ship_apart.f (k + 1) a0 a1 a2 a3 a4 a5 a6 a7) := by
 intro a0 a1 a2 a3 a4 a5 a6 a7 k
 have ih0 := ship_apart.mono_l k
 unfold ship_apart.f
 repeat' first
   | (with_reducible exact ih0 _ _ _ _ _ _ _ _ _ _ _ _)
   | (with_reducible exact LeO.refl _)
   | (with_reducible exact LeO.none _)
   | (with_reducible refine LeO.ite ?_ ?_)
   | (with_reducible refine LeO.bind ?_ (fun _ => ?_))
   | exact ih0 _ _ _ _ _ _ _ _ _ _ _ _
   | exact LeO.none _
   | refine LeO.ite ?_ ?_
   | refine LeO.bind ?_ (fun _ => ?_)
def ship_apart.T6 : Bool × List (List Nat × List Nat) := (true, [([], []), ([0], [0]), ([], []), ([1, 2], [1, 2]), ([3], [3]), ([4], [4]), ([], []), ([6], [6]), ([], []), ([7, 8], [7, 8]), ([9], [9]), ([10], [10]), ([], []), ([12], [12]), ([], []), ([13, 14], [13, 14]), ([15], [15]), ([16], [16]), ([11, 17], [11, 17]), ([], []), ([19, 5, 0, 1, 2, 3, 4, 5, 19], [5, 19]), ([18, 20, 0, 1, 2, 3, 4, 5, 6, 7, 8, 9, 10, 11, 12, 13, 14, 15, 16, 17, 18, 19, 20], [18])])
def ship_apart.B6 : List Nat := [0, 1, 0, 7, 15, 31, 0, 64, 0, 448, 960, 1984, 0, 4096, 0, 28672, 61440, 126976, 262080, 0, 524351, 2097151]
theorem ship_apart.tab6 : rtab .any (opsOf Try.f65 6) = ship_apart.T6 := by kernel_rfl
theorem ship_apart.bits6 : waitsOk ship_apart.T6.2 ship_apart.B6 = true := by kernel_rfl
set_option maxHeartbeats 8000000 in
set_option maxRecDepth 100000 in
theorem ship_apart.calls (k : Nat) (a0_0 : Int) (a0_1 : Int) (a0_2 : Int) (A0_3 : Option Addr) (c0_3 : Nat) (l0_3 : List (S85)) (a0_4 : Int) (A0_5 : Option Addr) (c0_5 : Nat) (l0_5 : List (S59)) (A0_6 : Option Addr) (c0_6 : Nat) (l0_6 : List (S79)) (A1 : Option Addr) (c1 : Nat) (l1 : List Int) (r1 : Int) (r2 : Int) (w : World) (hr0_3 : Kd.C k85 w A0_3 l0_3.length l0_3) (hc0_3 : l0_3.length ≤ c0_3) (hr0_5 : Kd.C k59 w A0_5 l0_5.length l0_5) (hc0_5 : l0_5.length ≤ c0_5) (hr0_6 : Kd.C k79 w A0_6 l0_6.length l0_6) (hc0_6 : l0_6.length ≤ c0_6) (hr1 : Kd.C (Kd.int .i64) w A1 l1.length l1) (hc1 : l1.length ≤ c1) (h : ship_apart.f k a0_0 a0_1 a0_2 l0_3 a0_4 l0_5 l0_6 l1 = some (r1, r2)) :
  Calls Try.prog 65 #[.agg #[.int .i64 a0_0, .int .i64 a0_1, .int .i64 a0_2, .slice A0_3 l0_3.length c0_3, .int .i64 a0_4, .slice A0_5 l0_5.length c0_5, .slice A0_6 l0_6.length c0_6], .slice A1 l1.length c1] w fun e w' => e = .returned (.agg #[.int .i64 r1, .int .i64 r2]) ∧ Below w.heap.size w w' := by
 have hu26 := Try.underlying26
 have hu56 := Try.underlying56
 have HR0_3 := Aside0.mk hr0_3
 have HC0_3 := Aside0.mk hc0_3
 clear hr0_3 hc0_3
 have HR0_5 := Aside0.mk hr0_5
 have HC0_5 := Aside0.mk hc0_5
 clear hr0_5 hc0_5
 have HR0_6 := Aside0.mk hr0_6
 have HC0_6 := Aside0.mk hc0_6
 clear hr0_6 hc0_6
 have HR1 := Aside0.mk hr1
 have HC1 := Aside0.mk hc1
 clear hr1 hc1
 have HB := Aside0.mk (Below.refl w.heap.size w)
 have H : (ship_apart.l0 k l1 (l1.length : Int) 0 a0_0 a0_1 a0_2 l0_3 a0_4 l0_5 l0_6 0 0) = some (r1, r2) := h
 clear h
 have H' := Aside0.mk H
 clear H
 go_enter Try.func65, Try.ntmps65
 go_wp2_with (first | ((with_reducible refine gate_dst (N := 2) rfl ?_); refine box_event ?hg (N := 2) ?hd (cs := #[.int .i64 a0_0, .int .i64 a0_1, .int .i64 a0_2, .slice A0_3 l0_3.length c0_3, .int .i64 a0_4, .slice A0_5 l0_5.length c0_5, .slice A0_6 l0_6.length c0_6]) (t := 26) ?hr ?_; (case hd => rfl); (case hg => rfl); (case hr => first | (go_simp; done) | (go_simp; rfl)); intro gb140 hg w3 hbox hb; have BK140 := Aside0.mk (hbox); have GW140 := Aside0.mk ((by rw [hg]; exact (below_size (below_x HB.out)) : w.heap.size ≤ gb140)); have GE140 := Aside0.mk ((by rw [hg]; exact (below_size (below_x HB.out)) : w.heap.size ≤ gb140)); replace HB := Aside0.mk (below_step (below_x HB.out) hb); clear hb hbox hg) | ((with_reducible refine gate_dst (N := 4) rfl ?_); refine box_event ?hg (N := 4) ?hd (cs := #[.int .i64 0, .int .i64 0]) (t := 56) ?hr ?_; (case hd => rfl); (case hg => rfl); (case hr => first | (go_simp; done) | (go_simp; rfl)); intro gb141 hg w4 hbox hb; have BK141 := Aside0.mk (hbox); have GW141 := Aside0.mk ((by rw [hg]; exact (below_size (by exact below_y HB.out)) : w.heap.size ≤ gb141)); have GE141 := Aside0.mk ((by rw [hg]; exact (below_size (by exact below_y HB.out)) : w.heap.size ≤ gb141)); replace HB := bl_x HB hb; have NB140_141 := Aside0.mk ((by rw [hg]; exact Nat.ne_of_lt (blk_lt (g := gb140) (o := .cells #[.int .i64 a0_0, .int .i64 a0_1, .int .i64 a0_2, .slice A0_3 l0_3.length c0_3, .int .i64 a0_4, .slice A0_5 l0_5.length c0_5, .slice A0_6 l0_6.length c0_6] 26 (0, 0)) (blk_x BK140.out)) : gb140 ≠ gb141)); have NB141_140 := Aside0.mk ((by rw [hg]; exact Nat.ne_of_gt (blk_lt (g := gb140) (o := .cells #[.int .i64 a0_0, .int .i64 a0_1, .int .i64 a0_2, .slice A0_3 l0_3.length c0_3, .int .i64 a0_4, .slice A0_5 l0_5.length c0_5, .slice A0_6 l0_6.length c0_6] 26 (0, 0)) (blk_x BK140.out)) : gb141 ≠ gb140)); replace BK140 := Aside0.mk (blk_below (blk_x BK140.out) hb); clear hb hbox hg) | ((with_reducible refine gate_dst (N := 5) rfl ?_); refine box_event ?hg (N := 5) ?hd (cs := #[.int .i64 0, .int .i64 0]) (t := 56) ?hr ?_; (case hd => rfl); (case hg => rfl); (case hr => first | (go_simp; done) | (go_simp; rfl)); intro gb142 hg w5 hbox hb; have BK142 := Aside0.mk (hbox); have GW142 := Aside0.mk ((by rw [hg]; exact (below_size (by exact below_y HB.out)) : w.heap.size ≤ gb142)); have GE142 := Aside0.mk ((by rw [hg]; exact (below_size (by exact below_y HB.out)) : w.heap.size ≤ gb142)); replace HB := bl_x HB hb; have NB140_142 := Aside0.mk ((by rw [hg]; exact Nat.ne_of_lt (blk_lt (g := gb140) (o := .cells #[.int .i64 a0_0, .int .i64 a0_1, .int .i64 a0_2, .slice A0_3 l0_3.length c0_3, .int .i64 a0_4, .slice A0_5 l0_5.length c0_5, .slice A0_6 l0_6.length c0_6] 26 (0, 0)) (blk_x BK140.out)) : gb140 ≠ gb142)); have NB142_140 := Aside0.mk ((by rw [hg]; exact Nat.ne_of_gt (blk_lt (g := gb140) (o := .cells #[.int .i64 a0_0, .int .i64 a0_1, .int .i64 a0_2, .slice A0_3 l0_3.length c0_3, .int .i64 a0_4, .slice A0_5 l0_5.length c0_5, .slice A0_6 l0_6.length c0_6] 26 (0, 0)) (blk_x BK140.out)) : gb142 ≠ gb140)); replace BK140 := Aside0.mk (blk_below (blk_x BK140.out) hb); have NB141_142 := Aside0.mk ((by rw [hg]; exact Nat.ne_of_lt (blk_lt (g := gb141) (o := .cells #[.int .i64 0, .int .i64 0] 56 (0, 0)) (blk_x BK141.out)) : gb141 ≠ gb142)); have NB142_141 := Aside0.mk ((by rw [hg]; exact Nat.ne_of_gt (blk_lt (g := gb141) (o := .cells #[.int .i64 0, .int .i64 0] 56 (0, 0)) (blk_x BK141.out)) : gb142 ≠ gb141)); replace BK141 := Aside0.mk (blk_below (blk_x BK141.out) hb); clear hb hbox hg))
 go_loopg [12] k (fun kq v12 w' => ∃ (x12_1 : Int) (x143000_1 : Int) (x143001_1 : Int), v12 = .int .i64 x12_1 ∧ Aside0 (ship_apart.l0 kq l1 (l1.length : Int) x12_1 a0_0 a0_1 a0_2 l0_3 a0_4 l0_5 l0_6 x143000_1 x143001_1 = some (r1, r2)) ∧ Aside0 (kq ≤ k) ∧ Aside0 (w'.heap[gb140]? = some (.cells #[.int .i64 a0_0, .int .i64 a0_1, .int .i64 a0_2, (.slice A0_3 l0_3.length c0_3), .int .i64 a0_4, (.slice A0_5 l0_5.length c0_5), (.slice A0_6 l0_6.length c0_6)] 26 (0, 0))) ∧ Aside0 (w'.heap[gb141]? = some (.cells #[.int .i64 0, .int .i64 0] 56 (0, 0))) ∧ Aside0 (w'.heap[gb142]? = some (.cells #[.int .i64 x143000_1, .int .i64 x143001_1] 56 (0, 0))) ∧ Aside0 (Below w.heap.size w w'))
 case atStart => exact ⟨(0), (0), (0), (by first | rfl | (simp; done) | (simp [*]; done)), H', ⟨Nat.le_refl _⟩, ⟨blk_x BK140.out⟩, ⟨blk_x BK141.out⟩, ⟨blk_x BK142.out⟩, ⟨by exact below_y HB.out⟩⟩
 case round =>
  clear H'
  obtain ⟨x12_1, x143000_1, x143001_1, rfl, HA, HK1, BK140, BK141, BK142, HB⟩ := hrel
  cases gk with
  | zero => exact absurd HA.out (by simp [ship_apart.l0])
  | succ k1 =>
   have H := HA.out
   clear HA
   simp only [ship_apart.l0] at H
   by_cases c6 : x12_1 < (l1.length : Int)
   ·
    rw [if_pos c6] at H
    have c6b0 : decide (x12_1 < (l1.length : Int)) = true := decide_eq_true c6
    clear c6
    by_cases c7 : 0 ≤ x12_1
    ·
     rw [if_pos c7] at H
     have c7b0 : decide (0 ≤ x12_1) = true := decide_eq_true c7
     clear c7
     by_cases c8 : x12_1 < (l1.length : Int)
     ·
      rw [if_pos c8] at H
      have c8b0 : decide (x12_1 < (l1.length : Int)) = true := decide_eq_true c8
      clear c8
      by_cases c9 : (rd l1 x12_1) < 0
      ·
       rw [if_pos c9] at H
       have c9b0 : decide ((rd l1 x12_1) < 0) = true := decide_eq_true c9
       clear c9
       have H' := Aside0.mk H
       clear H
       have p143 : 0 ≤ (x12_1 : Int) := of_x
       have q143 : x12_1 < (l1.length : Int) := of_x
       obtain ⟨ad143, e143, hx143_0⟩ := Kd.at_int HR1.out x12_1 p143 q143
       cases e143
       replace hx143_0 := cell_x HB hx143_0
       replace p143 := eq_true p143
       replace q143 := eq_true q143
       go_wp2
       go_roundg k1
       case measure => have := HK1.out; omega
       case rel => exact ⟨(wrap64 (x12_1 + 1)), (x143000_1), (x143001_1), (by first | rfl | (simp; done) | (simp [*]; done)), H', ⟨by have := HK1.out; omega⟩, ⟨blk_x BK140.out⟩, ⟨blk_x BK141.out⟩, ⟨blk_x BK142.out⟩, ⟨by exact below_y HB.out⟩⟩
      ·
       rw [if_neg c9] at H
       have c9b0 : decide ((rd l1 x12_1) < 0) = false := decide_eq_false c9
       clear c9
       by_cases c10 : x12_1 < (l0_6.length : Int)
       ·
        rw [if_pos c10] at H
        have c10b0 : decide (x12_1 < (l0_6.length : Int)) = true := decide_eq_true c10
        clear c10
        by_cases c11 : 0 ≤ (rd l1 x12_1)
        ·
         rw [if_pos c11] at H
         have c11b0 : decide (0 ≤ (rd l1 x12_1)) = true := decide_eq_true c11
         clear c11
         by_cases c12 : (rd l1 x12_1) < (l0_3.length : Int)
         ·
          rw [if_pos c12] at H
          have c12b0 : decide ((rd l1 x12_1) < (l0_3.length : Int)) = true := decide_eq_true c12
          clear c12
          obtain ⟨ji13, hji13⟩ : ∃ j_ : Int, (mn (wrap64 (((rd_T79 l0_6 x12_1).f0.f0) * (wrap64 (((rd_T85 l0_3 (rd l1 x12_1)).f1) - ((rd_T85 l0_3 (rd l1 x12_1)).f2))))) (wrap64 (((rd_T79 l0_6 x12_1).f0.f1) * (wrap64 (((rd_T85 l0_3 (rd l1 x12_1)).f1) - ((rd_T85 l0_3 (rd l1 x12_1)).f2)))))) = j_ := ⟨_, rfl⟩
          replace H : (ship_apart.l0 k1 l1 (l1.length : Int) (wrap64 (x12_1 + 1)) a0_0 a0_1 a0_2 l0_3 a0_4 l0_5 l0_6 (wrap64 (x143000_1 + (ji13))) (wrap64 (x143001_1 + (mx (wrap64 (((rd_T79 l0_6 x12_1).f0.f0) * (wrap64 (((rd_T85 l0_3 (rd l1 x12_1)).f1) - ((rd_T85 l0_3 (rd l1 x12_1)).f2))))) (wrap64 (((rd_T79 l0_6 x12_1).f0.f1) * (wrap64 (((rd_T85 l0_3 (rd l1 x12_1)).f1) - ((rd_T85 l0_3 (rd l1 x12_1)).f2))))))))) = some (r1, r2) := by first | (rw [hji13] at H; exact H) | (simp only [hji13] at H ⊢; exact H)
          have hji13_ : (if (wrap64 (((rd_T79 l0_6 x12_1).f0.f1) * (wrap64 (((rd_T85 l0_3 (rd l1 x12_1)).f1) - ((rd_T85 l0_3 (rd l1 x12_1)).f2))))) < (wrap64 (((rd_T79 l0_6 x12_1).f0.f0) * (wrap64 (((rd_T85 l0_3 (rd l1 x12_1)).f1) - ((rd_T85 l0_3 (rd l1 x12_1)).f2))))) then (wrap64 (((rd_T79 l0_6 x12_1).f0.f1) * (wrap64 (((rd_T85 l0_3 (rd l1 x12_1)).f1) - ((rd_T85 l0_3 (rd l1 x12_1)).f2))))) else (wrap64 (((rd_T79 l0_6 x12_1).f0.f0) * (wrap64 (((rd_T85 l0_3 (rd l1 x12_1)).f1) - ((rd_T85 l0_3 (rd l1 x12_1)).f2)))))) = ji13 := hji13
          obtain ⟨ji14, hji14⟩ : ∃ j_ : Int, (mx (wrap64 (((rd_T79 l0_6 x12_1).f0.f0) * (wrap64 (((rd_T85 l0_3 (rd l1 x12_1)).f1) - ((rd_T85 l0_3 (rd l1 x12_1)).f2))))) (wrap64 (((rd_T79 l0_6 x12_1).f0.f1) * (wrap64 (((rd_T85 l0_3 (rd l1 x12_1)).f1) - ((rd_T85 l0_3 (rd l1 x12_1)).f2)))))) = j_ := ⟨_, rfl⟩
          replace H : (ship_apart.l0 k1 l1 (l1.length : Int) (wrap64 (x12_1 + 1)) a0_0 a0_1 a0_2 l0_3 a0_4 l0_5 l0_6 (wrap64 (x143000_1 + (ji13))) (wrap64 (x143001_1 + (ji14)))) = some (r1, r2) := by first | (rw [hji14] at H; exact H) | (simp only [hji14] at H ⊢; exact H)
          have hji14_ : (if (wrap64 (((rd_T79 l0_6 x12_1).f0.f0) * (wrap64 (((rd_T85 l0_3 (rd l1 x12_1)).f1) - ((rd_T85 l0_3 (rd l1 x12_1)).f2))))) < (wrap64 (((rd_T79 l0_6 x12_1).f0.f1) * (wrap64 (((rd_T85 l0_3 (rd l1 x12_1)).f1) - ((rd_T85 l0_3 (rd l1 x12_1)).f2))))) then (wrap64 (((rd_T79 l0_6 x12_1).f0.f1) * (wrap64 (((rd_T85 l0_3 (rd l1 x12_1)).f1) - ((rd_T85 l0_3 (rd l1 x12_1)).f2))))) else (wrap64 (((rd_T79 l0_6 x12_1).f0.f0) * (wrap64 (((rd_T85 l0_3 (rd l1 x12_1)).f1) - ((rd_T85 l0_3 (rd l1 x12_1)).f2)))))) = ji14 := hji14
          have H' := Aside0.mk H
          clear H
          have p143 : 0 ≤ (x12_1 : Int) := of_x
          have q143 : x12_1 < (l1.length : Int) := of_x
          obtain ⟨ad143, e143, hx143_0⟩ := Kd.at_int HR1.out x12_1 p143 q143
          cases e143
          replace hx143_0 := cell_x HB hx143_0
          replace p143 := eq_true p143
          replace q143 := eq_true q143
          try go_wp2
          replace BK140 := Aside0.mk (blk_drew BK140.out)
          replace BK141 := Aside0.mk (blk_drew BK141.out)
          replace BK142 := Aside0.mk (blk_drew BK142.out)
          replace HB := Aside0.mk (below_drew1 HB.out)
          have p144 : 0 ≤ (x12_1 : Int) := of_x
          have q144 : x12_1 < (l0_6.length : Int) := of_x
          obtain ⟨ad144, e144, hx144_0, hx144_1, hx144_2⟩ := at_T79 HR0_6.out x12_1 p144 q144
          have hw144_2 := hx144_2
          have hw144_1 := hx144_1
          have hw144_0 := hx144_0
          cases e144
          replace hx144_0 := cell_x HB hx144_0
          replace hx144_1 := cell_x HB hx144_1
          replace hx144_2 := cell_x HB hx144_2
          replace p144 := eq_true p144
          replace q144 := eq_true q144
          have p145 : 0 ≤ ((rd l1 x12_1) : Int) := of_x
          have q145 : (rd l1 x12_1) < (l0_3.length : Int) := of_x
          obtain ⟨ad145, e145, hx145_0, hx145_1, hx145_2⟩ := at_T85 HR0_3.out (rd l1 x12_1) p145 q145
          have hw145_2 := hx145_2
          have hw145_1 := hx145_1
          have hw145_0 := hx145_0
          cases e145
          replace hx145_0 := cell_x HB hx145_0
          replace hx145_1 := cell_x HB hx145_1
          replace hx145_2 := cell_x HB hx145_2
          replace p145 := eq_true p145
          replace q145 := eq_true q145
          have p146 : 0 ≤ ((rd l1 x12_1) : Int) := of_x
          have q146 : (rd l1 x12_1) < (l0_3.length : Int) := of_x
          obtain ⟨ad146, e146, hx146_0, hx146_1, hx146_2⟩ := at_T85 HR0_3.out (rd l1 x12_1) p146 q146
          have hw146_2 := hx146_2
          have hw146_1 := hx146_1
          have hw146_0 := hx146_0
          obtain rfl : ad145 = ad146 := (by injection e146)
          replace hx146_0 := cell_x HB hx146_0
          replace hx146_1 := cell_x HB hx146_1
          replace hx146_2 := cell_x HB hx146_2
          replace p146 := eq_true p146
          replace q146 := eq_true q146
          refine start_ (n := 22) (S := fun w' => w'.cell? ⟨gb140, 0, none⟩ = some (.int .i64 a0_0) ∧ w'.cell? ⟨gb140, 1, none⟩ = some (.int .i64 a0_1) ∧ w'.cell? ⟨gb140, 2, none⟩ = some (.int .i64 a0_2) ∧ w'.cell? ⟨gb140, 3, none⟩ = some (.slice (some ad145) l0_3.length c0_3) ∧ w'.cell? ⟨gb140, 4, none⟩ = some (.int .i64 a0_4) ∧ w'.cell? ⟨gb140, 5, none⟩ = some (.slice A0_5 l0_5.length c0_5) ∧ w'.cell? ⟨gb140, 6, none⟩ = some (.slice (some ad144) l0_6.length c0_6) ∧ w'.cell? (ad144.add ((x12_1).toNat * 3)) = some (.int .i64 ((rd_T79 l0_6 x12_1).f0.f0)) ∧ w'.cell? ⟨(ad144.add ((x12_1).toNat * 3)).block, (ad144.add ((x12_1).toNat * 3)).off + 1, none⟩ = some (.int .i64 ((rd_T79 l0_6 x12_1).f0.f1)) ∧ w'.cell? ⟨(ad144.add ((x12_1).toNat * 3)).block, (ad144.add ((x12_1).toNat * 3)).off + 2, none⟩ = some (.int .i64 ((rd_T79 l0_6 x12_1).f1)) ∧ w'.cell? (ad145.add (((rd l1 x12_1)).toNat * 3)) = some (.int .i64 ((rd_T85 l0_3 (rd l1 x12_1)).f0)) ∧ w'.cell? ⟨(ad145.add (((rd l1 x12_1)).toNat * 3)).block, (ad145.add (((rd l1 x12_1)).toNat * 3)).off + 1, none⟩ = some (.int .i64 ((rd_T85 l0_3 (rd l1 x12_1)).f1)) ∧ w'.cell? ⟨(ad145.add (((rd l1 x12_1)).toNat * 3)).block, (ad145.add (((rd l1 x12_1)).toNat * 3)).off + 2, none⟩ = some (.int .i64 ((rd_T85 l0_3 (rd l1 x12_1)).f2)) ∧ w'.cell? (ad145.add (((rd l1 x12_1)).toNat * 3)) = some (.int .i64 ((rd_T85 l0_3 (rd l1 x12_1)).f0)) ∧ w'.cell? ⟨(ad145.add (((rd l1 x12_1)).toNat * 3)).block, (ad145.add (((rd l1 x12_1)).toNat * 3)).off + 1, none⟩ = some (.int .i64 ((rd_T85 l0_3 (rd l1 x12_1)).f1)) ∧ w'.cell? ⟨(ad145.add (((rd l1 x12_1)).toNat * 3)).block, (ad145.add (((rd l1 x12_1)).toNat * 3)).off + 2, none⟩ = some (.int .i64 ((rd_T85 l0_3 (rd l1 x12_1)).f2))) (ds := []) #[false, false, false, false, false, false, false, false, false, false, false, false, false, false, false, false, false, false, false, false, false, false] (by kernel_rfl) rfl rfl ⟨(blk_cell BK140.out 0).trans rfl, (blk_cell BK140.out 1).trans rfl, (blk_cell BK140.out 2).trans rfl, (blk_cell BK140.out 3).trans rfl, (blk_cell BK140.out 4).trans rfl, (blk_cell BK140.out 5).trans rfl, (blk_cell BK140.out 6).trans rfl, ((HB.out.cell (World.block_lt_of_cell? w _ hw144_0)).trans hw144_0), ((HB.out.cell (World.block_lt_of_cell? w _ hw144_1)).trans hw144_1), ((HB.out.cell (World.block_lt_of_cell? w _ hw144_2)).trans hw144_2), ((HB.out.cell (World.block_lt_of_cell? w _ hw145_0)).trans hw145_0), ((HB.out.cell (World.block_lt_of_cell? w _ hw145_1)).trans hw145_1), ((HB.out.cell (World.block_lt_of_cell? w _ hw145_2)).trans hw145_2), ((HB.out.cell (World.block_lt_of_cell? w _ hw146_0)).trans hw146_0), ((HB.out.cell (World.block_lt_of_cell? w _ hw146_1)).trans hw146_1), ((HB.out.cell (World.block_lt_of_cell? w _ hw146_2)).trans hw146_2)⟩ (fun hHeld => ?_); refine with_tabW ship_apart.tab6 ship_apart.bits6 (fun HT_ HW_ => ?_)
          generalize wr.drew = w15 at BK140 BK141 BK142 HB hx144_0 hx144_1 hx144_2 hx145_0 hx145_1 hx145_2 hx146_0 hx146_1 hx146_2 hHeld ⊢
          refine pure_ (i := 0) (N := some 19) (v := ?_) (a' := ?_) (bz 22 1) rfl rfl (any_of HT_.out (by kernel_rfl)) (fun _ _ _ h => h) (Or.inl ⟨by rfl, ?_⟩) ?_ ?_
          rotate_left
          ·
           intro w'
           go_simp
           with_reducible rfl
          rotate_left
          ·
           simp only [Act.put, put_x, i64_w, i32_w]
           rfl
          refine pure_ (i := 2) (N := some 21) (v := ?_) (a' := ?_) (bz 22 5) rfl rfl (any_of HT_.out (by kernel_rfl)) (fun _ _ _ h => h) (Or.inl ⟨by rfl, ?_⟩) ?_ ?_
          rotate_left
          ·
           intro w'
           go_simp
           with_reducible rfl
          rotate_left
          ·
           simp only [Act.put, put_x, i64_w, i32_w]
           rfl
          refine pure_ (i := 6) (N := some 25) (v := ?_) (a' := ?_) (bz 22 69) rfl rfl (any_of HT_.out (by kernel_rfl)) (fun _ _ _ h => h) (Or.inl ⟨by rfl, ?_⟩) ?_ ?_
          rotate_left
          ·
           intro w'
           go_simp
           with_reducible rfl
          rotate_left
          ·
           simp only [Act.put, put_x, i64_w, i32_w]
           rfl
          refine pure_ (i := 8) (N := some 27) (v := ?_) (a' := ?_) (bz 22 325) rfl rfl (any_of HT_.out (by kernel_rfl)) (fun _ _ _ h => h) (Or.inl ⟨by rfl, ?_⟩) ?_ ?_
          rotate_left
          ·
           intro w'
           go_simp
           with_reducible rfl
          rotate_left
          ·
           simp only [Act.put, put_x, i64_w, i32_w]
           rfl
          refine pure_ (i := 12) (N := some 31) (v := ?_) (a' := ?_) (bz 22 4421) rfl rfl (any_of HT_.out (by kernel_rfl)) (fun _ _ _ h => h) (Or.inl ⟨by rfl, ?_⟩) ?_ ?_
          rotate_left
          ·
           intro w'
           go_simp
           with_reducible rfl
          rotate_left
          ·
           simp only [Act.put, put_x, i64_w, i32_w]
           rfl
          refine pure_ (i := 14) (N := some 33) (v := ?_) (a' := ?_) (bz 22 20805) rfl rfl (any_of HT_.out (by kernel_rfl)) (fun _ _ _ h => h) (Or.inl ⟨by rfl, ?_⟩) ?_ ?_
          rotate_left
          ·
           intro w'
           go_simp
           with_reducible rfl
          rotate_left
          ·
           simp only [Act.put, put_x, i64_w, i32_w]
           rfl
          refine take_ (i := 1) (N := some 20) (v := ?_) (a' := ?_) (bz 22 20807) rfl rfl (take_ofW HT_.out HW_.out (by kernel_rfl)) (fun _ _ _ h => h) (Or.inl ⟨by rfl, ?_⟩) hHeld ?_ ?_
          rotate_left
          ·
           rintro w' ⟨s0, s1, s2, s3, s4, s5, s6, s7, s8, s9, s10, s11, s12, s13, s14, s15⟩
           go_simp
           with_reducible rfl
          rotate_left
          ·
           simp only [Act.put, put_x, i64_w, i32_w]
           rfl
          refine pure_ (i := 3) (N := some 22) (v := ?_) (a' := ?_) (bz 22 20815) rfl rfl (any_of HT_.out (by kernel_rfl)) (fun _ _ _ h => h) (Or.inl ⟨by rfl, ?_⟩) ?_ ?_
          rotate_left
          ·
           intro w'
           go_simp
           with_reducible rfl
          rotate_left
          ·
           simp only [Act.put, put_x, i64_w, i32_w]
           rfl
          refine pure_ (i := 4) (N := some 23) (v := ?_) (a' := ?_) (bz 22 20831) rfl rfl (any_of HT_.out (by kernel_rfl)) (fun _ _ _ h => h) (Or.inl ⟨by rfl, ?_⟩) ?_ ?_
          rotate_left
          ·
           intro w'
           go_simp
           with_reducible rfl
          rotate_left
          ·
           simp only [Act.put, put_x, i64_w, i32_w]
           rfl
          refine take_ (i := 5) (N := some 24) (v := ?_) (a' := ?_) (bz 22 20863) rfl rfl (take_ofW HT_.out HW_.out (by kernel_rfl)) (fun _ _ _ h => h) (Or.inl ⟨by rfl, ?_⟩) hHeld ?_ ?_
          rotate_left
          ·
           rintro w' ⟨s0, s1, s2, s3, s4, s5, s6, s7, s8, s9, s10, s11, s12, s13, s14, s15⟩
           go_simp
           with_reducible rfl
          rotate_left
          ·
           simp only [Act.put, put_x, i64_w, i32_w]
           rfl
          refine take_ (i := 7) (N := some 26) (v := ?_) (a' := ?_) (bz 22 20991) rfl rfl (take_ofW HT_.out HW_.out (by kernel_rfl)) (fun _ _ _ h => h) (Or.inl ⟨by rfl, ?_⟩) hHeld ?_ ?_
          rotate_left
          ·
           rintro w' ⟨s0, s1, s2, s3, s4, s5, s6, s7, s8, s9, s10, s11, s12, s13, s14, s15⟩
           go_simp
           with_reducible rfl
          rotate_left
          ·
           simp only [Act.put, put_x, i64_w, i32_w]
           rfl
          refine pure_ (i := 9) (N := some 28) (v := ?_) (a' := ?_) (bz 22 21503) rfl rfl (any_of HT_.out (by kernel_rfl)) (fun _ _ _ h => h) (Or.inl ⟨by rfl, ?_⟩) ?_ ?_
          rotate_left
          ·
           intro w'
           go_simp
           with_reducible rfl
          rotate_left
          ·
           simp only [Act.put, put_x, i64_w, i32_w]
           rfl
          refine pure_ (i := 10) (N := some 29) (v := ?_) (a' := ?_) (bz 22 22527) rfl rfl (any_of HT_.out (by kernel_rfl)) (fun _ _ _ h => h) (Or.inl ⟨by rfl, ?_⟩) ?_ ?_
          rotate_left
          ·
           intro w'
           go_simp
           with_reducible rfl
          rotate_left
          ·
           simp only [Act.put, put_x, i64_w, i32_w]
           rfl
          refine take_ (i := 11) (N := some 30) (v := ?_) (a' := ?_) (bz 22 24575) rfl rfl (take_ofW HT_.out HW_.out (by kernel_rfl)) (fun _ _ _ h => h) (Or.inl ⟨by rfl, ?_⟩) hHeld ?_ ?_
          rotate_left
          ·
           rintro w' ⟨s0, s1, s2, s3, s4, s5, s6, s7, s8, s9, s10, s11, s12, s13, s14, s15⟩
           go_simp
           with_reducible rfl
          rotate_left
          ·
           simp only [Act.put, put_x, i64_w, i32_w]
           rfl
          refine take_ (i := 13) (N := some 32) (v := ?_) (a' := ?_) (bz 22 32767) rfl rfl (take_ofW HT_.out HW_.out (by kernel_rfl)) (fun _ _ _ h => h) (Or.inl ⟨by rfl, ?_⟩) hHeld ?_ ?_
          rotate_left
          ·
           rintro w' ⟨s0, s1, s2, s3, s4, s5, s6, s7, s8, s9, s10, s11, s12, s13, s14, s15⟩
           go_simp
           with_reducible rfl
          rotate_left
          ·
           simp only [Act.put, put_x, i64_w, i32_w]
           rfl
          refine pure_ (i := 15) (N := some 34) (v := ?_) (a' := ?_) (bz 22 65535) rfl rfl (any_of HT_.out (by kernel_rfl)) (fun _ _ _ h => h) (Or.inl ⟨by rfl, ?_⟩) ?_ ?_
          rotate_left
          ·
           intro w'
           go_simp
           with_reducible rfl
          rotate_left
          ·
           simp only [Act.put, put_x, i64_w, i32_w]
           rfl
          refine pure_ (i := 16) (N := some 35) (v := ?_) (a' := ?_) (bz 22 131071) rfl rfl (any_of HT_.out (by kernel_rfl)) (fun _ _ _ h => h) (Or.inl ⟨by rfl, ?_⟩) ?_ ?_
          rotate_left
          ·
           intro w'
           go_simp
           with_reducible rfl
          rotate_left
          ·
           simp only [Act.put, put_x, i64_w, i32_w]
           rfl
          refine take_ (i := 17) (N := some 36) (v := ?_) (a' := ?_) (bz 22 262143) rfl rfl (take_ofW HT_.out HW_.out (by kernel_rfl)) (fun _ _ _ h => h) (Or.inl ⟨by rfl, ?_⟩) hHeld ?_ ?_
          rotate_left
          ·
           rintro w' ⟨s0, s1, s2, s3, s4, s5, s6, s7, s8, s9, s10, s11, s12, s13, s14, s15⟩
           go_simp
           with_reducible rfl
          rotate_left
          ·
           simp only [Act.put, put_x, i64_w, i32_w]
           rfl
          refine pure_ (i := 18) (N := some 37) (v := ?_) (a' := ?_) (bz 22 524287) rfl rfl (any_of HT_.out (by kernel_rfl)) (fun _ _ _ h => h) (Or.inl ⟨by rfl, ?_⟩) ?_ ?_
          rotate_left
          ·
           intro w'
           go_simp
           with_reducible rfl
          rotate_left
          ·
           simp only [Act.put, put_x, i64_w, i32_w]
           rfl
          refine one_ (i := 19) (N := some 8) (bz 22 1048575) rfl rfl (one_of HT_.out (by kernel_rfl)) (by decide) (fun K hK => ?_)
          refine box_step ?hg (N := 8) ?hd (cs := #[.int .i64 0, .int .i64 0]) (t := 56) ?hr ?_; (case hd => rfl); (case hg => rfl); (case hr => first | (go_simp; done) | (go_simp; rfl))
          intro gb147 hg w16 hbox hb
          have BK147 := Aside0.mk (hbox)
          have GW147 := Aside0.mk ((by rw [hg]; exact (below_size (by exact below_y HB.out)) : w.heap.size ≤ gb147))
          have GE147 := Aside0.mk ((by rw [hg]; exact (below_size (by exact below_y HB.out)) : w.heap.size ≤ gb147))
          replace HB := bl_x HB hb
          have NB140_147 := Aside0.mk ((by rw [hg]; exact Nat.ne_of_lt (blk_lt (g := gb140) (o := .cells #[.int .i64 a0_0, .int .i64 a0_1, .int .i64 a0_2, .slice (some ad145) l0_3.length c0_3, .int .i64 a0_4, .slice A0_5 l0_5.length c0_5, .slice (some ad144) l0_6.length c0_6] 26 (0, 0)) (blk_x BK140.out)) : gb140 ≠ gb147))
          have NB147_140 := Aside0.mk ((by rw [hg]; exact Nat.ne_of_gt (blk_lt (g := gb140) (o := .cells #[.int .i64 a0_0, .int .i64 a0_1, .int .i64 a0_2, .slice (some ad145) l0_3.length c0_3, .int .i64 a0_4, .slice A0_5 l0_5.length c0_5, .slice (some ad144) l0_6.length c0_6] 26 (0, 0)) (blk_x BK140.out)) : gb147 ≠ gb140))
          replace BK140 := Aside0.mk (blk_below (blk_x BK140.out) hb)
          have NB141_147 := Aside0.mk ((by rw [hg]; exact Nat.ne_of_lt (blk_lt (g := gb141) (o := .cells #[.int .i64 0, .int .i64 0] 56 (0, 0)) (blk_x BK141.out)) : gb141 ≠ gb147))
          have NB147_141 := Aside0.mk ((by rw [hg]; exact Nat.ne_of_gt (blk_lt (g := gb141) (o := .cells #[.int .i64 0, .int .i64 0] 56 (0, 0)) (blk_x BK141.out)) : gb147 ≠ gb141))
          replace BK141 := Aside0.mk (blk_below (blk_x BK141.out) hb)
          have NB142_147 := Aside0.mk ((by rw [hg]; exact Nat.ne_of_lt (blk_lt (g := gb142) (o := .cells #[.int .i64 x143000_1, .int .i64 x143001_1] 56 (0, 0)) (blk_x BK142.out)) : gb142 ≠ gb147))
          have NB147_142 := Aside0.mk ((by rw [hg]; exact Nat.ne_of_gt (blk_lt (g := gb142) (o := .cells #[.int .i64 x143000_1, .int .i64 x143001_1] 56 (0, 0)) (blk_x BK142.out)) : gb147 ≠ gb142))
          replace BK142 := Aside0.mk (blk_below (blk_x BK142.out) hb)
          clear hb hbox hg
          refine hK.out _ _ ⟨(blk_cell BK140.out 0).trans rfl, (blk_cell BK140.out 1).trans rfl, (blk_cell BK140.out 2).trans rfl, (blk_cell BK140.out 3).trans rfl, (blk_cell BK140.out 4).trans rfl, (blk_cell BK140.out 5).trans rfl, (blk_cell BK140.out 6).trans rfl, ((HB.out.cell (World.block_lt_of_cell? w _ hw144_0)).trans hw144_0), ((HB.out.cell (World.block_lt_of_cell? w _ hw144_1)).trans hw144_1), ((HB.out.cell (World.block_lt_of_cell? w _ hw144_2)).trans hw144_2), ((HB.out.cell (World.block_lt_of_cell? w _ hw145_0)).trans hw145_0), ((HB.out.cell (World.block_lt_of_cell? w _ hw145_1)).trans hw145_1), ((HB.out.cell (World.block_lt_of_cell? w _ hw145_2)).trans hw145_2), ((HB.out.cell (World.block_lt_of_cell? w _ hw146_0)).trans hw146_0), ((HB.out.cell (World.block_lt_of_cell? w _ hw146_1)).trans hw146_1), ((HB.out.cell (World.block_lt_of_cell? w _ hw146_2)).trans hw146_2)⟩ (fun hHeld => ?_)
          clear hK K
          refine norm_ (a' := ?_) ?_ ?_
          rotate_left
          ·
           show Act.put _ (some 8) _ = _
           simp only [Act.put, put_x, i64_w, i32_w]
           rfl
          refine one_ (i := 20) (N := none) (bz 22 2097151) rfl rfl (one_of HT_.out (by kernel_rfl)) (by decide) (fun K hK => ?_)
          have hs17 : w16.cell? ⟨gb147, 0, none⟩ = some (.int .i64 0) := (blk_cell BK147.out 0).trans rfl
          have hfs17 := blk_frozen BK147.out 0
          have hns17_0 := NB140_147.out
          have hns17_1 := NB141_147.out
          have hns17_2 := NB142_147.out
          have hms17_0 := NB147_140.out
          have hms17_1 := NB147_141.out
          have hms17_2 := NB147_142.out
          have hs18 : w16.cell? ⟨gb147, 1, none⟩ = some (.int .i64 0) := (blk_cell BK147.out 1).trans rfl
          have hfs18 := blk_frozen BK147.out 1
          have hns18_0 := NB140_147.out
          have hns18_1 := NB141_147.out
          have hns18_2 := NB142_147.out
          have hms18_0 := NB147_140.out
          have hms18_1 := NB147_141.out
          have hms18_2 := NB147_142.out
          refine skip_ (w1 := ?_) (by rfl) rfl ?_ ?_
          rotate_left
          ·
           go_simp
           rfl
          refine hK.out _ _ ⟨((cell_far (p := ⟨gb147, _, none⟩) NB140_147.out _).trans (((cell_far (p := ⟨gb147, _, none⟩) NB140_147.out _).trans (hHeld.1)))), ((cell_far (p := ⟨gb147, _, none⟩) NB140_147.out _).trans (((cell_far (p := ⟨gb147, _, none⟩) NB140_147.out _).trans (hHeld.2.1)))), ((cell_far (p := ⟨gb147, _, none⟩) NB140_147.out _).trans (((cell_far (p := ⟨gb147, _, none⟩) NB140_147.out _).trans (hHeld.2.2.1)))), ((cell_far (p := ⟨gb147, _, none⟩) NB140_147.out _).trans (((cell_far (p := ⟨gb147, _, none⟩) NB140_147.out _).trans (hHeld.2.2.2.1)))), ((cell_far (p := ⟨gb147, _, none⟩) NB140_147.out _).trans (((cell_far (p := ⟨gb147, _, none⟩) NB140_147.out _).trans (hHeld.2.2.2.2.1)))), ((cell_far (p := ⟨gb147, _, none⟩) NB140_147.out _).trans (((cell_far (p := ⟨gb147, _, none⟩) NB140_147.out _).trans (hHeld.2.2.2.2.2.1)))), ((cell_far (p := ⟨gb147, _, none⟩) NB140_147.out _).trans (((cell_far (p := ⟨gb147, _, none⟩) NB140_147.out _).trans (hHeld.2.2.2.2.2.2.1)))), ((cell_far (p := ⟨gb147, _, none⟩) (by first | exact Nat.ne_of_lt (Nat.lt_of_lt_of_le (by have := World.block_lt_of_cell? _ _ hw144_0; first | rwa [add_block] at this | exact this) GW147.out) | (rw [add_block]; exact Nat.ne_of_lt (Nat.lt_of_lt_of_le (by have := World.block_lt_of_cell? _ _ hw144_0; first | rwa [add_block] at this | exact this) GW147.out)) | (show (Addr.add _ _).block ≠ _; rw [add_block]; exact Nat.ne_of_lt (Nat.lt_of_lt_of_le (by have := World.block_lt_of_cell? _ _ hw144_0; first | rwa [add_block] at this | exact this) GW147.out)) | (dsimp only; exact Nat.ne_of_lt (Nat.lt_of_lt_of_le (by have := World.block_lt_of_cell? _ _ hw144_0; first | rwa [add_block] at this | exact this) GW147.out))) _).trans (((cell_far (p := ⟨gb147, _, none⟩) (by first | exact Nat.ne_of_lt (Nat.lt_of_lt_of_le (by have := World.block_lt_of_cell? _ _ hw144_0; first | rwa [add_block] at this | exact this) GW147.out) | (rw [add_block]; exact Nat.ne_of_lt (Nat.lt_of_lt_of_le (by have := World.block_lt_of_cell? _ _ hw144_0; first | rwa [add_block] at this | exact this) GW147.out)) | (show (Addr.add _ _).block ≠ _; rw [add_block]; exact Nat.ne_of_lt (Nat.lt_of_lt_of_le (by have := World.block_lt_of_cell? _ _ hw144_0; first | rwa [add_block] at this | exact this) GW147.out)) | (dsimp only; exact Nat.ne_of_lt (Nat.lt_of_lt_of_le (by have := World.block_lt_of_cell? _ _ hw144_0; first | rwa [add_block] at this | exact this) GW147.out))) _).trans (hHeld.2.2.2.2.2.2.2.1)))), ((cell_far (p := ⟨gb147, _, none⟩) (by first | exact Nat.ne_of_lt (Nat.lt_of_lt_of_le (by have := World.block_lt_of_cell? _ _ hw144_1; first | rwa [add_block] at this | exact this) GW147.out) | (rw [add_block]; exact Nat.ne_of_lt (Nat.lt_of_lt_of_le (by have := World.block_lt_of_cell? _ _ hw144_1; first | rwa [add_block] at this | exact this) GW147.out)) | (show (Addr.add _ _).block ≠ _; rw [add_block]; exact Nat.ne_of_lt (Nat.lt_of_lt_of_le (by have := World.block_lt_of_cell? _ _ hw144_1; first | rwa [add_block] at this | exact this) GW147.out)) | (dsimp only; exact Nat.ne_of_lt (Nat.lt_of_lt_of_le (by have := World.block_lt_of_cell? _ _ hw144_1; first | rwa [add_block] at this | exact this) GW147.out))) _).trans (((cell_far (p := ⟨gb147, _, none⟩) (by first | exact Nat.ne_of_lt (Nat.lt_of_lt_of_le (by have := World.block_lt_of_cell? _ _ hw144_1; first | rwa [add_block] at this | exact this) GW147.out) | (rw [add_block]; exact Nat.ne_of_lt (Nat.lt_of_lt_of_le (by have := World.block_lt_of_cell? _ _ hw144_1; first | rwa [add_block] at this | exact this) GW147.out)) | (show (Addr.add _ _).block ≠ _; rw [add_block]; exact Nat.ne_of_lt (Nat.lt_of_lt_of_le (by have := World.block_lt_of_cell? _ _ hw144_1; first | rwa [add_block] at this | exact this) GW147.out)) | (dsimp only; exact Nat.ne_of_lt (Nat.lt_of_lt_of_le (by have := World.block_lt_of_cell? _ _ hw144_1; first | rwa [add_block] at this | exact this) GW147.out))) _).trans (hHeld.2.2.2.2.2.2.2.2.1)))), ((cell_far (p := ⟨gb147, _, none⟩) (by first | exact Nat.ne_of_lt (Nat.lt_of_lt_of_le (by have := World.block_lt_of_cell? _ _ hw144_2; first | rwa [add_block] at this | exact this) GW147.out) | (rw [add_block]; exact Nat.ne_of_lt (Nat.lt_of_lt_of_le (by have := World.block_lt_of_cell? _ _ hw144_2; first | rwa [add_block] at this | exact this) GW147.out)) | (show (Addr.add _ _).block ≠ _; rw [add_block]; exact Nat.ne_of_lt (Nat.lt_of_lt_of_le (by have := World.block_lt_of_cell? _ _ hw144_2; first | rwa [add_block] at this | exact this) GW147.out)) | (dsimp only; exact Nat.ne_of_lt (Nat.lt_of_lt_of_le (by have := World.block_lt_of_cell? _ _ hw144_2; first | rwa [add_block] at this | exact this) GW147.out))) _).trans (((cell_far (p := ⟨gb147, _, none⟩) (by first | exact Nat.ne_of_lt (Nat.lt_of_lt_of_le (by have := World.block_lt_of_cell? _ _ hw144_2; first | rwa [add_block] at this | exact this) GW147.out) | (rw [add_block]; exact Nat.ne_of_lt (Nat.lt_of_lt_of_le (by have := World.block_lt_of_cell? _ _ hw144_2; first | rwa [add_block] at this | exact this) GW147.out)) | (show (Addr.add _ _).block ≠ _; rw [add_block]; exact Nat.ne_of_lt (Nat.lt_of_lt_of_le (by have := World.block_lt_of_cell? _ _ hw144_2; first | rwa [add_block] at this | exact this) GW147.out)) | (dsimp only; exact Nat.ne_of_lt (Nat.lt_of_lt_of_le (by have := World.block_lt_of_cell? _ _ hw144_2; first | rwa [add_block] at this | exact this) GW147.out))) _).trans (hHeld.2.2.2.2.2.2.2.2.2.1)))), ((cell_far (p := ⟨gb147, _, none⟩) (by first | exact Nat.ne_of_lt (Nat.lt_of_lt_of_le (by have := World.block_lt_of_cell? _ _ hw145_0; first | rwa [add_block] at this | exact this) GW147.out) | (rw [add_block]; exact Nat.ne_of_lt (Nat.lt_of_lt_of_le (by have := World.block_lt_of_cell? _ _ hw145_0; first | rwa [add_block] at this | exact this) GW147.out)) | (show (Addr.add _ _).block ≠ _; rw [add_block]; exact Nat.ne_of_lt (Nat.lt_of_lt_of_le (by have := World.block_lt_of_cell? _ _ hw145_0; first | rwa [add_block] at this | exact this) GW147.out)) | (dsimp only; exact Nat.ne_of_lt (Nat.lt_of_lt_of_le (by have := World.block_lt_of_cell? _ _ hw145_0; first | rwa [add_block] at this | exact this) GW147.out))) _).trans (((cell_far (p := ⟨gb147, _, none⟩) (by first | exact Nat.ne_of_lt (Nat.lt_of_lt_of_le (by have := World.block_lt_of_cell? _ _ hw145_0; first | rwa [add_block] at this | exact this) GW147.out) | (rw [add_block]; exact Nat.ne_of_lt (Nat.lt_of_lt_of_le (by have := World.block_lt_of_cell? _ _ hw145_0; first | rwa [add_block] at this | exact this) GW147.out)) | (show (Addr.add _ _).block ≠ _; rw [add_block]; exact Nat.ne_of_lt (Nat.lt_of_lt_of_le (by have := World.block_lt_of_cell? _ _ hw145_0; first | rwa [add_block] at this | exact this) GW147.out)) | (dsimp only; exact Nat.ne_of_lt (Nat.lt_of_lt_of_le (by have := World.block_lt_of_cell? _ _ hw145_0; first | rwa [add_block] at this | exact this) GW147.out))) _).trans (hHeld.2.2.2.2.2.2.2.2.2.2.1)))), ((cell_far (p := ⟨gb147, _, none⟩) (by first | exact Nat.ne_of_lt (Nat.lt_of_lt_of_le (by have := World.block_lt_of_cell? _ _ hw145_1; first | rwa [add_block] at this | exact this) GW147.out) | (rw [add_block]; exact Nat.ne_of_lt (Nat.lt_of_lt_of_le (by have := World.block_lt_of_cell? _ _ hw145_1; first | rwa [add_block] at this | exact this) GW147.out)) | (show (Addr.add _ _).block ≠ _; rw [add_block]; exact Nat.ne_of_lt (Nat.lt_of_lt_of_le (by have := World.block_lt_of_cell? _ _ hw145_1; first | rwa [add_block] at this | exact this) GW147.out)) | (dsimp only; exact Nat.ne_of_lt (Nat.lt_of_lt_of_le (by have := World.block_lt_of_cell? _ _ hw145_1; first | rwa [add_block] at this | exact this) GW147.out))) _).trans (((cell_far (p := ⟨gb147, _, none⟩) (by first | exact Nat.ne_of_lt (Nat.lt_of_lt_of_le (by have := World.block_lt_of_cell? _ _ hw145_1; first | rwa [add_block] at this | exact this) GW147.out) | (rw [add_block]; exact Nat.ne_of_lt (Nat.lt_of_lt_of_le (by have := World.block_lt_of_cell? _ _ hw145_1; first | rwa [add_block] at this | exact this) GW147.out)) | (show (Addr.add _ _).block ≠ _; rw [add_block]; exact Nat.ne_of_lt (Nat.lt_of_lt_of_le (by have := World.block_lt_of_cell? _ _ hw145_1; first | rwa [add_block] at this | exact this) GW147.out)) | (dsimp only; exact Nat.ne_of_lt (Nat.lt_of_lt_of_le (by have := World.block_lt_of_cell? _ _ hw145_1; first | rwa [add_block] at this | exact this) GW147.out))) _).trans (hHeld.2.2.2.2.2.2.2.2.2.2.2.1)))), ((cell_far (p := ⟨gb147, _, none⟩) (by first | exact Nat.ne_of_lt (Nat.lt_of_lt_of_le (by have := World.block_lt_of_cell? _ _ hw145_2; first | rwa [add_block] at this | exact this) GW147.out) | (rw [add_block]; exact Nat.ne_of_lt (Nat.lt_of_lt_of_le (by have := World.block_lt_of_cell? _ _ hw145_2; first | rwa [add_block] at this | exact this) GW147.out)) | (show (Addr.add _ _).block ≠ _; rw [add_block]; exact Nat.ne_of_lt (Nat.lt_of_lt_of_le (by have := World.block_lt_of_cell? _ _ hw145_2; first | rwa [add_block] at this | exact this) GW147.out)) | (dsimp only; exact Nat.ne_of_lt (Nat.lt_of_lt_of_le (by have := World.block_lt_of_cell? _ _ hw145_2; first | rwa [add_block] at this | exact this) GW147.out))) _).trans (((cell_far (p := ⟨gb147, _, none⟩) (by first | exact Nat.ne_of_lt (Nat.lt_of_lt_of_le (by have := World.block_lt_of_cell? _ _ hw145_2; first | rwa [add_block] at this | exact this) GW147.out) | (rw [add_block]; exact Nat.ne_of_lt (Nat.lt_of_lt_of_le (by have := World.block_lt_of_cell? _ _ hw145_2; first | rwa [add_block] at this | exact this) GW147.out)) | (show (Addr.add _ _).block ≠ _; rw [add_block]; exact Nat.ne_of_lt (Nat.lt_of_lt_of_le (by have := World.block_lt_of_cell? _ _ hw145_2; first | rwa [add_block] at this | exact this) GW147.out)) | (dsimp only; exact Nat.ne_of_lt (Nat.lt_of_lt_of_le (by have := World.block_lt_of_cell? _ _ hw145_2; first | rwa [add_block] at this | exact this) GW147.out))) _).trans (hHeld.2.2.2.2.2.2.2.2.2.2.2.2.1)))), ((cell_far (p := ⟨gb147, _, none⟩) (by first | exact Nat.ne_of_lt (Nat.lt_of_lt_of_le (by have := World.block_lt_of_cell? _ _ hw146_0; first | rwa [add_block] at this | exact this) GW147.out) | (rw [add_block]; exact Nat.ne_of_lt (Nat.lt_of_lt_of_le (by have := World.block_lt_of_cell? _ _ hw146_0; first | rwa [add_block] at this | exact this) GW147.out)) | (show (Addr.add _ _).block ≠ _; rw [add_block]; exact Nat.ne_of_lt (Nat.lt_of_lt_of_le (by have := World.block_lt_of_cell? _ _ hw146_0; first | rwa [add_block] at this | exact this) GW147.out)) | (dsimp only; exact Nat.ne_of_lt (Nat.lt_of_lt_of_le (by have := World.block_lt_of_cell? _ _ hw146_0; first | rwa [add_block] at this | exact this) GW147.out))) _).trans (((cell_far (p := ⟨gb147, _, none⟩) (by first | exact Nat.ne_of_lt (Nat.lt_of_lt_of_le (by have := World.block_lt_of_cell? _ _ hw146_0; first | rwa [add_block] at this | exact this) GW147.out) | (rw [add_block]; exact Nat.ne_of_lt (Nat.lt_of_lt_of_le (by have := World.block_lt_of_cell? _ _ hw146_0; first | rwa [add_block] at this | exact this) GW147.out)) | (show (Addr.add _ _).block ≠ _; rw [add_block]; exact Nat.ne_of_lt (Nat.lt_of_lt_of_le (by have := World.block_lt_of_cell? _ _ hw146_0; first | rwa [add_block] at this | exact this) GW147.out)) | (dsimp only; exact Nat.ne_of_lt (Nat.lt_of_lt_of_le (by have := World.block_lt_of_cell? _ _ hw146_0; first | rwa [add_block] at this | exact this) GW147.out))) _).trans (hHeld.2.2.2.2.2.2.2.2.2.2.2.2.2.1)))), ((cell_far (p := ⟨gb147, _, none⟩) (by first | exact Nat.ne_of_lt (Nat.lt_of_lt_of_le (by have := World.block_lt_of_cell? _ _ hw146_1; first | rwa [add_block] at this | exact this) GW147.out) | (rw [add_block]; exact Nat.ne_of_lt (Nat.lt_of_lt_of_le (by have := World.block_lt_of_cell? _ _ hw146_1; first | rwa [add_block] at this | exact this) GW147.out)) | (show (Addr.add _ _).block ≠ _; rw [add_block]; exact Nat.ne_of_lt (Nat.lt_of_lt_of_le (by have := World.block_lt_of_cell? _ _ hw146_1; first | rwa [add_block] at this | exact this) GW147.out)) | (dsimp only; exact Nat.ne_of_lt (Nat.lt_of_lt_of_le (by have := World.block_lt_of_cell? _ _ hw146_1; first | rwa [add_block] at this | exact this) GW147.out))) _).trans (((cell_far (p := ⟨gb147, _, none⟩) (by first | exact Nat.ne_of_lt (Nat.lt_of_lt_of_le (by have := World.block_lt_of_cell? _ _ hw146_1; first | rwa [add_block] at this | exact this) GW147.out) | (rw [add_block]; exact Nat.ne_of_lt (Nat.lt_of_lt_of_le (by have := World.block_lt_of_cell? _ _ hw146_1; first | rwa [add_block] at this | exact this) GW147.out)) | (show (Addr.add _ _).block ≠ _; rw [add_block]; exact Nat.ne_of_lt (Nat.lt_of_lt_of_le (by have := World.block_lt_of_cell? _ _ hw146_1; first | rwa [add_block] at this | exact this) GW147.out)) | (dsimp only; exact Nat.ne_of_lt (Nat.lt_of_lt_of_le (by have := World.block_lt_of_cell? _ _ hw146_1; first | rwa [add_block] at this | exact this) GW147.out))) _).trans (hHeld.2.2.2.2.2.2.2.2.2.2.2.2.2.2.1)))), ((cell_far (p := ⟨gb147, _, none⟩) (by first | exact Nat.ne_of_lt (Nat.lt_of_lt_of_le (by have := World.block_lt_of_cell? _ _ hw146_2; first | rwa [add_block] at this | exact this) GW147.out) | (rw [add_block]; exact Nat.ne_of_lt (Nat.lt_of_lt_of_le (by have := World.block_lt_of_cell? _ _ hw146_2; first | rwa [add_block] at this | exact this) GW147.out)) | (show (Addr.add _ _).block ≠ _; rw [add_block]; exact Nat.ne_of_lt (Nat.lt_of_lt_of_le (by have := World.block_lt_of_cell? _ _ hw146_2; first | rwa [add_block] at this | exact this) GW147.out)) | (dsimp only; exact Nat.ne_of_lt (Nat.lt_of_lt_of_le (by have := World.block_lt_of_cell? _ _ hw146_2; first | rwa [add_block] at this | exact this) GW147.out))) _).trans (((cell_far (p := ⟨gb147, _, none⟩) (by first | exact Nat.ne_of_lt (Nat.lt_of_lt_of_le (by have := World.block_lt_of_cell? _ _ hw146_2; first | rwa [add_block] at this | exact this) GW147.out) | (rw [add_block]; exact Nat.ne_of_lt (Nat.lt_of_lt_of_le (by have := World.block_lt_of_cell? _ _ hw146_2; first | rwa [add_block] at this | exact this) GW147.out)) | (show (Addr.add _ _).block ≠ _; rw [add_block]; exact Nat.ne_of_lt (Nat.lt_of_lt_of_le (by have := World.block_lt_of_cell? _ _ hw146_2; first | rwa [add_block] at this | exact this) GW147.out)) | (dsimp only; exact Nat.ne_of_lt (Nat.lt_of_lt_of_le (by have := World.block_lt_of_cell? _ _ hw146_2; first | rwa [add_block] at this | exact this) GW147.out))) _).trans (hHeld.2.2.2.2.2.2.2.2.2.2.2.2.2.2.2))))⟩ (fun hHeld => ?_)
          clear hK K
          refine pure_ (i := 21) (N := some 9) (v := ?_) (a' := ?_) (bz 22 4194303) rfl rfl (any_of HT_.out (by kernel_rfl)) (fun _ _ _ h => h) (Or.inl ⟨by rfl, ?_⟩) ?_ ?_
          rotate_left
          ·
           intro w'
           go_simp
           with_reducible rfl
          rotate_left
          ·
           simp only [Act.put, put_x, i64_w, i32_w]
           rfl
          refine done_ (done_of HT_.out (by kernel_rfl)) ?_
          have hnb19 := NB142_140.out
          have hnc19 := NB140_142.out
          have hnb20 := NB142_141.out
          have hnc20 := NB141_142.out
          have hnb21 := NB142_147.out
          have hnc21 := NB147_142.out
          obtain ⟨_, _⟩ := cz2 BK142
          have hfz22_0 := blk_frozen BK142.out
          have hnb23 := NB147_140.out
          have hnc23 := NB140_147.out
          have hnb24 := NB147_141.out
          have hnc24 := NB141_147.out
          obtain ⟨_, _⟩ := cz2 BK147
          have hfz25_0 := blk_frozen BK147.out
          try go_wp2
          go_roundg k1
          case measure => have := HK1.out; omega
          case rel => exact ⟨(wrap64 (x12_1 + 1)), (wrap64 (x143000_1 + (ji13))), (wrap64 (x143001_1 + (ji14))), (by first | rfl | (simp; done) | (simp [*]; done)), H', ⟨by have := HK1.out; omega⟩, ⟨blk_w BK140.out⟩, ⟨blk_w BK141.out⟩, ⟨by (with_reducible repeat (first | refine blk_drewN ?_ _ | refine blk_drew ?_ | refine blk_alloc ?_ _)); refine blk_put (cs := #[.int .i64 (wrap64 (x143000_1 + (ji13))), .int .i64 x143001_1]) ?_ 1 _ rfl; (with_reducible repeat (first | refine blk_drewN ?_ _ | refine blk_drew ?_ | refine blk_alloc ?_ _)); refine blk_put (cs := #[.int .i64 x143000_1, .int .i64 x143001_1]) ?_ 0 _ rfl; exact blk_w BK142.out⟩, ⟨by exact below_y HB.out⟩⟩
         ·
          rw [if_neg c12] at H
          exact absurd H (by simp)
        ·
         rw [if_neg c11] at H
         exact absurd H (by simp)
       ·
        rw [if_neg c10] at H
        exact absurd H (by simp)
     ·
      rw [if_neg c8] at H
      exact absurd H (by simp)
    ·
     rw [if_neg c7] at H
     exact absurd H (by simp)
   ·
    rw [if_neg c6] at H
    have c6b0 : decide (x12_1 < (l1.length : Int)) = false := decide_eq_false c6
    clear c6
    simp only [Option.some.injEq, Prod.mk.injEq] at H
    obtain ⟨rfl, rfl⟩ := H
    have hnb26 := NB142_140.out
    have hnc26 := NB140_142.out
    have hnb27 := NB142_141.out
    have hnc27 := NB141_142.out
    obtain ⟨_, _⟩ := cz2 BK142
    have hfz28_0 := blk_frozen BK142.out
    have hnb29 := NB141_140.out
    have hnc29 := NB140_141.out
    obtain ⟨_, _⟩ := cz2 BK141
    have hfz30_0 := blk_frozen BK141.out
    go_wp2
    refine bodyPost_ret (results_cell_row rfl _ _ gb141 56 #[.int .i64 x143000_1, .int .i64 x143001_1] (0, 0) _ rfl (by (with_reducible repeat (first | refine blk_drewN ?_ _ | refine blk_drew ?_ | refine blk_alloc ?_ _)); refine blk_put (cs := #[.int .i64 x143000_1, .int .i64 0]) ?_ 1 _ rfl; (with_reducible repeat (first | refine blk_drewN ?_ _ | refine blk_drew ?_ | refine blk_alloc ?_ _)); refine blk_put (cs := #[.int .i64 0, .int .i64 0]) ?_ 0 _ rfl; (with_reducible repeat (first | refine blk_drewN ?_ _ | refine blk_drew ?_ | refine blk_alloc ?_ _)); exact BK141.out) Try.underlying56 rfl (by kernel_rfl)) rfl ?_
    exact ⟨by first | rfl | (simp [errW_none, errW_some] <;> rfl) | (simp [*, errW_none, errW_some] <;> rfl), by exact below_y HB.out⟩
end Go.Proofs.Ytodmemndaaiolaa.PC7
namespace Go.Proofs.Ytodmemndaaiolaa.PC7
set_option linter.unusedVariables false
set_option linter.unusedSimpArgs false
open Go.RowKit Go.Shelf Go.Proofs.YtodmemndaaiolaaW.PrintWords Go.Proofs.YtodmemndaaiolaaW.PrintLast Go.Proofs.YtodmemndaaiolaaW.PrintMore
section
variable (light under trim : Int) (holds : List S85) (leaves : Int) (sills : List S59) (lots : List S79)
noncomputable def chkE : Option Int := limO fun k => ship_Check.f k light under trim holds leaves sills lots
noncomputable def chkS (s : List Int) : Option Int := limO fun k => ship_checkStowage.f k light under trim holds leaves sills lots s
noncomputable def apartE (s : List Int) : Option (Int × Int) := limO fun k => ship_apart.f k light under trim holds leaves sills lots s
noncomputable def levelE (y z : Int) : Option Bool := limO fun k => ship_level.f k light under trim holds leaves sills lots y z
noncomputable def goodO (s : List Int) : Option Bool :=
  (chkS light under trim holds leaves sills lots s).bind fun e => if e = 0 then (apartE light under trim holds leaves sills lots s).bind fun x => (levelE light under trim holds leaves sills lots x.1 x.2).bind fun b =>
    if b = true then (ladenO light holds lots s).bind fun q => some (!decide ((sailO under leaves sills q false).length < sills.length)) else some false else some false
noncomputable def goodB (s : List Int) : Bool := (goodO light under trim holds leaves sills lots s).getD false
end
theorem goodO_some (light under trim : Int) (holds : List S85) (leaves : Int) (sills : List S59) (lots : List S79) (s : List Int) (h : (goodO light under trim holds leaves sills lots s).isSome = true) : goodO light under trim holds leaves sills lots s = some (goodB light under trim holds leaves sills lots s) := by
  unfold goodB
  cases hg : goodO light under trim holds leaves sills lots s with
  | none => rw [hg] at h; cases h
  | some b => rfl
def worthGo (lots : List S79) : Nat → List Int → Int → Int
  | _, [], a => a
  | i, h :: t, a => worthGo lots (i + 1) t (if 0 ≤ h then wrap64 (a + (lots.getD i z79).f1) else a)
def bestOf (good : List Int → Bool) (worth : List Int → Int) (L : List (List Int)) (b : List Int × Int) : List Int × Int := L.foldl (fun b t => if good t = true then (if b.2 < worth t then (t, worth t) else b) else b) b
theorem bestOf_snoc (good : List Int → Bool) (worth : List Int → Int) (L : List (List Int)) (b : List Int × Int) (t : List Int) : bestOf good worth (L ++ [t]) b = if good t = true then (if (bestOf good worth L b).2 < worth t then (t, worth t) else bestOf good worth L b) else bestOf good worth L b := by
  unfold bestOf
  rw [List.foldl_append]
  rfl
open Classical in
noncomputable def ship_Best.f (a0_0 : Int) (a0_1 : Int) (a0_2 : Int) (l0_3 : List (S85)) (a0_4 : Int) (l0_5 : List (S59)) (l0_6 : List (S79)) : Option (List Int × Int × Int) :=
  (chkE a0_0 a0_1 a0_2 l0_3 a0_4 l0_5 l0_6).bind fun e => if e = 0 then (if l0_3.length ≤ 100 ∧ l0_6.length ≤ 6 ∧ lensOK l0_5 ∧ (∀ t, t ∈ stowsL l0_3.length l0_6.length → (goodO a0_0 a0_1 a0_2 l0_3 a0_4 l0_5 l0_6 t).isSome = true) then
    some ((bestOf (goodB a0_0 a0_1 a0_2 l0_3 a0_4 l0_5 l0_6) (fun t => worthGo l0_6 0 t 0) (stowsL l0_3.length l0_6.length) ([], -1)).1, (bestOf (goodB a0_0 a0_1 a0_2 l0_3 a0_4 l0_5 l0_6) (fun t => worthGo l0_6 0 t 0) (stowsL l0_3.length l0_6.length) ([], -1)).2, 0) else none) else some ([], 0, e)
theorem R_kept {k : IntKind} {e : Nat} {W W1 : World} {base : Nat} {v : Value} {xs : List Int} (h : Kd.R (Kd.int k) e W base (fun _ => True) v xs)
    (hm : ∀ b, base ≤ b → (∃ (cells : Array Value) (t : TypeId), W.heap[b]? = some (.cells cells t (0, 0)) ∧ t = e) → W1.heap[b]? = W.heap[b]?) : Kd.R (Kd.int k) e W1 base (fun _ => True) v xs := by
  refine Kd.R_mono (Kd.R_step (Kd.R_bound h) (fun b hb hlt => ?_)) (fun _ _ => trivial)
  obtain ⟨_, h1, _, q, hq, cells, hc⟩ := hb
  exact hm b h1 ⟨cells, _, hc, by simpa [Kd.int, Kd.scalar] using hq⟩
def BestI (w0 : World) (g6 gb : Nat) (cs : Array Value) (good : List Int → Bool) (worth : List Int → Int) (b : Nat) (pre : List (Value × List Int)) (W : World) : Prop :=
  ∃ A n c, W.heap[g6]? = some (.cells #[.slice A n c, .int .i64 (bestOf good worth (pre.map (·.2)) ([], -1)).2] 104 (0, 0)) ∧ (∃ base, w0.heap.size ≤ base ∧ b < base ∧ Kd.R (Kd.int .i64) 3 W base (fun _ => True) (.slice A n c) (bestOf good worth (pre.map (·.2)) ([], -1)).1) ∧
    W.heap[gb]? = some (.cells cs 26 (0, 0)) ∧ Below w0.heap.size w0 W
theorem BestI.own {w0 : World} {g6 gb B : Nat} {cs : Array Value} {good : List Int → Bool} {worth : List Int → Int} (hB : w0.heap.size ≤ B) (b : Nat) : OwnFrom B (BestI w0 g6 gb cs good worth b) := by
  intro s W W' row hs hg hr
  obtain ⟨A, n, c, h1, ⟨base, hb1, hb2, h2⟩, h3, h4⟩ := hs
  have hno : ∀ {k : Nat} {cells : Array Value} {t : TypeId}, W.heap[k]? = some (.cells cells t (0, 0)) → W'.heap[k]? = W.heap[k]? := fun {k cells t} hk => hg.block k (blk_lt hk) (fun e => by
    obtain ⟨_, o, ho, hc⟩ := hr k e.symm
    rw [hk] at ho; cases ho; cases hc)
  refine ⟨A, n, c, (hno h1).trans h1, ⟨base, hb1, hb2, R_kept h2 fun k _ ⟨cells, t, hk, _⟩ => hno hk⟩, (hno h3).trans h3, ?_⟩
  exact (ownFrom_below (β := List (Value × List Int)) (Nat.le_refl _) hB) s W W' row h4 hg hr
theorem BestI.set {w0 : World} {g6 gb B : Nat} {cs : Array Value} {good : List Int → Bool} {worth : List Int → Int} (hB : w0.heap.size ≤ B) (h6 : g6 < B) (hb : gb < B) (b : Nat) (pre : List (Value × List Int)) (W : World) (i : Nat) (v : Value) (hbB : B ≤ b)
    (hs : BestI w0 g6 gb cs good worth b pre W) : BestI w0 g6 gb cs good worth b pre (W.setCell ⟨b, i, none⟩ v) := by
  obtain ⟨A, n, c, h1, ⟨base, hb1, hb2, h2⟩, h3, h4⟩ := hs
  refine ⟨A, n, c, (Below.heap_setCell _ _ _ _ (by show g6 ≠ b; omega)).trans h1, ⟨base, hb1, hb2, R_kept h2 fun k hk _ => Below.heap_setCell _ _ _ _ (by show k ≠ b; omega)⟩, (Below.heap_setCell _ _ _ _ (by show gb ≠ b; omega)).trans h3, below_set h4 (by show w0.heap.size ≤ b; omega)⟩
theorem keeps_of_below {W W' : World} (h : Below W.heap.size W W') : KeepsOthers W W' := ⟨h.size, fun k o hk _ => (h.block k (Array.getElem?_eq_some_iff.1 hk).1).trans hk⟩
theorem kpB_of_below {g : Nat} {W W' : World} (h : Below W.heap.size W W') : KpB g W W' := fun k o _ hk _ => (h.block k (Array.getElem?_eq_some_iff.1 hk).1).trans hk
theorem kpB_set {g i : Nat} {v : Value} (W : World) : KpB g W (W.setCell ⟨g, i, none⟩ v) := fun k o hk h _ => (Below.heap_setCell _ _ _ _ hk).trans h
theorem kpB_trans {g : Nat} {A B C : World} (h : KpB g A B) (k : KpB g B C) : KpB g A C := fun b o hb hA hc => k b o hb (h b o hb hA hc) hc
theorem kpB_obj {g : Nat} (W : World) (l : Nat) (o o' : Obj) (hl : W.heap[l]? = some o) (hc : o.isCells = false) : KpB g W (W.putObj l o') := fun b o2 _ h h2 => by
  have : b ≠ l := fun e => by subst e; rw [hl] at h; cases h; rw [hc] at h2; cases h2
  exact (World.putObj_heap_other this).trans h
theorem rxS_obj (n₀ : Nat) (L : List (List Int)) (b : Nat) (x : Value × List Int) (W : World) (l : Nat) (o o' : Obj) (hl : W.heap[l]? = some o) (hc : o.isCells = false) (h : RxS n₀ L b x W) : RxS n₀ L b x (W.putObj l o') := by
  obtain ⟨hm, base, h1, h2, hr⟩ := h
  refine ⟨hm, base, h1, h2, R_kept hr fun k _ ⟨cells, t, hk, _⟩ => World.putObj_heap_other (fun e => ?_)⟩
  subst e; rw [hl] at hk; cases hk; cases hc
theorem BestI.first {w0 W : World} {g6 gb : Nat} {cs : Array Value} {good : List Int → Bool} {worth : List Int → Int} (b : Nat) (hb : w0.heap.size ≤ b) (h6 : W.heap[g6]? = some (.cells #[.slice none 0 0, .int .i64 (-1)] 104 (0, 0))) (hk : W.heap[gb]? = some (.cells cs 26 (0, 0))) (hB : Below w0.heap.size w0 W) :
    BestI w0 g6 gb cs good worth b [] W := ⟨none, 0, 0, h6, ⟨b + 1, by omega, by omega, R_of_owns .i64 (World.ownsRow_nil _ _ _ _)⟩, hk, hB⟩
theorem BestI.below {w0 W W' : World} {g6 gb b : Nat} {cs : Array Value} {good : List Int → Bool} {worth : List Int → Int} {pre : List (Value × List Int)} {v : Value} {t : List Int} (h : BestI w0 g6 gb cs good worth b pre W) (hB : Below W.heap.size W W')
    (hp : good t = false) : BestI w0 g6 gb cs good worth b (pre ++ [(v, t)]) W' := by
  obtain ⟨A, n, c, h1, ⟨base, hb1, hb2, h2⟩, h3, h4⟩ := h
  have hno : ∀ {k : Nat} {cells : Array Value} {t : TypeId}, W.heap[k]? = some (.cells cells t (0, 0)) → W'.heap[k]? = W.heap[k]? := fun {k cells t} hk => hB.block k (blk_lt hk)
  have e : bestOf good worth ((pre ++ [(v, t)]).map (·.2)) ([], -1) = bestOf good worth (pre.map (·.2)) ([], -1) := by
    rw [List.map_append]; show bestOf good worth (pre.map (·.2) ++ [t]) _ = _; rw [bestOf_snoc, if_neg (by rw [hp]; simp)]
  refine ⟨A, n, c, by rw [e]; exact (hno h1).trans h1, ⟨base, hb1, hb2, by rw [e]; exact R_kept h2 fun k _ ⟨cells, t, hk, _⟩ => hno hk⟩, (hno h3).trans h3, h4.trans (hB.mono h4.size)⟩
theorem BestI.weighed {w0 W W' : World} {g6 gb b : Nat} {cs : Array Value} {good : List Int → Bool} {worth : List Int → Int} {pre : List (Value × List Int)} {t : List Int} {A : Option Addr} {n c : Nat} {At : Option Addr} {nt ct : Nat}
    (h1 : W.heap[g6]? = some (.cells #[.slice A n c, .int .i64 (bestOf good worth (pre.map (·.2)) ([], -1)).2] 104 (0, 0)))
    (h2 : ∃ base, w0.heap.size ≤ base ∧ b < base ∧ Kd.R (Kd.int .i64) 3 W base (fun _ => True) (.slice A n c) (bestOf good worth (pre.map (·.2)) ([], -1)).1)
    (ht : ∃ base, w0.heap.size ≤ base ∧ b < base ∧ Kd.R (Kd.int .i64) 3 W base (fun _ => True) (.slice At nt ct) t)
    (h3 : W.heap[gb]? = some (.cells cs 26 (0, 0))) (h4 : Below w0.heap.size w0 W) (hg6 : w0.heap.size ≤ g6) (hne : gb ≠ g6) (hB : Below W.heap.size W W') (hp : good t = true) (v : Value) (u : Value)
    (hu : u = if (bestOf good worth (pre.map (·.2)) ([], -1)).2 < worth t then .agg #[.slice At nt ct, .int .i64 (worth t)] else .agg #[.slice A n c, .int .i64 (bestOf good worth (pre.map (·.2)) ([], -1)).2]) :
    ∃ A' n' c' y, u = .agg #[.slice A' n' c', .int .i64 y] ∧
      BestI w0 g6 gb cs good worth b (pre ++ [(v, t)]) ((W'.setCell ⟨g6, 0, none⟩ (.slice A' n' c')).setCell ⟨g6, 1, none⟩ (.int .i64 y)) ∧
      KeepsOthers W ((W'.setCell ⟨g6, 0, none⟩ (.slice A' n' c')).setCell ⟨g6, 1, none⟩ (.int .i64 y)) ∧ KpB g6 W ((W'.setCell ⟨g6, 0, none⟩ (.slice A' n' c')).setCell ⟨g6, 1, none⟩ (.int .i64 y)) := by
  have hno : ∀ {k : Nat} {cells : Array Value} {t : TypeId}, W.heap[k]? = some (.cells cells t (0, 0)) → W'.heap[k]? = W.heap[k]? := fun {k cells t} hk => hB.block k (blk_lt hk)
  have e : bestOf good worth ((pre ++ [(v, t)]).map (·.2)) ([], -1) = if (bestOf good worth (pre.map (·.2)) ([], -1)).2 < worth t then (t, worth t) else bestOf good worth (pre.map (·.2)) ([], -1) := by
    rw [List.map_append]; show bestOf good worth (pre.map (·.2) ++ [t]) _ = _; rw [bestOf_snoc, if_pos hp]
  have key : ∀ (A' : Option Addr) (n' c' : Nat) (l : List Int) (y : Int), (∃ base, w0.heap.size ≤ base ∧ b < base ∧ Kd.R (Kd.int .i64) 3 W base (fun _ => True) (.slice A' n' c') l) → bestOf good worth ((pre ++ [(v, t)]).map (·.2)) ([], -1) = (l, y) →
      BestI w0 g6 gb cs good worth b (pre ++ [(v, t)]) ((W'.setCell ⟨g6, 0, none⟩ (.slice A' n' c')).setCell ⟨g6, 1, none⟩ (.int .i64 y)) ∧
      KeepsOthers W ((W'.setCell ⟨g6, 0, none⟩ (.slice A' n' c')).setCell ⟨g6, 1, none⟩ (.int .i64 y)) ∧ KpB g6 W ((W'.setCell ⟨g6, 0, none⟩ (.slice A' n' c')).setCell ⟨g6, 1, none⟩ (.int .i64 y)) := by
    rintro A' n' c' l y ⟨base, hb1, hb2, hr⟩ he
    refine ⟨⟨A', n', c', ?_, ⟨base, hb1, hb2, ?_⟩, ?_, ?_⟩, ((keeps_of_below hB).trans (KeepsOthers.setCell _ _ _)).trans (KeepsOthers.setCell _ _ _), kpB_trans (kpB_trans (kpB_of_below hB) (kpB_set _)) (kpB_set _)⟩
    · rw [he]; exact blk_put (cs' := #[.slice A' n' c', .int .i64 y]) (blk_set ((hno h1).trans h1) 0 (.slice A' n' c')) 1 (.int .i64 y) rfl
    · rw [he]
      refine R_kept hr fun k _ ⟨cells, t', hk, ht3⟩ => ?_
      by_cases hk6 : k = g6
      · subst hk6
        rw [h1] at hk
        injection hk with hk
        injection hk with _ hk
        exact absurd (hk.trans ht3) (by decide)
      · exact ((Below.heap_setCell _ _ _ _ hk6).trans (Below.heap_setCell _ _ _ _ hk6)).trans (hno hk)
    · exact blk_far (blk_far ((hno h3).trans h3) (p := ⟨g6, 0, none⟩) hne _) (p := ⟨g6, 1, none⟩) hne _
    · exact below_set (below_set (h4.trans (hB.mono h4.size)) hg6) hg6
  by_cases hlt : (bestOf good worth (pre.map (·.2)) ([], -1)).2 < worth t
  · rw [if_pos hlt] at hu e
    exact ⟨At, nt, ct, worth t, hu, key _ _ _ t _ ht e⟩
  · rw [if_neg hlt] at hu e
    exact ⟨A, n, c, _, hu, key _ _ _ _ _ h2 (e.trans rfl)⟩
end Go.Proofs.Ytodmemndaaiolaa.PC7
namespace Go.Proofs.Ytodmemndaaiolaa.PC7
set_option linter.unusedVariables false
set_option linter.unusedSimpArgs false
open Go.RowKit Go.Proofs.YtodmemndaaiolaaW.PrintWords Go.Proofs.YtodmemndaaiolaaW.PrintLast Go.Proofs.YtodmemndaaiolaaW.PrintMore
set_option maxHeartbeats 8000000 in
set_option maxRecDepth 100000 in
theorem stowages_calls (x : VoyV) (w : World) :
    Calls Try.prog 62 #[.agg #[.int .i64 x.light, .int .i64 x.under, .int .i64 x.trim, .slice x.A3 x.holds.length x.c3, .int .i64 x.leaves, .slice x.A5 x.sills.length x.c5, .slice x.A6 x.lots.length x.c6]] w fun e w' => ∃ gv, e = .returned (.func (.func 82) #[] #[.pointer (some ⟨gv, 0, none⟩)]) ∧ w.heap.size ≤ gv ∧ w'.heap[gv]? = some (.cells #[.int .i64 x.light, .int .i64 x.under, .int .i64 x.trim, .slice x.A3 x.holds.length x.c3, .int .i64 x.leaves, .slice x.A5 x.sills.length x.c5, .slice x.A6 x.lots.length x.c6] 26 (0, 0)) ∧ Below w.heap.size w w' := by
  have hu26 := Try.underlying26
  have hmf : ∀ (fn : Fn) (first cap : Array Value) (w : World), (Instr.makeFunc fn first cap).run Try.prog w = .ok (.func fn first cap) w := fun _ _ _ _ => rfl
  go_enter Try.func62, Try.ntmps62
  go_wp2_with (((with_reducible refine gate_dst (N := 1) rfl ?_); refine box_event ?hg (N := 1) ?hd (cs := #[.int .i64 x.light, .int .i64 x.under, .int .i64 x.trim, .slice x.A3 x.holds.length x.c3, .int .i64 x.leaves, .slice x.A5 x.sills.length x.c5, .slice x.A6 x.lots.length x.c6]) (t := 26) ?hr ?_; (case hd => rfl); (case hg => rfl); (case hr => first | (go_simp; done) | (go_simp; rfl)); intro gb hg w2 hbox hb; have BK := Aside0.mk hbox; have HB := Aside0.mk hb; have GE : Aside0 (w.heap.size ≤ gb) := ⟨Nat.le_of_eq hg.symm⟩; clear hg hbox hb))
  go_ret
  exact ⟨gb, rfl, GE.out, BK.out, HB.out⟩
set_option maxHeartbeats 8000000 in
set_option maxRecDepth 100000 in
theorem more_calls (Ab : Option Addr) (nb cb : Nat) (b : Int) (Aa : Option Addr) (na ca : Nat) (a : Int) (w : World) :
    Calls Try.prog 67 #[.agg #[.slice Ab nb cb, .int .i64 b], .agg #[.slice Aa na ca, .int .i64 a]] w fun e w' => e = .returned (.bool (decide (a < b))) ∧ Below w.heap.size w w' := by
  have hu104 := Try.underlying104
  go_enter Try.func67, Try.ntmps67
  go_wp2_with (first
    | ((with_reducible refine gate_dst (N := 2) rfl ?_); refine box_event ?hg (N := 2) ?hd (cs := #[.slice Ab nb cb, .int .i64 b]) (t := 104) ?hr ?_; (case hd => rfl); (case hg => rfl); (case hr => first | (go_simp; done) | (go_simp; rfl)); intro g2 hg w2 hbox hb; have B2 := Aside0.mk hbox; have HB := Aside0.mk hb; clear hg hbox hb)
    | ((with_reducible refine gate_dst (N := 3) rfl ?_); refine box_event ?hg (N := 3) ?hd (cs := #[.slice Aa na ca, .int .i64 a]) (t := 104) ?hr ?_; (case hd => rfl); (case hg => rfl); (case hr => first | (go_simp; done) | (go_simp; rfl)); intro g3 hg w3 hbox hb; have B3 := Aside0.mk hbox; replace B2 := Aside0.mk (blk_below B2.out hb); replace HB := Aside0.mk (below_step HB.out hb); have hz2_ := (blk_cell B2.out 1).trans rfl; have hz3_ := (blk_cell B3.out 1).trans rfl; clear hg hbox hb))
  go_ret
  exact ⟨rfl, HB.out⟩
set_option maxHeartbeats 8000000 in
set_option maxRecDepth 100000 in
theorem better_calls (Aa : Option Addr) (na ca : Nat) (a : Int) (Ab : Option Addr) (nb cb : Nat) (b : Int) (w : World) :
    Calls Try.prog 66 #[.agg #[.slice Aa na ca, .int .i64 a], .agg #[.slice Ab nb cb, .int .i64 b], .func (.func 67) #[] #[]] w fun e w' => e = .returned (if a < b then .agg #[.slice Ab nb cb, .int .i64 b] else .agg #[.slice Aa na ca, .int .i64 a]) ∧ Below w.heap.size w w' := by
  have hu104 := Try.underlying104
  go_enter Try.func66, Try.ntmps66
  go_wp2_with (first
    | ((with_reducible refine gate_dst (N := 3) rfl ?_); refine box_event ?hg (N := 3) ?hd (cs := #[.slice Aa na ca, .int .i64 a]) (t := 104) ?hr ?_; (case hd => rfl); (case hg => rfl); (case hr => first | (go_simp; done) | (go_simp; rfl)); intro g3 hg w2 hbox hb; have B3 := Aside0.mk hbox; have HB := Aside0.mk hb; clear hg hbox hb)
    | ((with_reducible refine gate_dst (N := 4) rfl ?_); refine box_event ?hg (N := 4) ?hd (cs := #[.slice Ab nb cb, .int .i64 b]) (t := 104) ?hr ?_; (case hd => rfl); (case hg => rfl); (case hr => first | (go_simp; done) | (go_simp; rfl)); intro g4 hg w3 hbox hb; have B4 := Aside0.mk hbox; replace B3 := Aside0.mk (blk_below B3.out hb); replace HB := Aside0.mk (below_step HB.out hb); clear hg hbox hb)
    | ((with_reducible refine gate_dst (N := 6) rfl ?_); refine box_event ?hg (N := 6) ?hd (cs := #[.slice none 0 0, .int .i64 0]) (t := 104) ?hr ?_; (case hd => rfl); (case hg => rfl); (case hr => first | (go_simp; done) | (go_simp; rfl)); intro g6 hg w4 hbox hb; have B6 := Aside0.mk hbox; have GE6 : Aside0 (w.heap.size ≤ g6) := ⟨by rw [hg]; exact HB.out.size⟩; have N3 : Aside0 (g6 ≠ g3) := ⟨by have := blk_lt B3.out; omega⟩; have N4 : Aside0 (g6 ≠ g4) := ⟨by have := blk_lt B4.out; omega⟩; replace B3 := Aside0.mk (blk_below B3.out hb); replace B4 := Aside0.mk (blk_below B4.out hb); replace HB := Aside0.mk (below_step HB.out hb); have hz3_ := (blk_cell B3.out 0).trans rfl; have hz31_ := (blk_cell B3.out 1).trans rfl; have hz4_ := (blk_cell B4.out 0).trans rfl; have hz41_ := (blk_cell B4.out 1).trans rfl; clear hg hbox hb))
  refine (more_calls Ab nb cb b Aa na ca a w4).mono ?_
  rintro e w5 ⟨rfl, hb5⟩
  replace B3 := Aside0.mk (blk_below B3.out hb5)
  replace B4 := Aside0.mk (blk_below B4.out hb5)
  replace B6 := Aside0.mk (blk_below B6.out hb5)
  replace HB := Aside0.mk (below_step HB.out hb5)
  clear hb5 hz3_ hz31_ hz4_ hz41_
  have hz3_ : w5.cell? ⟨g3, 0, none⟩ = some (.slice Aa na ca) := (blk_cell B3.out 0).trans rfl
  have hz31_ : w5.cell? ⟨g3, 1, none⟩ = some (.int .i64 a) := (blk_cell B3.out 1).trans rfl
  have hz4_ : w5.cell? ⟨g4, 0, none⟩ = some (.slice Ab nb cb) := (blk_cell B4.out 0).trans rfl
  have hz41_ : w5.cell? ⟨g4, 1, none⟩ = some (.int .i64 b) := (blk_cell B4.out 1).trans rfl
  have hz6_ : w5.cell? ⟨g6, 0, none⟩ = some (.slice none 0 0) := (blk_cell B6.out 0).trans rfl
  have hz61_ : w5.cell? ⟨g6, 1, none⟩ = some (.int .i64 0) := (blk_cell B6.out 1).trans rfl
  have hf6_ := blk_frozen B6.out
  have P : ∀ (A : Option Addr) (n c : Nat) (y : Int), Aside0 ((((w5.setCell ⟨g6, 0, none⟩ (.slice A n c)).setCell ⟨g6, 1, none⟩ (.int .i64 y)).heap[g6]? = some (.cells #[.slice A n c, .int .i64 y] 104 (0, 0))) ∧ Below w.heap.size w ((w5.setCell ⟨g6, 0, none⟩ (.slice A n c)).setCell ⟨g6, 1, none⟩ (.int .i64 y))) := fun A n c y =>
    ⟨blk_put (cs' := #[.slice A n c, .int .i64 y]) (blk_set B6.out 0 (.slice A n c)) 1 (.int .i64 y) rfl, below_set (below_set HB.out GE6.out) GE6.out⟩
  by_cases hab : a < b
  · have P1 := P Ab nb cb b
    clear P
    have hz : decide (a < b) = true := decide_eq_true hab
    go_wp2
    have hq0 := (blk_cell P1.out.1 0).trans rfl
    have hq1 := (blk_cell P1.out.1 1).trans rfl
    refine bodyPost_ret (v := .agg #[.slice Ab nb cb, .int .i64 b]) ?_ rfl ?_
    · simp [results, Try.results66, go_sem, hq0, hq1]
    · exact ⟨by first | rfl | rw [if_pos hab], P1.out.2⟩
  · have P1 := P Aa na ca a
    clear P
    have hz : decide (a < b) = false := decide_eq_false hab
    go_wp2
    have hq0 := (blk_cell P1.out.1 0).trans rfl
    have hq1 := (blk_cell P1.out.1 1).trans rfl
    refine bodyPost_ret (v := .agg #[.slice Aa na ca, .int .i64 a]) ?_ rfl ?_
    · simp [results, Try.results66, go_sem, hq0, hq1]
    · exact ⟨by first | rfl | rw [if_neg (by omega)], P1.out.2⟩
end Go.Proofs.Ytodmemndaaiolaa.PC7
