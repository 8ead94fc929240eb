/- what is known better -/
import Derived.Test.YtodmemndaaiolaaCShipBetter2
import Derived.Test.YtodmemndaaiolaaCShipBetter3
import Derived.Outline
import Derived.RegionTactic
import Derived.BigRegion
import Derived.ChangeAlike
import Derived.Deep.DeepCutAuto
import Derived.Deep.CutRange
import Derived.Test.YtodmemndaaiolaaCShipBetter4
import Derived.Test.YtodmemndaaiolaaCShipBetter1
import Derived.SizedLaws
import Derived.ChangeSlices
import Derived.Test.YtodmemndaaiolaaRows
import Derived.WalkKit
import Derived.ProofKit
import Derived.OpenShut
import Derived.ShutString
import Derived.ChangeOld
import Derived.Below
namespace Go.Proofs.Ytodmemndaaiolaa.PC7
set_option linter.unusedVariables false
set_option linter.unusedSimpArgs false
open Go.RowKit Go.Proofs.YtodmemndaaiolaaW.PrintWords Go.Proofs.YtodmemndaaiolaaW.PrintLast Go.Proofs.YtodmemndaaiolaaW.PrintMore
def copyOK (holds : List S85) (sills : List S59) (lots : List S79) : Prop := holds.length ≤ 100000 ∧ lots.length ≤ 100000 ∧ lensOK sills
instance (holds : List S85) (sills : List S59) (lots : List S79) : Decidable (copyOK holds sills lots) := by unfold copyOK; infer_instance
def swarfkit_CopyVoyage.f (a0_0 : Int) (a0_1 : Int) (a0_2 : Int) (l0_3 : List (S85)) (a0_4 : Int) (l0_5 : List (S59)) (l0_6 : List (S79)) : Option (Int × Int × Int × (List (S85)) × Int × (List (S59)) × (List (S79))) :=
 if copyOK l0_3 l0_5 l0_6 then some (a0_0, a0_1, a0_2, l0_3, a0_4, l0_5, l0_6) else none
set_option maxHeartbeats 8000000 in
set_option maxRecDepth 100000 in
theorem copy_calls (x : VoyV) (w : World) (hx : x.Ok w) (hn : copyOK x.holds x.sills x.lots) :
  Calls Try.prog 20 #[.agg #[.int .i64 x.light, .int .i64 x.under, .int .i64 x.trim, .slice x.A3 x.holds.length x.c3, .int .i64 x.leaves, .slice x.A5 x.sills.length x.c5, .slice x.A6 x.lots.length x.c6]] w fun e w' => ∃ v3_ v5_ v6_ : Value, e = .returned (.agg #[.int .i64 x.light, .int .i64 x.under, .int .i64 x.trim, v3_, .int .i64 x.leaves, v5_, v6_]) ∧ Kd.R k85 85 w' w.heap.size (fun _ => True) v3_ x.holds ∧ Kd.S k59 59 w' w.heap.size (fun _ => True) v5_ x.sills ∧ Kd.R k79 79 w' w.heap.size (fun _ => True) v6_ x.lots ∧ Below w.heap.size w w' := by
 have hu26 := Try.underlying26
 have hu23 := Try.underlying23
 have hu59 := Try.underlying59
 obtain ⟨hn1, hn2, hn3⟩ := hn
 have HX := Aside0.mk hx
 have HL := Aside0.mk (SailLens.of hn3)
 have hsl : x.sills.length ≤ 100000 := HL.out.s
 have hcc5 := hx.sc
 obtain ⟨A5, hA5⟩ : ∃ A5, A5 = x.A5 := ⟨_, rfl⟩
 have hs5 := hx.s
 rw [← hA5] at hs5 ⊢
 have HS5 := Aside0.mk hs5
 clear hx hA5 hs5 hn3
 go_enter Try.func20, Try.ntmps20
 go_upto_region 2 with (first
  | ((with_reducible refine gate_dst (N := 1) rfl ?_); refine box_event ?hg (N := 1) ?hd (cs := #[.int .i64 x.light, .int .i64 x.under, .int .i64 x.trim, .slice x.A3 x.holds.length x.c3, .int .i64 x.leaves, .slice A5 x.sills.length x.c5, .slice x.A6 x.lots.length x.c6]) (t := 26) ?hr ?_; (case hd => rfl); (case hg => rfl); (case hr => first | (go_simp; done) | (go_simp; rfl)); intro gb hg w2 hbox hb; have BK := Aside0.mk hbox; have GEb : Aside0 (w.heap.size ≤ gb) := ⟨by rw [hg]; exact Nat.le_refl _⟩; have HB := Aside0.mk hb; have hz3_ := (blk_cell BK.out 3).trans rfl; have hz5_ := (blk_cell BK.out 5).trans rfl; have hz6_ := (blk_cell BK.out 6).trans rfl; clear hg hbox hb)
  | ((with_reducible refine gate_dst (N := 2) rfl ?_); refine box_event ?hg (N := 2) ?hd (cs := #[.int .i64 0, .int .i64 0, .int .i64 0, .slice none 0 0, .int .i64 0, .slice none 0 0, .slice none 0 0]) (t := 26) ?hr ?_; (case hd => rfl); (case hg => rfl); (case hr => first | (go_simp; done) | (go_simp; rfl)); intro ge hg w3 hbox hb; have BE := Aside0.mk hbox; have NBE : Aside0 (gb ≠ ge) := ⟨by have := blk_lt BK.out; omega⟩; replace BK := Aside0.mk (blk_below BK.out hb); have GEe : Aside0 (w.heap.size ≤ ge) := ⟨by rw [hg]; exact HB.out.size⟩; replace HB := Aside0.mk (below_step HB.out hb); clear hz3_ hz5_ hz6_; have hz3_ := (blk_cell BK.out 3).trans rfl; have hz5_ := (blk_cell BK.out 5).trans rfl; have hz6_ := (blk_cell BK.out 6).trans rfl; clear hg hbox hb))
 have hd_ := below_drew1 (Below.refl w3.heap.size w3)
 replace BK := Aside0.mk (blk_drew BK.out)
 replace BE := Aside0.mk (blk_drew BE.out)
 replace HB := Aside0.mk (below_step HB.out hd_)
 clear hd_
 refine start_ (n := 14) (S := fun w' => w'.cell? ⟨gb, 3, none⟩ = some (.slice x.A3 x.holds.length x.c3) ∧ w'.cell? ⟨gb, 6, none⟩ = some (.slice x.A6 x.lots.length x.c6)) (ds := [9, 11, 13]) #[false, false, false, false, false, false, false, false, false, false, false, false, false, false] (by kernel_rfl) rfl rfl ⟨hz3_, hz6_⟩ (fun hHeld => ?_)
 generalize w3.drew = wd at BK BE HB hHeld ⊢
 refine pure_y 1 (some 8) (bz 14 2) ?_
 refine pure_y 5 (some 12) (bz 14 34) ?_
 refine take_ (i := 2) (N := some 9) (v := ?_) (a' := ?_) (bz 14 38) rfl rfl (by kernel_rfl) (fun _ _ _ h => h) (Or.inl ⟨by rfl, ?_⟩) hHeld ?_ ?_
 rotate_left; (rintro w' ⟨s0, s1⟩; go_simp; with_reducible rfl); rotate_left; (simp only [Act.put, put_x, i64_w, i32_w]; rfl)
 refine take_ (i := 6) (N := some 13) (v := ?_) (a' := ?_) (bz 14 102) rfl rfl (by kernel_rfl) (fun _ _ _ h => h) (Or.inl ⟨by rfl, ?_⟩) hHeld ?_ ?_
 rotate_left; (rintro w' ⟨s0, s1⟩; go_simp; with_reducible rfl); rotate_left; (simp only [Act.put, put_x, i64_w, i32_w]; rfl)
 refine join_ (σ := Value × Value × Value) 6 (bz 14 383) (fun s_ => [(7, s_.1), (10, s_.2.1), (11, s_.2.2), (15, .pointer (some ⟨gb, 3, none⟩))]) (fun s_ w' => (w'.cell? ⟨gb, 3, none⟩ = some (.slice x.A3 x.holds.length x.c3) ∧ w'.cell? ⟨gb, 6, none⟩ = some (.slice x.A6 x.lots.length x.c6)) ∧ Aside0 (Kd.R k85 85 w' wd.heap.size (fun _ => True) s_.2.1 x.holds) ∧ Aside0 (Kd.R k79 79 w' wd.heap.size (fun _ => True) s_.2.2 []) ∧ Aside0 (Below wd.heap.size wd w')) ?_ ?_
 rotate_left
 ·
  intro hCont
  refine two_ (i := 0) (j := 4) (Ni := some 7) (Nj := some 11) (bz 14 103) #[false, true, true, false, true, true, true, false, false, false, false, false, false, false] rfl rfl rfl rfl (by kernel_rfl) (by decide) (by decide) (fun K hK => ?_) (fun K hK => ?_)
  ·
   skip
   have HBd := Aside0.mk (Below.refl wd.heap.size wd)
   refine Kd.R_lit_step k85 _ 85 ?hg (N := 7) ?hd (xs := ([] : List S85)) (inner := []) (ok := fun _ => True) (okp := fun _ => True) ?hr ?hp (fun _ hk => hk) trivial (Below.refl _ _) (Nat.le_refl _) (by simp) ?_; (case hd => rfl); (case hg => rfl); (case hr => first | (go_simp; done) | (go_simp; rfl)); (case hp => exact (Reps.none _ _))
   intro v7 wq0 ho_ hb_ hg_ hnew_
   clear hg_ hnew_
   have R7 := Aside0.mk (Kd.R_lower ho_ HBd.out.size)
   replace HBd := Aside0.mk (below_step HBd.out hb_)
   clear ho_ hb_
   refine hK.out _ _ ⟨(HBd.out.cell (blk_lt BK.out)).trans ((blk_cell BK.out 3).trans rfl), (HBd.out.cell (blk_lt BK.out)).trans ((blk_cell BK.out 6).trans rfl)⟩ (fun hHeld => ?_)
   clear hK K
   refine norm_ (a' := ?_) ?_ ?_; rotate_left; (show Act.put _ (some 7) _ = _; simp only [Act.put, put_x, i64_w, i32_w]; rfl)
   refine two_ (i := 3) (j := 4) (Ni := some 10) (Nj := some 11) (bz 14 111) #[true, true, true, false, true, true, true, false, false, false, false, false, false, false] rfl rfl rfl rfl (by kernel_rfl) (by decide) (by decide) (fun K hK => ?_) (fun K hK => ?_)
   ·
    skip
    refine Kd.R_append_rows_step k85 (w0 := wd) wd.heap.size (by rfl) (.tmp 7) (.tmp 9) 22 85 (.agg #[(.int .i64 0), (.int .i64 0), (.int .i64 0)]) 24 rfl Try.underlying22 info85 rfl (by decide) (by omega) v7 [] x.holds x.A3 _ x.c3 (fun _ => True) (fun _ => False) rfl rfl ?aO ?aR (fun _ _ h => h) (fun _ h => h.elim) ?aF ?aB ?aS ?aL ?_
    (case aR => exact (Kd.C_below (Kd.C_below HX.out.h HB.out) HBd.out))
    (case aB => exact HBd.out)
    (case aF => exact (fun _ _ => trivial))
    (case aO => exact R7.out)
    (case aS => exact HBd.out.size)
    (case aL => simp only [List.length_nil]; omega)
    intro v10 wq1 ho_ hb_ hg_ hat_
    rw [List.nil_append] at ho_
    have R10 := Aside0.mk ho_
    replace HBd := Aside0.mk hb_
    clear ho_ hb_ hg_ hat_ R7
    refine hK.out _ _ ⟨(HBd.out.cell (blk_lt BK.out)).trans ((blk_cell BK.out 3).trans rfl), (HBd.out.cell (blk_lt BK.out)).trans ((blk_cell BK.out 6).trans rfl)⟩ (fun hHeld => ?_)
    clear hK K
    refine norm_ (a' := ?_) ?_ ?_; rotate_left; (show Act.put _ (some 10) _ = _; simp only [Act.put, put_x, i64_w, i32_w]; rfl)
    refine pure_y 8 (some 15) (bz 14 367) ?_
    refine one_ (i := 4) (N := some 11) (bz 14 383) rfl rfl (by kernel_rfl) (by decide) (fun K hK => ?_)
    refine Kd.R_lit_step k79 _ 79 ?hg (N := 11) ?hd (xs := ([] : List S79)) (inner := []) (ok := fun _ => True) (okp := fun _ => True) ?hr ?hp (fun _ hk => hk) trivial (Below.refl _ _) (Nat.le_refl _) (by simp) ?_; (case hd => rfl); (case hg => rfl); (case hr => first | (go_simp; done) | (go_simp; rfl)); (case hp => exact (Reps.none _ _))
    intro v11 wq2 ho_ hb_ hg_ hnew_
    clear hg_ hnew_
    have R11 := Aside0.mk (Kd.R_lower ho_ HBd.out.size)
    replace R10 := Aside0.mk (Kd.R_below R10.out hb_)
    replace HBd := Aside0.mk (below_step HBd.out hb_)
    clear ho_ hb_
    refine hK.out _ _ ⟨(HBd.out.cell (blk_lt BK.out)).trans ((blk_cell BK.out 3).trans rfl), (HBd.out.cell (blk_lt BK.out)).trans ((blk_cell BK.out 6).trans rfl)⟩ (fun hHeld => ?_)
    clear hK K
    refine norm_ (a' := ?_) ?_ ?_; rotate_left; (show Act.put _ (some 11) _ = _; simp only [Act.put, put_x, i64_w, i32_w]; rfl)
    exact norm_ (by simp only [putAll, Act.put, put_x]) (hCont (v7, v10, v11) _ ⟨hHeld, R10, R11, HBd⟩)
   ·
    skip
    refine Kd.R_lit_step k79 _ 79 ?hg (N := 11) ?hd (xs := ([] : List S79)) (inner := []) (ok := fun _ => True) (okp := fun _ => True) ?hr ?hp (fun _ hk => hk) trivial (Below.refl _ _) (Nat.le_refl _) (by simp) ?_; (case hd => rfl); (case hg => rfl); (case hr => first | (go_simp; done) | (go_simp; rfl)); (case hp => exact (Reps.none _ _))
    intro v11 wq1 ho_ hb_ hg_ hnew_
    clear hg_ hnew_
    have R11 := Aside0.mk (Kd.R_lower ho_ HBd.out.size)
    replace R7 := Aside0.mk (Kd.R_below R7.out hb_)
    replace HBd := Aside0.mk (below_step HBd.out hb_)
    clear ho_ hb_
    refine hK.out _ _ ⟨(HBd.out.cell (blk_lt BK.out)).trans ((blk_cell BK.out 3).trans rfl), (HBd.out.cell (blk_lt BK.out)).trans ((blk_cell BK.out 6).trans rfl)⟩ (fun hHeld => ?_)
    clear hK K
    refine norm_ (a' := ?_) ?_ ?_; rotate_left; (show Act.put _ (some 11) _ = _; simp only [Act.put, put_x, i64_w, i32_w]; rfl)
    refine one_ (i := 3) (N := some 10) (bz 14 127) rfl rfl (by kernel_rfl) (by decide) (fun K hK => ?_)
    refine Kd.R_append_rows_step k85 (w0 := wd) wd.heap.size (by rfl) (.tmp 7) (.tmp 9) 22 85 (.agg #[(.int .i64 0), (.int .i64 0), (.int .i64 0)]) 24 rfl Try.underlying22 info85 rfl (by decide) (by omega) v7 [] x.holds x.A3 _ x.c3 (fun _ => True) (fun _ => False) rfl rfl ?aO ?aR (fun _ _ h => h) (fun _ h => h.elim) ?aF ?aB ?aS ?aL ?_
    (case aR => exact (Kd.C_below (Kd.C_below HX.out.h HB.out) HBd.out))
    (case aB => exact HBd.out)
    (case aF => exact (fun _ _ => trivial))
    (case aO => exact R7.out)
    (case aS => exact HBd.out.size)
    (case aL => simp only [List.length_nil]; omega)
    intro v10 wq2 ho_ hb_ hg_ hat_
    rw [List.nil_append] at ho_
    have R10 := Aside0.mk ho_
    replace R11 := Aside0.mk (Kd.R_over' R11.out (Kd.R_typed R7.out) (by decide) hg_)
    replace HBd := Aside0.mk hb_
    clear ho_ hb_ hg_ hat_ R7
    refine hK.out _ _ ⟨(HBd.out.cell (blk_lt BK.out)).trans ((blk_cell BK.out 3).trans rfl), (HBd.out.cell (blk_lt BK.out)).trans ((blk_cell BK.out 6).trans rfl)⟩ (fun hHeld => ?_)
    clear hK K
    refine norm_ (a' := ?_) ?_ ?_; rotate_left; (show Act.put _ (some 10) _ = _; simp only [Act.put, put_x, i64_w, i32_w]; rfl)
    refine pure_y 8 (some 15) (bz 14 383) ?_
    exact norm_ (by simp only [putAll, Act.put, put_x]) (hCont (v7, v10, v11) _ ⟨hHeld, R10, R11, HBd⟩)
  ·
   skip
   have HBd := Aside0.mk (Below.refl wd.heap.size wd)
   refine Kd.R_lit_step k79 _ 79 ?hg (N := 11) ?hd (xs := ([] : List S79)) (inner := []) (ok := fun _ => True) (okp := fun _ => True) ?hr ?hp (fun _ hk => hk) trivial (Below.refl _ _) (Nat.le_refl _) (by simp) ?_; (case hd => rfl); (case hg => rfl); (case hr => first | (go_simp; done) | (go_simp; rfl)); (case hp => exact (Reps.none _ _))
   intro v11 wq0 ho_ hb_ hg_ hnew_
   clear hg_ hnew_
   have R11 := Aside0.mk (Kd.R_lower ho_ HBd.out.size)
   replace HBd := Aside0.mk (below_step HBd.out hb_)
   clear ho_ hb_
   refine hK.out _ _ ⟨(HBd.out.cell (blk_lt BK.out)).trans ((blk_cell BK.out 3).trans rfl), (HBd.out.cell (blk_lt BK.out)).trans ((blk_cell BK.out 6).trans rfl)⟩ (fun hHeld => ?_)
   clear hK K
   refine norm_ (a' := ?_) ?_ ?_; rotate_left; (show Act.put _ (some 11) _ = _; simp only [Act.put, put_x, i64_w, i32_w]; rfl)
   refine one_ (i := 0) (N := some 7) (bz 14 119) rfl rfl (by kernel_rfl) (by decide) (fun K hK => ?_)
   refine Kd.R_lit_step k85 _ 85 ?hg (N := 7) ?hd (xs := ([] : List S85)) (inner := []) (ok := fun _ => True) (okp := fun _ => True) ?hr ?hp (fun _ hk => hk) trivial (Below.refl _ _) (Nat.le_refl _) (by simp) ?_; (case hd => rfl); (case hg => rfl); (case hr => first | (go_simp; done) | (go_simp; rfl)); (case hp => exact (Reps.none _ _))
   intro v7 wq1 ho_ hb_ hg_ hnew_
   clear hg_ hnew_
   have R7 := Aside0.mk (Kd.R_lower ho_ HBd.out.size)
   replace R11 := Aside0.mk (Kd.R_below R11.out hb_)
   replace HBd := Aside0.mk (below_step HBd.out hb_)
   clear ho_ hb_
   refine hK.out _ _ ⟨(HBd.out.cell (blk_lt BK.out)).trans ((blk_cell BK.out 3).trans rfl), (HBd.out.cell (blk_lt BK.out)).trans ((blk_cell BK.out 6).trans rfl)⟩ (fun hHeld => ?_)
   clear hK K
   refine norm_ (a' := ?_) ?_ ?_; rotate_left; (show Act.put _ (some 7) _ = _; simp only [Act.put, put_x, i64_w, i32_w]; rfl)
   refine one_ (i := 3) (N := some 10) (bz 14 127) rfl rfl (by kernel_rfl) (by decide) (fun K hK => ?_)
   refine Kd.R_append_rows_step k85 (w0 := wd) wd.heap.size (by rfl) (.tmp 7) (.tmp 9) 22 85 (.agg #[(.int .i64 0), (.int .i64 0), (.int .i64 0)]) 24 rfl Try.underlying22 info85 rfl (by decide) (by omega) v7 [] x.holds x.A3 _ x.c3 (fun _ => True) (fun _ => False) rfl rfl ?aO ?aR (fun _ _ h => h) (fun _ h => h.elim) ?aF ?aB ?aS ?aL ?_
   (case aR => exact (Kd.C_below (Kd.C_below HX.out.h HB.out) HBd.out))
   (case aB => exact HBd.out)
   (case aF => exact (fun _ _ => trivial))
   (case aO => exact R7.out)
   (case aS => exact HBd.out.size)
   (case aL => simp only [List.length_nil]; omega)
   intro v10 wq2 ho_ hb_ hg_ hat_
   rw [List.nil_append] at ho_
   have R10 := Aside0.mk ho_
   replace R11 := Aside0.mk (Kd.R_over' R11.out (Kd.R_typed R7.out) (by decide) hg_)
   replace HBd := Aside0.mk hb_
   clear ho_ hb_ hg_ hat_ R7
   refine hK.out _ _ ⟨(HBd.out.cell (blk_lt BK.out)).trans ((blk_cell BK.out 3).trans rfl), (HBd.out.cell (blk_lt BK.out)).trans ((blk_cell BK.out 6).trans rfl)⟩ (fun hHeld => ?_)
   clear hK K
   refine norm_ (a' := ?_) ?_ ?_; rotate_left; (show Act.put _ (some 10) _ = _; simp only [Act.put, put_x, i64_w, i32_w]; rfl)
   refine pure_y 8 (some 15) (bz 14 383) ?_
   exact norm_ (by simp only [putAll, Act.put, put_x]) (hCont (v7, v10, v11) _ ⟨hHeld, R10, R11, HBd⟩)
 rintro ⟨v7, v10, v11⟩ wj ⟨hHeld, R10, R11, HBd⟩
 obtain ⟨A10, c10, hv10_⟩ := Kd.R_slice R10.out
 dsimp only at R10 R11 hv10_ ⊢
 subst hv10_
 refine norm_ (a' := ?_) ?_ ?_
 rotate_left
 ·
  simp only [putAll, Act.put, put_x]
  rfl
 refine one_ (i := 7) (N := some 14) (bz 14 511) rfl rfl (by kernel_rfl) (by decide) (fun K hK => ?_)
 refine Kd.R_append_rows_step k79 (w0 := wd) wd.heap.size (by rfl) (.tmp 11) (.tmp 13) 24 79 (.agg #[(.int .i64 0), (.int .i64 0), (.int .i64 0)]) 24 rfl Try.underlying24 info79 rfl (by decide) (by omega) v11 [] x.lots x.A6 _ x.c6 (fun _ => True) (fun _ => False) rfl rfl ?aO ?aR (fun _ _ h => h) (fun _ h => h.elim) ?aF ?aB ?aS ?aL ?_
 (case aR => exact (Kd.C_below (Kd.C_below HX.out.l HB.out) HBd.out))
 (case aB => exact HBd.out)
 (case aF => exact (fun _ _ => trivial))
 (case aO => exact R11.out)
 (case aS => exact HBd.out.size)
 (case aL => simp only [List.length_nil]; omega)
 intro v14 w4 ho_ hb_ hg_ hat_
 rw [List.nil_append] at ho_
 obtain ⟨A14, c14, rfl⟩ := Kd.R_slice ho_
 have R14 := Aside0.mk ho_
 replace R10 := Aside0.mk (Kd.R_over' R10.out (Kd.R_typed R11.out) (by decide) hg_)
 have BK4 := Aside0.mk (blk_below BK.out hb_)
 have BE4 := Aside0.mk (blk_below BE.out hb_)
 replace HBd := Aside0.mk hb_
 clear ho_ hb_ hg_ hat_ R11
 refine hK.out _ _ ⟨(HBd.out.cell (blk_lt BK.out)).trans ((blk_cell BK.out 3).trans rfl), (HBd.out.cell (blk_lt BK.out)).trans ((blk_cell BK.out 6).trans rfl)⟩ (fun hHeld => ?_)
 clear hK K
 refine norm_ (a' := ?_) ?_ ?_; rotate_left; (show Act.put _ (some 14) _ = _; simp only [Act.put, put_x, i64_w, i32_w]; rfl)
 refine last_ (i := 9) (N := none) (bz 14 1023) rfl rfl (by kernel_rfl) (by decide) (fun K hK => ?_)
 have hy0_ := (blk_cell BK4.out 3).trans rfl
 have hf_ := blk_frozen BK4.out
 refine skip_ (w1 := ?_) (by rfl) rfl ?_ ?_; rotate_left; (go_simp; rfl)
 clear hy0_ hf_
 refine hK.out _ _ ?_
 clear hK K
 refine pure_y 10 (some 16) (bz 14 2047) ?_
 refine last_ (i := 11) (N := none) (bz 14 4095) rfl rfl (by kernel_rfl) (by decide) (fun K hK => ?_)
 have BK5 := Aside0.mk (blk_put (cs' := #[.int .i64 x.light, .int .i64 x.under, .int .i64 x.trim, .slice A10 x.holds.length c10, .int .i64 x.leaves, .slice A5 x.sills.length x.c5, .slice x.A6 x.lots.length x.c6]) BK4.out 3 (.slice A10 x.holds.length c10) rfl)
 have hy0_ := (blk_cell BK5.out 6).trans rfl
 have hf_ := blk_frozen BK5.out
 refine skip_ (w1 := ?_) (by rfl) rfl ?_ ?_; rotate_left; (go_simp; rfl)
 clear hy0_ hf_
 refine hK.out _ _ ?_
 clear hK K
 refine pure_y 12 (some 17) (bz 14 8191) ?_
 refine last_ (i := 13) (N := none) (bz 14 16383) rfl rfl (by kernel_rfl) (by decide) (fun K hK => ?_)
 have BK6 := Aside0.mk (blk_put (cs' := #[.int .i64 x.light, .int .i64 x.under, .int .i64 x.trim, .slice A10 x.holds.length c10, .int .i64 x.leaves, .slice A5 x.sills.length x.c5, .slice A14 x.lots.length c14]) BK5.out 6 (.slice A14 x.lots.length c14) rfl)
 have hy0_ := (blk_cell BK6.out 5).trans rfl
 have hf_ := blk_frozen BK6.out
 refine skip_ (w1 := ?_) (by rfl) rfl ?_ ?_; rotate_left; (go_simp; rfl)
 clear hy0_ hf_
 refine hK.out _ _ ?_
 clear hK K
 refine done_ (by kernel_rfl) ?_
 clear hHeld hz3_ hz5_ hz6_
 have BK7 := Aside0.mk (blk_put (cs' := #[.int .i64 x.light, .int .i64 x.under, .int .i64 x.trim, .slice A10 x.holds.length c10, .int .i64 x.leaves, .slice none 0 0, .slice A14 x.lots.length c14]) BK6.out 5 (.slice none 0 0) rfl)
 have BE7 := Aside0.mk (blk_far (blk_far (blk_far BE4.out (p := ⟨gb, 3, none⟩) NBE.out.symm (.slice A10 x.holds.length c10)) (p := ⟨gb, 6, none⟩) NBE.out.symm (.slice A14 x.lots.length c14)) (p := ⟨gb, 5, none⟩) NBE.out.symm (.slice none 0 0))
 have HB7 := Aside0.mk (below_set (below_set (below_set (below_step HB.out HBd.out) GEb.out (j := 3) (v := (.slice A10 x.holds.length c10))) GEb.out (j := 6) (v := (.slice A14 x.lots.length c14))) GEb.out (j := 5) (v := .slice none 0 0))
 replace R10 := Aside0.mk (Kd.R_set (Kd.R_set (Kd.R_set R10.out BK4.out (by decide) 3 (.slice A10 x.holds.length c10)) BK5.out (by decide) 6 (.slice A14 x.lots.length c14)) BK6.out (by decide) 5 (.slice none 0 0))
 replace R14 := Aside0.mk (Kd.R_set (Kd.R_set (Kd.R_set R14.out BK4.out (by decide) 3 (.slice A10 x.holds.length c10)) BK5.out (by decide) 6 (.slice A14 x.lots.length c14)) BK6.out (by decide) 5 (.slice none 0 0))
 replace R10 := Aside0.mk (Kd.R_lower R10.out HB.out.size)
 replace R14 := Aside0.mk (Kd.R_lower R14.out HB.out.size)
 generalize hW_ : ((w4.setCell ⟨gb, 3, none⟩ (.slice A10 x.holds.length c10)).setCell ⟨gb, 6, none⟩ (.slice A14 x.lots.length c14)).setCell ⟨gb, 5, none⟩ (.slice none 0 0) = w5 at *
 clear hW_ BK4 BK5 BK6 BE4 HBd BK BE HB
 go_wp2
 go_loopg [4] x.sills.length (fun gk v4 wr => ∃ k : Nat, k ≤ x.sills.length ∧ x.sills.length - k ≤ gk ∧ v4 = .int .i64 k ∧ Aside0 (∃ v5, wr.heap[gb]? = some (.cells #[.int .i64 x.light, .int .i64 x.under, .int .i64 x.trim, .slice A10 x.holds.length c10, .int .i64 x.leaves, v5, .slice A14 x.lots.length c14] 26 (0, 0)) ∧ Kd.S k59 59 wr w.heap.size (fun _ => True) v5 (x.sills.take k)) ∧ Aside0 (wr.heap[ge]? = some (.cells #[.int .i64 0, .int .i64 0, .int .i64 0, .slice none 0 0, .int .i64 0, .slice none 0 0, .slice none 0 0] 26 (0, 0))) ∧ Aside0 (Kd.R k85 85 wr w.heap.size (fun _ => True) (.slice A10 x.holds.length c10) x.holds) ∧ Aside0 (Kd.R k79 79 wr w.heap.size (fun _ => True) (.slice A14 x.lots.length c14) x.lots) ∧ Aside0 (Below w.heap.size w wr))
 case atStart => exact ⟨0, by omega, by omega, rfl, ⟨⟨_, BK7.out, Kd.S_nil _ _ _ _ _⟩⟩, BE7, R10, R14, HB7⟩
 case round =>
  clear BK7 BE7 R10 R14 HB7
  obtain ⟨k, hk, hgk, rfl, HI, BE, R10, R14, HB⟩ := hrel
  obtain ⟨v5, hbk, hs5⟩ := HI.out
  obtain ⟨Av, cv, hv5_⟩ := Kd.S_slice hs5
  rw [List.length_take, Nat.min_eq_left hk] at hv5_
  subst hv5_
  have BK := Aside0.mk hbk
  have HO := Aside0.mk hs5
  clear hbk hs5 HI
  by_cases hlt : k < x.sills.length
  ·
   have hlz : (k : Int) < (x.sills.length : Int) := by omega
   obtain ⟨ads, A2, c2, e, h0, h1, h2, l2, g2⟩ := at_T59 HS5.out (k : Int) (by omega) hlz
   cases e
   rw [Int.toNat_natCast] at h0 h1 h2
   have hlen := HL.out.l k hlt
   have htk : Aside0 (x.sills.take (k + 1) = x.sills.take k ++ [rd_T59 x.sills (k : Int)]) := ⟨by
    rw [List.take_succ_eq_append_getElem hlt]
    have : rd_T59 x.sills (k : Int) = x.sills[k] := by simp [rd_T59, List.getD, hlt]
    rw [this]⟩
   have htl : (x.sills.take k).length = k := by rw [List.length_take]; omega
   have HTL := Aside0.mk htl
   have hrd : x.sills.getD k z59 = rd_T59 x.sills (k : Int) := rfl
   rw [hrd] at hlen
   clear hrd htl
   generalize rd_T59 x.sills (k : Int) = sl at *
   have LT0 := Aside0.mk (World.block_lt_of_cell? w _ h0)
   have LT1 := Aside0.mk (World.block_lt_of_cell? w _ h1)
   have LT2 := Aside0.mk (World.block_lt_of_cell? w _ h2)
   have E0 := Aside0.mk h0
   have E1 := Aside0.mk h1
   have E2 := Aside0.mk h2
   have G2 := Aside0.mk g2
   clear g2
   replace h0 := (HB.out.cell LT0.out).trans h0
   replace h1 := (HB.out.cell LT1.out).trans h1
   replace h2 := (HB.out.cell LT2.out).trans h2
   have hz5_ := (blk_cell BK.out 5).trans rfl
   go_upto_region 6 with (fail)
   have hd_ := below_drew1 (Below.refl wr.heap.size wr)
   replace BK := Aside0.mk (blk_drew BK.out)
   replace BE := Aside0.mk (blk_drew BE.out)
   replace HO := Aside0.mk (Kd.S_drew HO.out)
   replace R10 := Aside0.mk (Kd.R_drew R10.out)
   replace R14 := Aside0.mk (Kd.R_drew R14.out)
   replace HB := Aside0.mk (below_step HB.out hd_)
   clear hd_
   refine start_ (n := 19) (S := fun w' => w'.cell? ⟨gb, 5, none⟩ = some (.slice Av k cv) ∧ w'.cell? (ads.add (k * 3)) = some (.int .i64 sl.f0.f0) ∧ w'.cell? ⟨(ads.add (k * 3)).block, (ads.add (k * 3)).off + 1, none⟩ = some (.int .i64 sl.f0.f1) ∧ w'.cell? ⟨(ads.add (k * 3)).block, (ads.add (k * 3)).off + 2, none⟩ = some (.slice A2 sl.f1.length c2)) (ds := [16, 18]) #[false, false, false, false, false, false, false, false, false, false, false, false, false, false, false, false, false, false, false] (by kernel_rfl) rfl rfl ⟨hz5_, h0, h1, h2⟩ (fun hHeld => ?_)
   generalize wr.drew = wd at BK BE HO R10 R14 HB hHeld ⊢
   refine pure_y 0 (some 24) (bz 19 1) ?_
   refine pure_y 2 (some 26) (bz 19 5) ?_
   refine pure_y 3 (some 27) (bz 19 13) ?_
   refine pure_y 4 (some 28) (bz 19 29) ?_
   refine pure_y 5 (some 29) (bz 19 61) ?_
   refine pure_y 8 (some 32) (bz 19 317) ?_
   refine pure_y 9 (some 33) (bz 19 829) ?_
   refine pure_y 10 (some 34) (bz 19 1853) ?_
   refine pure_y 11 (some 35) (bz 19 3901) ?_
   refine take_ (i := 1) (N := some 25) (v := ?_) (a' := ?_) (bz 19 3903) rfl rfl (by kernel_rfl) (fun _ _ _ h => h) (Or.inl ⟨by rfl, ?_⟩) hHeld ?_ ?_
   rotate_left; (rintro w' ⟨s0, s1, s2, s3⟩; go_simp; with_reducible rfl); rotate_left; (simp only [Act.put, put_x, i64_w, i32_w]; rfl)
   refine take_ (i := 6) (N := some 30) (v := ?_) (a' := ?_) (bz 19 3967) rfl rfl (by kernel_rfl) (fun _ _ _ h => h) (Or.inl ⟨by rfl, ?_⟩) hHeld ?_ ?_
   rotate_left; (rintro w' ⟨s0, s1, s2, s3⟩; go_simp; with_reducible rfl); rotate_left; (simp only [Act.put, put_x, i64_w, i32_w]; rfl)
   refine take_ (i := 12) (N := some 36) (v := ?_) (a' := ?_) (bz 19 8063) rfl rfl (by kernel_rfl) (fun _ _ _ h => h) (Or.inl ⟨by rfl, ?_⟩) hHeld ?_ ?_
   rotate_left; (rintro w' ⟨s0, s1, s2, s3⟩; go_simp; with_reducible rfl); rotate_left; (simp only [Act.put, put_x, i64_w, i32_w]; rfl)
   refine one_ (i := 7) (N := some 31) (bz 19 8191) rfl rfl (by kernel_rfl) (by decide) (fun K hK => ?_)
   refine Kd.R_lit_step k62 _ 62 ?hg (N := 31) ?hd (xs := ([] : List S62)) (inner := []) (ok := fun _ => True) (okp := fun _ => True) ?hr ?hp (fun _ hk => hk) trivial (Below.refl _ _) (Nat.le_refl _) (by simp) ?_; (case hd => rfl); (case hg => rfl); (case hr => first | (go_simp; done) | (go_simp; rfl)); (case hp => exact (Reps.none _ _))
   intro v31 w6 ho_ hb_ hg_ hnew_
   clear hg_ hnew_
   have R31 := Aside0.mk ho_
   have HBd := Aside0.mk hb_
   clear ho_ hb_
   refine hK.out _ _ ⟨(HBd.out.cell (blk_lt BK.out)).trans ((blk_cell BK.out 5).trans rfl), (HBd.out.cell (Nat.lt_of_lt_of_le LT0.out HB.out.size)).trans ((HB.out.cell LT0.out).trans E0.out), (HBd.out.cell (Nat.lt_of_lt_of_le LT1.out HB.out.size)).trans ((HB.out.cell LT1.out).trans E1.out), (HBd.out.cell (Nat.lt_of_lt_of_le LT2.out HB.out.size)).trans ((HB.out.cell LT2.out).trans E2.out)⟩ (fun hHeld => ?_)
   clear hK K
   refine norm_ (a' := ?_) ?_ ?_; rotate_left; (show Act.put _ (some 31) _ = _; simp only [Act.put, put_x, i64_w, i32_w]; rfl)
   refine one_ (i := 13) (N := some 37) (bz 19 16383) rfl rfl (by kernel_rfl) (by decide) (fun K hK => ?_)
   refine Kd.R_append_rows_step k62 (w0 := wd) wd.heap.size (by rfl) (.tmp 31) (.tmp 36) 57 62 (.agg #[(.int .i64 0), (.int .i64 0), (.int .i64 0)]) 24 rfl Try.underlying57 info62 rfl (by decide) (by omega) v31 [] sl.f1 A2 _ c2 (fun _ => True) (fun _ => False) rfl rfl ?aO ?aR (fun _ _ h => h) (fun _ h => h.elim) ?aF ?aB ?aS ?aL ?_
   (case aR => exact (Kd.C_below (Kd.C_below G2.out HB.out) HBd.out))
   (case aB => exact HBd.out)
   (case aF => exact (fun _ _ => trivial))
   (case aO => exact R31.out)
   (case aS => exact HBd.out.size)
   (case aL => simp only [List.length_nil]; omega)
   intro v37 w7 ho_ hb_ hg_ hat_
   rw [List.nil_append] at ho_
   obtain ⟨A37, c37, rfl⟩ := Kd.R_slice ho_
   have R37 := Aside0.mk ho_
   replace HBd := Aside0.mk hb_
   clear ho_ hb_ hg_ hat_ R31
   refine hK.out _ _ ⟨(HBd.out.cell (blk_lt BK.out)).trans ((blk_cell BK.out 5).trans rfl), (HBd.out.cell (Nat.lt_of_lt_of_le LT0.out HB.out.size)).trans ((HB.out.cell LT0.out).trans E0.out), (HBd.out.cell (Nat.lt_of_lt_of_le LT1.out HB.out.size)).trans ((HB.out.cell LT1.out).trans E1.out), (HBd.out.cell (Nat.lt_of_lt_of_le LT2.out HB.out.size)).trans ((HB.out.cell LT2.out).trans E2.out)⟩ (fun hHeld => ?_)
   clear hK K
   refine norm_ (a' := ?_) ?_ ?_; rotate_left; (show Act.put _ (some 37) _ = _; simp only [Act.put, put_x, i64_w, i32_w]; rfl)
   refine pure_y 14 (some 38) (bz 19 32767) ?_
   refine one_ (i := 15) (N := some 39) (bz 19 65535) rfl rfl (by kernel_rfl) (by decide) (fun K hK => ?_)
   refine value_ (w1 := ?_) (v := ?_) (by rfl) rfl ?_ ?_
   rotate_left 2
   ·
    (go_simp; constructor <;> rfl)
   refine hK.out _ _ ⟨((below_alloc HBd.out _).cell (blk_lt BK.out)).trans ((blk_cell BK.out 5).trans rfl), ((below_alloc HBd.out _).cell (Nat.lt_of_lt_of_le LT0.out HB.out.size)).trans ((HB.out.cell LT0.out).trans E0.out), ((below_alloc HBd.out _).cell (Nat.lt_of_lt_of_le LT1.out HB.out.size)).trans ((HB.out.cell LT1.out).trans E1.out), ((below_alloc HBd.out _).cell (Nat.lt_of_lt_of_le LT2.out HB.out.size)).trans ((HB.out.cell LT2.out).trans E2.out)⟩ (fun hHeld => ?_)
   clear hK K
   refine norm_ (a' := ?_) ?_ ?_; rotate_left; (show Act.put _ (some 39) _ = _; simp only [Act.put, put_x, i64_w, i32_w]; rfl)
   refine last_ (i := 16) (N := some 40) (bz 19 131071) rfl rfl (by kernel_rfl) (by decide) (fun K hK => ?_)
   refine Kd.S_append_step k59 (w0 := w) w.heap.size (by rfl) (.tmp 25) (.tmp 39) 23 59 (.agg #[(.int .i64 0), (.int .i64 0), (.slice none 0 0)]) 40 rfl Try.underlying23 info59 rfl (by decide) (by omega) (.slice Av k cv) (x.sills.take k) sl [.int .i64 sl.f0.f0, .int .i64 sl.f0.f1, .slice A37 sl.f1.length c37] (fun _ => True) (fun k_ => wd.heap.size ≤ k_) rfl rfl ?aP ?aK ?aF ?aO ?aB ?aS ?aL ?_
   (case aP => exact k59_mkM _ _ _ sl (Kd.R_mono (Kd.R_bound (Kd.R_lower (Kd.R_mono (Kd.R_bound R37.out) (fun _ hk => hk.2.1)) HB.out.size)) (fun _ hk => hk.1)))
   (case aK => exact (fun k_ hk => ⟨trivial, fun he => by have := Kd.S_lt HO.out k_ he.symm; omega⟩))
   (case aF => exact (fun _ _ => trivial))
   (case aO => exact Kd.S_mono (Kd.S_old HO.out HBd.out) (fun _ hk => ⟨trivial, by have := hk.2; omega⟩))
   (case aB => exact below_step HB.out HBd.out)
   (case aS => exact Nat.le_trans HB.out.size HBd.out.size)
   (case aL => have := HTL.out; omega)
   intro v40 w8 ho_ hb_ hg_ hat_
   obtain ⟨A40, c40, hv40_⟩ := Kd.S_slice ho_
   rw [List.length_append, HTL.out, List.length_singleton] at hv40_
   subst hv40_
   have HO2 := Aside0.mk ho_
   have BK2 := Aside0.mk (blk_grown (blk_below BK.out HBd.out) hg_ (Kd.S_ne HO.out BK.out (by decide)))
   have BE2 := Aside0.mk (blk_grown (blk_below BE.out HBd.out) hg_ (Kd.S_ne HO.out BE.out (by decide)))
   have T_ := Aside0.mk (fun k_ he => (Kd.S_typed HO.out k_ he).imp fun _ hc => blk_below hc HBd.out)
   replace R10 := Aside0.mk (Kd.R_over' (Kd.R_below R10.out HBd.out) T_.out (by decide) hg_)
   replace R14 := Aside0.mk (Kd.R_over' (Kd.R_below R14.out HBd.out) T_.out (by decide) hg_)
   have HB2 := Aside0.mk hb_
   clear ho_ hb_ hg_ hat_ T_ R37
   refine hK.out _ _ ?_
   clear hK K
   refine norm_ (a' := ?_) ?_ ?_; rotate_left; (show Act.put _ (some 40) _ = _; simp only [Act.put, put_x, i64_w, i32_w]; rfl)
   refine pure_y 17 (some 41) (bz 19 262143) ?_
   refine last_ (i := 18) (N := none) (bz 19 524287) rfl rfl (by kernel_rfl) (by decide) (fun K hK => ?_)
   have hy0_ := (blk_cell BK2.out 5).trans rfl
   have hf_ := blk_frozen BK2.out
   refine skip_ (w1 := ?_) (by rfl) rfl ?_ ?_; rotate_left; (go_simp; rfl)
   clear hy0_ hf_
   refine hK.out _ _ ?_
   clear hK K
   refine done_ (by kernel_rfl) ?_
   clear hHeld hz5_ h0 h1 h2
   have BK3 := Aside0.mk (blk_put (cs' := #[.int .i64 x.light, .int .i64 x.under, .int .i64 x.trim, .slice A10 x.holds.length c10, .int .i64 x.leaves, .slice A40 (k + 1) c40, .slice A14 x.lots.length c14]) BK2.out 5 (.slice A40 (k + 1) c40) rfl)
   have BE3 := Aside0.mk (blk_far BE2.out (p := ⟨gb, 5, none⟩) NBE.out.symm (.slice A40 (k + 1) c40))
   have HB3 := Aside0.mk (below_set HB2.out GEb.out (j := 5) (v := (.slice A40 (k + 1) c40)))
   have HO3 := Aside0.mk (Kd.S_set HO2.out BK2.out (by decide) 5 (.slice A40 (k + 1) c40))
   replace R10 := Aside0.mk (Kd.R_set R10.out BK2.out (by decide) 5 (.slice A40 (k + 1) c40))
   replace R14 := Aside0.mk (Kd.R_set R14.out BK2.out (by decide) 5 (.slice A40 (k + 1) c40))
   generalize hW_ : w8.setCell ⟨gb, 5, none⟩ (.slice A40 (k + 1) c40) = w9 at *
   clear hW_ BK BE HO HB BK2 BE2 HB2 HO2 HBd
   go_wp2
   go_roundg (x.sills.length - (k + 1))
   case measure => omega
   case rel => exact ⟨k + 1, by omega, by omega, by go_num, ⟨⟨_, BK3.out, by rw [htk.out]; exact HO3.out⟩⟩, BE3, R10, R14, HB3⟩
  ·
   have : k = x.sills.length := by omega
   subst this
   have HOe := HO.out
   rw [List.take_length] at HOe
   have HO2 := Aside0.mk HOe
   clear HOe HO
   have hz0_ := (blk_cell BK.out 0).trans rfl
   have hz1_ := (blk_cell BK.out 1).trans rfl
   have hz2_ := (blk_cell BK.out 2).trans rfl
   have hz3_ := (blk_cell BK.out 3).trans rfl
   have hz4_ := (blk_cell BK.out 4).trans rfl
   have hz5_ := (blk_cell BK.out 5).trans rfl
   have hz6_ := (blk_cell BK.out 6).trans rfl
   have hy0_ := (blk_cell BE.out 0).trans rfl
   have hy1_ := (blk_cell BE.out 1).trans rfl
   have hy2_ := (blk_cell BE.out 2).trans rfl
   have hy3_ := (blk_cell BE.out 3).trans rfl
   have hy4_ := (blk_cell BE.out 4).trans rfl
   have hy5_ := (blk_cell BE.out 5).trans rfl
   have hy6_ := (blk_cell BE.out 6).trans rfl
   have hf_ := blk_frozen BE.out
   go_wp2
   have BR := BE
   have BR0 := BR
   replace BR := Aside0.mk (blk_put (cs' := #[.int .i64 x.light, .int .i64 0, .int .i64 0, .slice none 0 0, .int .i64 0, .slice none 0 0, .slice none 0 0]) BR.out 0 (.int .i64 x.light) rfl)
   have BR1 := BR
   replace BR := Aside0.mk (blk_put (cs' := #[.int .i64 x.light, .int .i64 x.under, .int .i64 0, .slice none 0 0, .int .i64 0, .slice none 0 0, .slice none 0 0]) BR.out 1 (.int .i64 x.under) rfl)
   have BR2 := BR
   replace BR := Aside0.mk (blk_put (cs' := #[.int .i64 x.light, .int .i64 x.under, .int .i64 x.trim, .slice none 0 0, .int .i64 0, .slice none 0 0, .slice none 0 0]) BR.out 2 (.int .i64 x.trim) rfl)
   have BR3 := BR
   replace BR := Aside0.mk (blk_put (cs' := #[.int .i64 x.light, .int .i64 x.under, .int .i64 x.trim, .slice A10 x.holds.length c10, .int .i64 0, .slice none 0 0, .slice none 0 0]) BR.out 3 (.slice A10 x.holds.length c10) rfl)
   have BR4 := BR
   replace BR := Aside0.mk (blk_put (cs' := #[.int .i64 x.light, .int .i64 x.under, .int .i64 x.trim, .slice A10 x.holds.length c10, .int .i64 x.leaves, .slice none 0 0, .slice none 0 0]) BR.out 4 (.int .i64 x.leaves) rfl)
   have BR5 := BR
   replace BR := Aside0.mk (blk_put (cs' := #[.int .i64 x.light, .int .i64 x.under, .int .i64 x.trim, .slice A10 x.holds.length c10, .int .i64 x.leaves, .slice Av x.sills.length cv, .slice none 0 0]) BR.out 5 (.slice Av x.sills.length cv) rfl)
   have BR6 := BR
   replace BR := Aside0.mk (blk_put (cs' := #[.int .i64 x.light, .int .i64 x.under, .int .i64 x.trim, .slice A10 x.holds.length c10, .int .i64 x.leaves, .slice Av x.sills.length cv, .slice A14 x.lots.length c14]) BR.out 6 (.slice A14 x.lots.length c14) rfl)
   have HBe := Aside0.mk (show Below w.heap.size w (((((((wr.setCell ⟨ge, 0, none⟩ (.int .i64 x.light)).setCell ⟨ge, 1, none⟩ (.int .i64 x.under)).setCell ⟨ge, 2, none⟩ (.int .i64 x.trim)).setCell ⟨ge, 3, none⟩ (.slice A10 x.holds.length c10)).setCell ⟨ge, 4, none⟩ (.int .i64 x.leaves)).setCell ⟨ge, 5, none⟩ (.slice Av x.sills.length cv)).setCell ⟨ge, 6, none⟩ (.slice A14 x.lots.length c14)) from below_set (below_set (below_set (below_set (below_set (below_set (below_set (HB.out) GEe.out) GEe.out) GEe.out) GEe.out) GEe.out) GEe.out) GEe.out)
   have HOe := Aside0.mk (Kd.S_set (Kd.S_set (Kd.S_set (Kd.S_set (Kd.S_set (Kd.S_set (Kd.S_set HO2.out BR0.out (by decide) 0 (.int .i64 x.light)) BR1.out (by decide) 1 (.int .i64 x.under)) BR2.out (by decide) 2 (.int .i64 x.trim)) BR3.out (by decide) 3 (.slice A10 x.holds.length c10)) BR4.out (by decide) 4 (.int .i64 x.leaves)) BR5.out (by decide) 5 (.slice Av x.sills.length cv)) BR6.out (by decide) 6 (.slice A14 x.lots.length c14))
   have R10e := Aside0.mk (Kd.R_set (Kd.R_set (Kd.R_set (Kd.R_set (Kd.R_set (Kd.R_set (Kd.R_set R10.out BR0.out (by decide) 0 (.int .i64 x.light)) BR1.out (by decide) 1 (.int .i64 x.under)) BR2.out (by decide) 2 (.int .i64 x.trim)) BR3.out (by decide) 3 (.slice A10 x.holds.length c10)) BR4.out (by decide) 4 (.int .i64 x.leaves)) BR5.out (by decide) 5 (.slice Av x.sills.length cv)) BR6.out (by decide) 6 (.slice A14 x.lots.length c14))
   have R14e := Aside0.mk (Kd.R_set (Kd.R_set (Kd.R_set (Kd.R_set (Kd.R_set (Kd.R_set (Kd.R_set R14.out BR0.out (by decide) 0 (.int .i64 x.light)) BR1.out (by decide) 1 (.int .i64 x.under)) BR2.out (by decide) 2 (.int .i64 x.trim)) BR3.out (by decide) 3 (.slice A10 x.holds.length c10)) BR4.out (by decide) 4 (.int .i64 x.leaves)) BR5.out (by decide) 5 (.slice Av x.sills.length cv)) BR6.out (by decide) 6 (.slice A14 x.lots.length c14))
   clear hf_ BR0 BR1 BR2 BR3 BR4 BR5 BR6 BE HB HO2 R10 R14 BK hz0_ hz1_ hz2_ hz3_ hz4_ hz5_ hz6_ hy0_ hy1_ hy2_ hy3_ hy4_ hy5_ hy6_
   generalize hW_ : ((((((wr.setCell ⟨ge, 0, none⟩ (.int .i64 x.light)).setCell ⟨ge, 1, none⟩ (.int .i64 x.under)).setCell ⟨ge, 2, none⟩ (.int .i64 x.trim)).setCell ⟨ge, 3, none⟩ (.slice A10 x.holds.length c10)).setCell ⟨ge, 4, none⟩ (.int .i64 x.leaves)).setCell ⟨ge, 5, none⟩ (.slice Av x.sills.length cv)).setCell ⟨ge, 6, none⟩ (.slice A14 x.lots.length c14) = we at *
   clear hW_
   have hr0_ := (blk_cell BR.out 0).trans rfl
   have hr1_ := (blk_cell BR.out 1).trans rfl
   have hr2_ := (blk_cell BR.out 2).trans rfl
   have hr3_ := (blk_cell BR.out 3).trans rfl
   have hr4_ := (blk_cell BR.out 4).trans rfl
   have hr5_ := (blk_cell BR.out 5).trans rfl
   have hr6_ := (blk_cell BR.out 6).trans rfl
   exact bodyPost_ret (results_single (r := .cell 2 26) rfl (.cell ge 26 #[.int .i64 x.light, .int .i64 x.under, .int .i64 x.trim, .slice A10 x.holds.length c10, .int .i64 x.leaves, .slice Av x.sills.length cv, .slice A14 x.lots.length c14] (0, 0) _ rfl BR.out hu26 rfl (by kernel_rfl) .nil)) rfl ⟨_, _, _, rfl, R10e.out, HOe.out, R14e.out, HBe.out⟩
theorem swarfkit_CopyVoyage.calls (a0_0 : Int) (a0_1 : Int) (a0_2 : Int) (A0_3 : Option Addr) (c0_3 : Nat) (l0_3 : List (S85)) (a0_4 : Int) (A0_5 : Option Addr) (c0_5 : Nat) (l0_5 : List (S59)) (A0_6 : Option Addr) (c0_6 : Nat) (l0_6 : List (S79)) (r1 : Int) (r2 : Int) (r3 : Int) (r4 : List (S85)) (r5 : Int) (r6 : List (S59)) (r7 : List (S79)) (w : World) (hr0_3 : Kd.C k85 w A0_3 l0_3.length l0_3) (hc0_3 : l0_3.length ≤ c0_3) (hr0_5 : Kd.C k59 w A0_5 l0_5.length l0_5) (hc0_5 : l0_5.length ≤ c0_5) (hr0_6 : Kd.C k79 w A0_6 l0_6.length l0_6) (hc0_6 : l0_6.length ≤ c0_6) (h : swarfkit_CopyVoyage.f a0_0 a0_1 a0_2 l0_3 a0_4 l0_5 l0_6 = some (r1, r2, r3, r4, r5, r6, r7)) :
  Calls Try.prog 20 #[.agg #[.int .i64 a0_0, .int .i64 a0_1, .int .i64 a0_2, .slice A0_3 l0_3.length c0_3, .int .i64 a0_4, .slice A0_5 l0_5.length c0_5, .slice A0_6 l0_6.length c0_6]] w fun e w' => ∃ v3_ v5_ v6_ : Value, e = .returned (.agg #[.int .i64 r1, .int .i64 r2, .int .i64 r3, v3_, .int .i64 r5, v5_, v6_]) ∧ Kd.R k85 85 w' w.heap.size (fun _ => True) v3_ r4 ∧ Kd.S k59 59 w' w.heap.size (fun _ => True) v5_ r6 ∧ Kd.R k79 79 w' w.heap.size (fun _ => True) v6_ r7 ∧ Below w.heap.size w w' := by
 unfold swarfkit_CopyVoyage.f at h
 by_cases hn : copyOK l0_3 l0_5 l0_6
 ·
  rw [if_pos hn] at h
  simp only [Option.some.injEq, Prod.mk.injEq] at h
  obtain ⟨rfl, rfl, rfl, rfl, rfl, rfl, rfl⟩ := h
  exact copy_calls ⟨_, _, _, A0_3, c0_3, _, _, A0_5, c0_5, _, A0_6, c0_6, _⟩ w ⟨hr0_3, hc0_3, hr0_5, hc0_5, hr0_6, hc0_6⟩ hn
 ·
  rw [if_neg hn] at h; cases h
theorem VoyOK.mono {H S L' H' S' L2 : Nat} {T T' L U R V : Int} {holds : List S85} {sills : List S59} {lots : List S79} (h : VoyOK H S L' T L U R holds V sills lots) (h1 : H ≤ H') (h2 : S ≤ S') (h3 : L' ≤ L2) (h4 : T ≤ T') : VoyOK H' S' L2 T' L U R holds V sills lots :=
  ⟨h.light, h.under, h.trim, h.leaves, ⟨h.hn.1, Nat.le_trans h.hn.2 h1⟩, fun x hx => by obtain ⟨a, b, c⟩ := h.ho x hx; exact ⟨a, by omega, c⟩, Nat.le_trans h.sn h2,
    fun x hx => by
      obtain ⟨a, b, c, d, e, fr, hl⟩ := h.si x hx
      exact ⟨a, b, c, d, e, fr, fun i hi => by obtain ⟨p, q, r, s, t⟩ := hl.bd i hi; exact ⟨p, q, r, s, by omega⟩, hl.up, hl.zero, hl.first, hl.lim⟩,
    Nat.le_trans h.ln h3, fun x hx => by obtain ⟨a, b, c, d⟩ := h.lo x hx; exact ⟨a, b, by omega, d⟩⟩
structure HoldsLE (a b : List S85) : Prop where
  len : a.length ≤ b.length
  eq : ∀ g : Nat, g < a.length → (b.getD g z85).f1 = (a.getD g z85).f1 ∧ (b.getD g z85).f2 = (a.getD g z85).f2 ∧ (a.getD g z85).f0 ≤ (b.getD g z85).f0
  more : ∀ g : Nat, a.length ≤ g → g < b.length → 0 ≤ (b.getD g z85).f0
theorem copy_ok {H S L' : Nat} {T L U R V : Int} {holds : List S85} {sills : List S59} {lots : List S79} (h : VoyOK H S L' T L U R holds V sills lots) (hH : H ≤ 100) (hS : S ≤ 100) (hL : L' ≤ 100) : swarfkit_CopyVoyage.f L U R holds V sills lots = some (L, U, R, holds, V, sills, lots) := by
  unfold swarfkit_CopyVoyage.f
  have h1 := h.hn; have h2 := h.sn; have h3 := h.ln
  rw [if_pos ⟨by omega, by omega, by omega, fun x hx => by obtain ⟨_, _, _, _, a5, _⟩ := h.si x hx; omega⟩]
end Go.Proofs.Ytodmemndaaiolaa.PC7
namespace Go.Proofs.Ytodmemndaaiolaa.PC7
open Go.RowKit Go.Proofs.YtodmemndaaiolaaW.PrintWords Go.Proofs.YtodmemndaaiolaaW.PrintLast Go.Proofs.YtodmemndaaiolaaW.PrintMore
attribute [local go_sem] max2_int min2_int max_two min_two max_three min_three max_four min_four
set_option linter.unusedVariables false
set_option linter.unusedSimpArgs false
def swarfkit_Feed_In.f (s0_0 : Int) (a1_0 : Int) (a1_1 : Int) : Option (Int × Int) := (swarfkit_Feed_Between.f s0_0 a1_0 a1_1).bind fun bt1050 => ((swarfkit_Feed_Between.f bt1050.2 a1_0 a1_1).bind fun bt1052 => ((swarfkit_Feed_Either.f bt1052.2 (([a1_0, a1_1, bt1050.1, bt1052.1] : List Int))).bind fun bt1057 => (some (bt1057.1, bt1057.2))))
def swarfkit_Feed_In.T1 : Bool × List (List Nat × List Nat) := (true, [([], []), ([], []), ([1], [1]), ([], []), ([3], [3]), ([], []), ([], []), ([6], [6]), ([], []), ([8], [8]), ([5, 7, 9], [5, 7, 9]), ([], []), ([], []), ([12], [12]), ([], []), ([14], [14]), ([11, 13, 15, 10], [11, 13, 15]), ([2, 4, 10, 16], [2, 4, 10, 16]), ([0, 17, 16], [0, 17]), ([18, 18, 0, 1, 2, 3, 4, 5, 6, 7, 8, 9, 10, 11, 12, 13, 14, 15, 16, 17, 18], [18])])
def swarfkit_Feed_In.B1 : List Nat := [0, 0, 2, 0, 8, 0, 0, 64, 0, 256, 992, 0, 0, 4096, 0, 16384, 65504, 131070, 262143, 524287]
theorem swarfkit_Feed_In.tab1 : rtab .any (opsOf Try.f77 1) = swarfkit_Feed_In.T1 := by kernel_rfl
theorem swarfkit_Feed_In.bits1 : waitsOk swarfkit_Feed_In.T1.2 swarfkit_Feed_In.B1 = true := by kernel_rfl
set_option maxHeartbeats 8000000 in
set_option maxRecDepth 100000 in
theorem swarfkit_Feed_In.calls (g : Nat) (s0_0 : Int) (a1_0 : Int) (a1_1 : Int) (r1 : Int) (r2 : Int) (w0 w : World) (hI : IsS90 w0 w g s0_0) (hB : Below w0.heap.size w0 w) (h : swarfkit_Feed_In.f s0_0 a1_0 a1_1 = some (r1, r2)) :
  Calls Try.prog 77 #[.pointer (some ⟨g, 0, none⟩), .agg #[.int .i64 a1_0, .int .i64 a1_1]] w fun e w' => e = .returned (.int .i64 r1) ∧ IsS90 w0 w' g r2 ∧ Below w0.heap.size w0 w' ∧ KeepBut w w' g none := by
 have hu56 := Try.underlying56
 have HI0 := Aside0.mk hI
 have HK := Aside0.mk (KeepBut.refl w g none)
 have HL := Aside0.mk hB.size
 clear hI
 have HW0 := Aside0.mk hB.size
 have HB := Aside0.mk hB
 clear hB
 have H : ((swarfkit_Feed_Between.f s0_0 a1_0 a1_1).bind fun bt1050 => ((swarfkit_Feed_Between.f bt1050.2 a1_0 a1_1).bind fun bt1052 => ((swarfkit_Feed_Either.f bt1052.2 (([a1_0, a1_1, bt1050.1, bt1052.1] : List Int))).bind fun bt1057 => (some (bt1057.1, bt1057.2))))) = some (r1, r2) := h
 clear h
 replace H := Option.bind_eq_some_iff.mp H
 obtain ⟨⟨t1050, t1051⟩, A30, H⟩ := H
 try dsimp only at H
 have A3 := Aside0.mk A30
 clear A30
 replace H := Option.bind_eq_some_iff.mp H
 obtain ⟨⟨t1052, t1053⟩, A40, H⟩ := H
 try dsimp only at H
 have A4 := Aside0.mk A40
 clear A40
 obtain ⟨y1054, hy1054⟩ : ∃ y_ : List Int, y_ = (([a1_0, a1_1, t1050, t1052] : List Int)) := ⟨_, rfl⟩
 replace H : ((swarfkit_Feed_Either.f t1053 y1054).bind fun bt1057 => (some (bt1057.1, bt1057.2))) = some (r1, r2) := by first | (rw [hy1054]; with_reducible exact H) | (have H2_ := (Option.bind_some _ _).symm.trans H; rw [hy1054]; with_reducible exact H2_) | (have H2_ := (Option.bind_some _ _).symm.trans H; with_reducible exact H2_) | with_reducible exact H | (rw [hy1054]; exact H) | exact H
 have Ny1054 := Aside0.mk hy1054
 clear hy1054
 replace H := Option.bind_eq_some_iff.mp H
 obtain ⟨⟨t1057, t1058⟩, A50, H⟩ := H
 replace H : (some (t1057, t1058)) = some (r1, r2) := H
 have A5 := Aside0.mk A50
 clear A50
 simp only [Option.some.injEq, Prod.mk.injEq] at H
 obtain ⟨rfl, rfl⟩ := H
 go_enter Try.func77, Try.ntmps77
 try go_wp2_with (first | ((with_reducible refine gate_dst (N := 3) rfl ?_); refine box_event ?hg (N := 3) ?hd (cs := #[.int .i64 a1_0, .int .i64 a1_1]) (t := 56) ?hr ?_; (case hd => rfl); (case hg => rfl); (case hr => first | (go_simp; done) | (go_simp; rfl)); intro gb1049 hg w6 hbox hb; replace HB := bl_x HB hb; have BK1049 := Aside0.mk (hbox); have GW1049 := Aside0.mk ((by rw [hg]; exact (keep_size (w := w) (g := g) (row := none) (by exact keep_y HK.out)) : w.heap.size ≤ gb1049)); have GE1049 := Aside0.mk ((Nat.le_trans HW0.out (by rw [hg]; exact (keep_size (w := w) (g := g) (row := none) (by exact keep_y HK.out)) : w.heap.size ≤ gb1049) : w0.heap.size ≤ gb1049)); replace HK := Aside0.mk (KeepBut.trans (by exact keep_y HK.out) (KeepBut.of_below hb g none) (.inl rfl)); have NB0_1049 := Aside0.mk ((by rw [hg]; exact Nat.ne_of_lt (IsS90.lt (show IsS90 w0 _ g s0_0 from by exact IsS90.up HI0.out)) : g ≠ gb1049)); have NB1049_0 := Aside0.mk ((by rw [hg]; exact Nat.ne_of_gt (IsS90.lt (show IsS90 w0 _ g s0_0 from by exact IsS90.up HI0.out)) : gb1049 ≠ g)); replace HI0 := Aside0.mk (IsS90.below (by exact IsS90.up HI0.out) hb); clear hb hbox hg))
 replace BK1049 := Aside0.mk (blk_drew BK1049.out)
 replace HI0 := Aside0.mk (IsS90.drew HI0.out)
 replace HK := Aside0.mk (keep_drew HK.out)
 replace HB := Aside0.mk (below_drew1 HB.out)
 refine start_ (n := 20) (S := fun w' => w'.cell? ⟨gb1049, 0, none⟩ = some (.int .i64 a1_0) ∧ w'.cell? ⟨gb1049, 1, none⟩ = some (.int .i64 a1_1)) (ds := []) #[false, false, false, false, false, false, false, false, false, false, false, false, false, false, false, false, false, false, false, false] (by kernel_rfl) rfl rfl ⟨(blk_cell BK1049.out 0).trans rfl, (blk_cell BK1049.out 1).trans rfl⟩ (fun hHeld => ?_); refine with_tabW swarfkit_Feed_In.tab1 swarfkit_Feed_In.bits1 (fun HT_ HW_ => ?_)
 generalize w6.drew = w7 at BK1049 HI0 HK HB hHeld ⊢
 refine pure_t 0 (some 5) (bz 20 1) HT_ ?_
 refine pure_t 1 (some 6) (bz 20 3) HT_ ?_
 refine pure_t 3 (some 8) (bz 20 11) HT_ ?_
 refine pure_t 5 (some 10) (bz 20 43) HT_ ?_
 refine pure_t 6 (some 11) (bz 20 107) HT_ ?_
 refine pure_t 8 (some 13) (bz 20 363) HT_ ?_
 refine pure_t 11 (some 16) (bz 20 2411) HT_ ?_
 refine pure_t 12 (some 17) (bz 20 6507) HT_ ?_
 refine pure_t 14 (some 19) (bz 20 22891) HT_ ?_
 refine take_ (i := 2) (N := some 7) (v := ?_) (a' := ?_) (bz 20 22895) rfl rfl (take_ofW HT_.out HW_.out (by kernel_rfl)) (fun _ _ _ h => h) (Or.inl ⟨by rfl, ?_⟩) hHeld ?_ ?_
 rotate_left; (rintro w' ⟨s0, s1⟩; go_simp; with_reducible rfl); rotate_left; (simp only [Act.put, put_x, i64_w, i32_w]; rfl)
 refine take_ (i := 4) (N := some 9) (v := ?_) (a' := ?_) (bz 20 22911) rfl rfl (take_ofW HT_.out HW_.out (by kernel_rfl)) (fun _ _ _ h => h) (Or.inl ⟨by rfl, ?_⟩) hHeld ?_ ?_
 rotate_left; (rintro w' ⟨s0, s1⟩; go_simp; with_reducible rfl); rotate_left; (simp only [Act.put, put_x, i64_w, i32_w]; rfl)
 refine take_ (i := 7) (N := some 12) (v := ?_) (a' := ?_) (bz 20 23039) rfl rfl (take_ofW HT_.out HW_.out (by kernel_rfl)) (fun _ _ _ h => h) (Or.inl ⟨by rfl, ?_⟩) hHeld ?_ ?_
 rotate_left; (rintro w' ⟨s0, s1⟩; go_simp; with_reducible rfl); rotate_left; (simp only [Act.put, put_x, i64_w, i32_w]; rfl)
 refine take_ (i := 9) (N := some 14) (v := ?_) (a' := ?_) (bz 20 23551) rfl rfl (take_ofW HT_.out HW_.out (by kernel_rfl)) (fun _ _ _ h => h) (Or.inl ⟨by rfl, ?_⟩) hHeld ?_ ?_
 rotate_left; (rintro w' ⟨s0, s1⟩; go_simp; with_reducible rfl); rotate_left; (simp only [Act.put, put_x, i64_w, i32_w]; rfl)
 refine take_ (i := 13) (N := some 18) (v := ?_) (a' := ?_) (bz 20 31743) rfl rfl (take_ofW HT_.out HW_.out (by kernel_rfl)) (fun _ _ _ h => h) (Or.inl ⟨by rfl, ?_⟩) hHeld ?_ ?_
 rotate_left; (rintro w' ⟨s0, s1⟩; go_simp; with_reducible rfl); rotate_left; (simp only [Act.put, put_x, i64_w, i32_w]; rfl)
 refine take_ (i := 15) (N := some 20) (v := ?_) (a' := ?_) (bz 20 64511) rfl rfl (take_ofW HT_.out HW_.out (by kernel_rfl)) (fun _ _ _ h => h) (Or.inl ⟨by rfl, ?_⟩) hHeld ?_ ?_
 rotate_left; (rintro w' ⟨s0, s1⟩; go_simp; with_reducible rfl); rotate_left; (simp only [Act.put, put_x, i64_w, i32_w]; rfl)
 refine one_ (i := 10) (N := some 15) (bz 20 65535) rfl rfl (one_of HT_.out (by kernel_rfl)) (by decide) (fun K hK => ?_)
 refine goes_ Try.func31 (by kernel_rfl) rfl #[.pointer (some ⟨g, 0, none⟩), .int .i64 a1_0, .int .i64 a1_1] (by rfl) rfl rfl (by (try simp only [List.map_toArray, List.map_cons, List.map_nil]); first | done | rfl | (simp only [List.length_drop, List.length_take]; rfl)) ?_
 with_reducible refine (swarfkit_Feed_Between.calls g s0_0 a1_0 a1_1 t1050 t1051 w0 _ ?side1 ?side2 A3.out).mono ?_
 (case side1 => exact IsS90.up HI0.out)
 (case side2 => exact below_y HB.out)
 rintro e w8 ⟨rfl, hi, hb, hk⟩
 refine ⟨_, rfl, ?_⟩
 replace BK1049 := Aside0.mk (KeepBut.blk hk (blk_x BK1049.out) NB1049_0.out (by simp))
 replace HK := Aside0.mk (KeepBut.trans (by exact keep_y HK.out) hk (.inl rfl))
 replace HB := Aside0.mk (hb)
 replace HI0 := Aside0.mk (hi)
 (try clear hb)
 (try clear hb2)
 (try clear hk)
 (try clear hi)
 refine hK.out _ _ ⟨(blk_cell BK1049.out 0).trans rfl, (blk_cell BK1049.out 1).trans rfl⟩ (fun hHeld => ?_)
 clear hK K
 refine norm_ (a' := ?_) ?_ ?_; rotate_left; (show Act.put _ (some 15) _ = _; simp only [Act.put, put_x, i64_w, i32_w]; rfl)
 refine one_ (i := 16) (N := some 21) (bz 20 131071) rfl rfl (one_of HT_.out (by kernel_rfl)) (by decide) (fun K hK => ?_)
 refine goes_ Try.func31 (by kernel_rfl) rfl #[.pointer (some ⟨g, 0, none⟩), .int .i64 a1_0, .int .i64 a1_1] (by rfl) rfl rfl (by (try simp only [List.map_toArray, List.map_cons, List.map_nil]); first | done | rfl | (simp only [List.length_drop, List.length_take]; rfl)) ?_
 with_reducible refine (swarfkit_Feed_Between.calls g t1051 a1_0 a1_1 t1052 t1053 w0 _ ?side1 ?side2 A4.out).mono ?_
 (case side1 => exact IsS90.up HI0.out)
 (case side2 => exact below_y HB.out)
 rintro e w9 ⟨rfl, hi, hb, hk⟩
 refine ⟨_, rfl, ?_⟩
 replace BK1049 := Aside0.mk (KeepBut.blk hk (blk_x BK1049.out) NB1049_0.out (by simp))
 replace HK := Aside0.mk (KeepBut.trans (by exact keep_y HK.out) hk (.inl rfl))
 replace HB := Aside0.mk (hb)
 replace HI0 := Aside0.mk (hi)
 (try clear hb)
 (try clear hb2)
 (try clear hk)
 (try clear hi)
 refine hK.out _ _ ⟨(blk_cell BK1049.out 0).trans rfl, (blk_cell BK1049.out 1).trans rfl⟩ (fun hHeld => ?_)
 clear hK K
 refine norm_ (a' := ?_) ?_ ?_; rotate_left; (show Act.put _ (some 21) _ = _; simp only [Act.put, put_x, i64_w, i32_w]; rfl)
 refine one_ (i := 17) (N := some 22) (bz 20 262143) rfl rfl (one_of HT_.out (by kernel_rfl)) (by decide) (fun K hK => ?_)
 refine Kd.R_lit_step (Kd.int .i64) _ 3 ?hg (N := 22) ?hd (xs := ([a1_0, a1_1, t1050, t1052] : List Int)) (inner := [.int .i64 a1_0, .int .i64 a1_1, .int .i64 t1050, .int .i64 t1052]) (ok := fun _ => True) (okp := fun _ => True) ?hr ?hp (fun _ hk => hk) trivial (Below.refl _ _) (Nat.le_refl _) (by simp) ?_; (case hd => rfl); (case hg => rfl); (case hr => first | (go_simp; done) | (go_simp; rfl)); (case hp => exact (Reps.one (show Kd.M (Kd.int .i64) _ _ _ a1_0 [.int .i64 a1_0] from rfl) (Reps.one (show Kd.M (Kd.int .i64) _ _ _ a1_1 [.int .i64 a1_1] from rfl) (Reps.one (show Kd.M (Kd.int .i64) _ _ _ t1050 [.int .i64 t1050] from rfl) (Reps.one (show Kd.M (Kd.int .i64) _ _ _ t1052 [.int .i64 t1052] from rfl) (Reps.none _ _))))))
 intro v1055 w10 ho11 hb hg_ hnew_
 clear hg_ hnew_
 (first | rw [← Ny1054.out] at ho11 | (simp only [Int.reduceToNat] at ho11; rw [← Ny1054.out] at ho11))
 have HO1056 := Aside0.mk (Kd.R_lower ho11 (keep_size (w := w) (g := g) (row := none) (by exact keep_y HK.out)))
 replace HI0 := Aside0.mk (IsS90.below (by exact IsS90.up HI0.out) hb)
 replace BK1049 := Aside0.mk (blk_below (blk_x BK1049.out) hb)
 replace HK := Aside0.mk (KeepBut.trans (by exact keep_y HK.out) (KeepBut.of_below hb g none) (.inl rfl))
 replace HB := bl_x HB hb
 clear hb ho11
 obtain ⟨Ao12, co12, eo12⟩ := Kd.R_slice HO1056.out
 (first | subst eo12 | (injection eo12 with f1_ f2_ f3_; have f4_ := f1_.symm; have f5_ := f3_.symm; clear f1_ f2_ f3_; subst f4_; subst f5_))
 refine hK.out _ _ ⟨(blk_cell BK1049.out 0).trans rfl, (blk_cell BK1049.out 1).trans rfl⟩ (fun hHeld => ?_)
 clear hK K
 refine norm_ (a' := ?_) ?_ ?_; rotate_left; (show Act.put _ (some 22) _ = _; simp only [Act.put, put_x, i64_w, i32_w]; rfl)
 refine one_ (i := 18) (N := some 23) (bz 20 524287) rfl rfl (one_of HT_.out (by kernel_rfl)) (by decide) (fun K hK => ?_)
 refine goes_ Try.func18 (by kernel_rfl) rfl #[.pointer (some ⟨g, 0, none⟩), .slice Ao12 y1054.length co12] (by rfl) rfl rfl (by (try simp only [List.map_toArray, List.map_cons, List.map_nil]); first | done | rfl | (simp only [List.length_drop, List.length_take]; rfl)) ?_
 with_reducible refine (swarfkit_Feed_Either.calls g t1053 _ _ y1054 t1057 t1058 w0 _ ?side1 ?side2 ?side3 ?side4 ?side5 A5.out).mono ?_
 (case side1 => exact IsS90.up HI0.out)
 (case side2 => exact below_y HB.out)
 (case side3 => exact Kd.C_y (Kd.R_reads' HO1056.out).2.2)
 (case side4 => exact (Kd.R_reads' HO1056.out).2.1)
 (case side5 => exact far_slice (IsS90.own_ne HI0.out HO1056.out (by decide)))
 rintro e w13 ⟨rfl, hi, hb, hk⟩
 refine ⟨_, rfl, ?_⟩
 replace BK1049 := Aside0.mk (KeepBut.blk hk (blk_x BK1049.out) NB1049_0.out (by simp))
 replace HO1056 := Aside0.mk (Kd.R_mono (Kd.R_keep (IsS90.apart (show IsS90 w0 _ g t1053 from by exact IsS90.up HI0.out) (Kd.R_x HO1056.out) (by decide)) hk (fun _ h => h.2)) (fun _ h => h.1))
 replace HK := Aside0.mk (KeepBut.trans (by exact keep_y HK.out) hk (.inl rfl))
 replace HB := Aside0.mk (hb)
 replace HI0 := Aside0.mk (hi)
 (try clear hb)
 (try clear hb2)
 (try clear hk)
 (try clear hi)
 refine hK.out _ _ ⟨(blk_cell BK1049.out 0).trans rfl, (blk_cell BK1049.out 1).trans rfl⟩ (fun hHeld => ?_)
 clear hK K
 refine norm_ (a' := ?_) ?_ ?_; rotate_left; (show Act.put _ (some 23) _ = _; simp only [Act.put, put_x, i64_w, i32_w]; rfl)
 refine pure_t 19 (some 4) (bz 20 1048575) HT_ ?_
 refine done_ (done_of HT_.out (by kernel_rfl)) ?_
 try go_wp2
 go_ret
 exact ⟨by first | rfl | (simp [errW_none, errW_some] <;> rfl) | (simp [*, errW_none, errW_some] <;> rfl), by exact IsS90.up HI0.out, by exact below_y HB.out, by exact keep_y HK.out⟩
def swarfkit_Feed_Tighter.f (s0_0 : Int) (a1_0 : Int) (a1_1 : Int) : Option (Int × Int × Int) := (swarfkit_Feed_In.f s0_0 a1_0 a1_1).bind fun bt1061 => ((swarfkit_Feed_Either.f bt1061.2 (([a1_0, bt1061.1] : List Int))).bind fun bt1066 => ((swarfkit_Feed_Between.f bt1066.2 bt1061.1 a1_1).bind fun bt1068 => ((swarfkit_Feed_Either.f bt1068.2 (([a1_1, bt1068.1] : List Int))).bind fun bt1073 => (some (bt1066.1, bt1073.1, bt1073.2)))))
def swarfkit_Feed_Tighter.T2 : Bool × List (List Nat × List Nat) := (true, [([], []), ([], []), ([1], [1]), ([], []), ([2, 3], [2, 3]), ([0, 4], [0, 4]), ([], []), ([], []), ([7], [7]), ([], []), ([], []), ([], []), ([11], [11]), ([9, 10, 12, 5], [9, 10, 12]), ([8, 13], [8, 13]), ([6, 14, 13], [6, 14]), ([5, 15], [5, 15]), ([16, 15, 0, 1, 2, 3, 4, 5, 6, 7, 8, 9, 10, 11, 12, 13, 14, 15, 16], [16])])
def swarfkit_Feed_Tighter.B2 : List Nat := [0, 0, 2, 0, 14, 31, 0, 0, 128, 0, 0, 0, 2048, 7743, 16319, 32767, 65535, 131071]
theorem swarfkit_Feed_Tighter.tab2 : rtab .any (opsOf Try.f48 2) = swarfkit_Feed_Tighter.T2 := by kernel_rfl
theorem swarfkit_Feed_Tighter.bits2 : waitsOk swarfkit_Feed_Tighter.T2.2 swarfkit_Feed_Tighter.B2 = true := by kernel_rfl
set_option maxHeartbeats 8000000 in
set_option maxRecDepth 100000 in
theorem swarfkit_Feed_Tighter.calls (g : Nat) (s0_0 : Int) (a1_0 : Int) (a1_1 : Int) (r1 : Int) (r2 : Int) (r3 : Int) (w0 w : World) (hI : IsS90 w0 w g s0_0) (hB : Below w0.heap.size w0 w) (h : swarfkit_Feed_Tighter.f s0_0 a1_0 a1_1 = some (r1, r2, r3)) :
  Calls Try.prog 48 #[.pointer (some ⟨g, 0, none⟩), .agg #[.int .i64 a1_0, .int .i64 a1_1]] w fun e w' => e = .returned (.agg #[.int .i64 r1, .int .i64 r2]) ∧ IsS90 w0 w' g r3 ∧ Below w0.heap.size w0 w' ∧ KeepBut w w' g none := by
 have hu56 := Try.underlying56
 have HI0 := Aside0.mk hI
 have HK := Aside0.mk (KeepBut.refl w g none)
 have HL := Aside0.mk hB.size
 clear hI
 have HW0 := Aside0.mk hB.size
 have HB := Aside0.mk hB
 clear hB
 have H : ((swarfkit_Feed_In.f s0_0 a1_0 a1_1).bind fun bt1061 => ((swarfkit_Feed_Either.f bt1061.2 (([a1_0, bt1061.1] : List Int))).bind fun bt1066 => ((swarfkit_Feed_Between.f bt1066.2 bt1061.1 a1_1).bind fun bt1068 => ((swarfkit_Feed_Either.f bt1068.2 (([a1_1, bt1068.1] : List Int))).bind fun bt1073 => (some (bt1066.1, bt1073.1, bt1073.2)))))) = some (r1, r2, r3) := h
 clear h
 replace H := Option.bind_eq_some_iff.mp H
 obtain ⟨⟨t1061, t1062⟩, A30, H⟩ := H
 try dsimp only at H
 have A3 := Aside0.mk A30
 clear A30
 obtain ⟨y1063, hy1063⟩ : ∃ y_ : List Int, y_ = (([a1_0, t1061] : List Int)) := ⟨_, rfl⟩
 replace H : ((swarfkit_Feed_Either.f t1062 y1063).bind fun bt1066 => ((swarfkit_Feed_Between.f bt1066.2 t1061 a1_1).bind fun bt1068 => ((swarfkit_Feed_Either.f bt1068.2 (([a1_1, bt1068.1] : List Int))).bind fun bt1073 => (some (bt1066.1, bt1073.1, bt1073.2))))) = some (r1, r2, r3) := by first | (rw [hy1063]; with_reducible exact H) | (have H2_ := (Option.bind_some _ _).symm.trans H; rw [hy1063]; with_reducible exact H2_) | (have H2_ := (Option.bind_some _ _).symm.trans H; with_reducible exact H2_) | with_reducible exact H | (rw [hy1063]; exact H) | exact H
 have Ny1063 := Aside0.mk hy1063
 clear hy1063
 replace H := Option.bind_eq_some_iff.mp H
 obtain ⟨⟨t1066, t1067⟩, A40, H⟩ := H
 try dsimp only at H
 have A4 := Aside0.mk A40
 clear A40
 replace H := Option.bind_eq_some_iff.mp H
 obtain ⟨⟨t1068, t1069⟩, A50, H⟩ := H
 try dsimp only at H
 have A5 := Aside0.mk A50
 clear A50
 obtain ⟨y1070, hy1070⟩ : ∃ y_ : List Int, y_ = (([a1_1, t1068] : List Int)) := ⟨_, rfl⟩
 replace H : ((swarfkit_Feed_Either.f t1069 y1070).bind fun bt1073 => (some (t1066, bt1073.1, bt1073.2))) = some (r1, r2, r3) := by first | (rw [hy1070]; with_reducible exact H) | (have H2_ := (Option.bind_some _ _).symm.trans H; rw [hy1070]; with_reducible exact H2_) | (have H2_ := (Option.bind_some _ _).symm.trans H; with_reducible exact H2_) | with_reducible exact H | (rw [hy1070]; exact H) | exact H
 have Ny1070 := Aside0.mk hy1070
 clear hy1070
 replace H := Option.bind_eq_some_iff.mp H
 obtain ⟨⟨t1073, t1074⟩, A60, H⟩ := H
 replace H : (some (t1066, t1073, t1074)) = some (r1, r2, r3) := H
 have A6 := Aside0.mk A60
 clear A60
 simp only [Option.some.injEq, Prod.mk.injEq] at H
 obtain ⟨rfl, rfl, rfl⟩ := H
 go_enter Try.func48, Try.ntmps48
 try go_wp2_with (first | ((with_reducible refine gate_dst (N := 3) rfl ?_); refine box_event ?hg (N := 3) ?hd (cs := #[.int .i64 a1_0, .int .i64 a1_1]) (t := 56) ?hr ?_; (case hd => rfl); (case hg => rfl); (case hr => first | (go_simp; done) | (go_simp; rfl)); intro gb1059 hg w7 hbox hb; replace HB := bl_x HB hb; have BK1059 := Aside0.mk (hbox); have GW1059 := Aside0.mk ((by rw [hg]; exact (keep_size (w := w) (g := g) (row := none) (by exact keep_y HK.out)) : w.heap.size ≤ gb1059)); have GE1059 := Aside0.mk ((Nat.le_trans HW0.out (by rw [hg]; exact (keep_size (w := w) (g := g) (row := none) (by exact keep_y HK.out)) : w.heap.size ≤ gb1059) : w0.heap.size ≤ gb1059)); replace HK := Aside0.mk (KeepBut.trans (by exact keep_y HK.out) (KeepBut.of_below hb g none) (.inl rfl)); have NB0_1059 := Aside0.mk ((by rw [hg]; exact Nat.ne_of_lt (IsS90.lt (show IsS90 w0 _ g s0_0 from by exact IsS90.up HI0.out)) : g ≠ gb1059)); have NB1059_0 := Aside0.mk ((by rw [hg]; exact Nat.ne_of_gt (IsS90.lt (show IsS90 w0 _ g s0_0 from by exact IsS90.up HI0.out)) : gb1059 ≠ g)); replace HI0 := Aside0.mk (IsS90.below (by exact IsS90.up HI0.out) hb); clear hb hbox hg) | ((with_reducible refine gate_dst (N := 4) rfl ?_); refine box_event ?hg (N := 4) ?hd (cs := #[.int .i64 0, .int .i64 0]) (t := 56) ?hr ?_; (case hd => rfl); (case hg => rfl); (case hr => first | (go_simp; done) | (go_simp; rfl)); intro gb1060 hg w8 hbox hb; replace HB := bl_x HB hb; have BK1060 := Aside0.mk (hbox); have GW1060 := Aside0.mk ((by rw [hg]; exact (keep_size (w := w) (g := g) (row := none) (by exact keep_y HK.out)) : w.heap.size ≤ gb1060)); have GE1060 := Aside0.mk ((Nat.le_trans HW0.out (by rw [hg]; exact (keep_size (w := w) (g := g) (row := none) (by exact keep_y HK.out)) : w.heap.size ≤ gb1060) : w0.heap.size ≤ gb1060)); replace HK := Aside0.mk (KeepBut.trans (by exact keep_y HK.out) (KeepBut.of_below hb g none) (.inl rfl)); have NB1059_1060 := Aside0.mk ((by rw [hg]; exact Nat.ne_of_lt (blk_lt (g := gb1059) (o := .cells #[.int .i64 a1_0, .int .i64 a1_1] 56 (0, 0)) (blk_x BK1059.out)) : gb1059 ≠ gb1060)); have NB1060_1059 := Aside0.mk ((by rw [hg]; exact Nat.ne_of_gt (blk_lt (g := gb1059) (o := .cells #[.int .i64 a1_0, .int .i64 a1_1] 56 (0, 0)) (blk_x BK1059.out)) : gb1060 ≠ gb1059)); replace BK1059 := Aside0.mk (blk_below (blk_x BK1059.out) hb); have NB0_1060 := Aside0.mk ((by rw [hg]; exact Nat.ne_of_lt (IsS90.lt (show IsS90 w0 _ g s0_0 from by exact IsS90.up HI0.out)) : g ≠ gb1060)); have NB1060_0 := Aside0.mk ((by rw [hg]; exact Nat.ne_of_gt (IsS90.lt (show IsS90 w0 _ g s0_0 from by exact IsS90.up HI0.out)) : gb1060 ≠ g)); replace HI0 := Aside0.mk (IsS90.below (by exact IsS90.up HI0.out) hb); clear hb hbox hg; have hnb9 := NB1059_1060.out; have hnc9 := NB1060_1059.out; have hnb10 := NB1059_0.out; have hnc10 := NB0_1059.out; obtain ⟨_, _⟩ := cz2 BK1059; have hfz11_0 := blk_frozen BK1059.out) | ((with_reducible refine gate_callee (f := 77) rfl ?_); refine goesL_ (some 8) rfl rfl Try.func77 (by kernel_rfl) rfl #[.pointer (some ⟨g, 0, none⟩), .agg #[.int .i64 a1_0, .int .i64 a1_1]] rfl (by (try simp only [List.map_toArray, List.map_cons, List.map_nil]); first | done | rfl | (simp only [List.length_drop, List.length_take]; rfl)) ?_; (with_reducible refine (swarfkit_Feed_In.calls g s0_0 a1_0 a1_1 t1061 t1062 w0 _ ?side1 ?side2 A3.out).mono ?_); (case side1 => exact IsS90.up HI0.out); (case side2 => exact below_y HB.out); rintro e w12 ⟨rfl, hi, hb, hk⟩; refine ⟨_, rfl, ?_⟩; replace BK1059 := Aside0.mk (KeepBut.blk hk (blk_x BK1059.out) NB1059_0.out (by simp)); replace BK1060 := Aside0.mk (KeepBut.blk hk (blk_x BK1060.out) NB1060_0.out (by simp)); replace HK := Aside0.mk (KeepBut.trans (by exact keep_y HK.out) hk (.inl rfl)); replace HB := Aside0.mk (hb); replace HI0 := Aside0.mk (hi); (try clear hb); (try clear hk); (try clear hi)))
 replace BK1059 := Aside0.mk (blk_drew BK1059.out)
 replace BK1060 := Aside0.mk (blk_drew BK1060.out)
 replace HI0 := Aside0.mk (IsS90.drew HI0.out)
 replace HK := Aside0.mk (keep_drew HK.out)
 replace HB := Aside0.mk (below_drew1 HB.out)
 refine start_ (n := 18) (S := fun w' => w'.cell? ⟨gb1059, 0, none⟩ = some (.int .i64 a1_0) ∧ w'.cell? ⟨gb1059, 1, none⟩ = some (.int .i64 a1_1)) (ds := []) #[false, false, false, false, false, false, false, false, false, false, false, false, false, false, false, false, false, false] (by kernel_rfl) rfl rfl ⟨(blk_cell BK1059.out 0).trans rfl, (blk_cell BK1059.out 1).trans rfl⟩ (fun hHeld => ?_); refine with_tabW swarfkit_Feed_Tighter.tab2 swarfkit_Feed_Tighter.bits2 (fun HT_ HW_ => ?_)
 generalize w12.drew = w13 at BK1059 BK1060 HI0 HK HB hHeld ⊢
 refine pure_t 0 (some 9) (bz 18 1) HT_ ?_
 refine pure_t 1 (some 10) (bz 18 3) HT_ ?_
 refine pure_t 3 (some 12) (bz 18 11) HT_ ?_
 refine pure_t 6 (some 15) (bz 18 75) HT_ ?_
 refine pure_t 7 (some 16) (bz 18 203) HT_ ?_
 refine pure_t 9 (some 18) (bz 18 715) HT_ ?_
 refine pure_t 10 (some 19) (bz 18 1739) HT_ ?_
 refine pure_t 11 (some 20) (bz 18 3787) HT_ ?_
 refine take_ (i := 2) (N := some 11) (v := ?_) (a' := ?_) (bz 18 3791) rfl rfl (take_ofW HT_.out HW_.out (by kernel_rfl)) (fun _ _ _ h => h) (Or.inl ⟨by rfl, ?_⟩) hHeld ?_ ?_
 rotate_left; (rintro w' ⟨s0, s1⟩; go_simp; with_reducible rfl); rotate_left; (simp only [Act.put, put_x, i64_w, i32_w]; rfl)
 refine take_ (i := 8) (N := some 17) (v := ?_) (a' := ?_) (bz 18 4047) rfl rfl (take_ofW HT_.out HW_.out (by kernel_rfl)) (fun _ _ _ h => h) (Or.inl ⟨by rfl, ?_⟩) hHeld ?_ ?_
 rotate_left; (rintro w' ⟨s0, s1⟩; go_simp; with_reducible rfl); rotate_left; (simp only [Act.put, put_x, i64_w, i32_w]; rfl)
 refine take_ (i := 12) (N := some 21) (v := ?_) (a' := ?_) (bz 18 8143) rfl rfl (take_ofW HT_.out HW_.out (by kernel_rfl)) (fun _ _ _ h => h) (Or.inl ⟨by rfl, ?_⟩) hHeld ?_ ?_
 rotate_left; (rintro w' ⟨s0, s1⟩; go_simp; with_reducible rfl); rotate_left; (simp only [Act.put, put_x, i64_w, i32_w]; rfl)
 refine one_ (i := 4) (N := some 13) (bz 18 8159) rfl rfl (one_of HT_.out (by kernel_rfl)) (by decide) (fun K hK => ?_)
 refine Kd.R_lit_step (Kd.int .i64) _ 3 ?hg (N := 13) ?hd (xs := ([a1_0, t1061] : List Int)) (inner := [.int .i64 a1_0, .int .i64 t1061]) (ok := fun _ => True) (okp := fun _ => True) ?hr ?hp (fun _ hk => hk) trivial (Below.refl _ _) (Nat.le_refl _) (by simp) ?_; (case hd => rfl); (case hg => rfl); (case hr => first | (go_simp; done) | (go_simp; rfl)); (case hp => exact (Reps.one (show Kd.M (Kd.int .i64) _ _ _ a1_0 [.int .i64 a1_0] from rfl) (Reps.one (show Kd.M (Kd.int .i64) _ _ _ t1061 [.int .i64 t1061] from rfl) (Reps.none _ _))))
 intro v1064 w14 ho15 hb hg_ hnew_
 clear hg_ hnew_
 (first | rw [← Ny1063.out] at ho15 | (simp only [Int.reduceToNat] at ho15; rw [← Ny1063.out] at ho15))
 have HO1065 := Aside0.mk (Kd.R_lower ho15 (keep_size (w := w) (g := g) (row := none) (by exact keep_y HK.out)))
 replace HI0 := Aside0.mk (IsS90.below (by exact IsS90.up HI0.out) hb)
 replace BK1059 := Aside0.mk (blk_below (blk_x BK1059.out) hb)
 replace BK1060 := Aside0.mk (blk_below (blk_x BK1060.out) hb)
 replace HK := Aside0.mk (KeepBut.trans (by exact keep_y HK.out) (KeepBut.of_below hb g none) (.inl rfl))
 replace HB := bl_x HB hb
 clear hb ho15
 obtain ⟨Ao16, co16, eo16⟩ := Kd.R_slice HO1065.out
 (first | subst eo16 | (injection eo16 with f1_ f2_ f3_; have f4_ := f1_.symm; have f5_ := f3_.symm; clear f1_ f2_ f3_; subst f4_; subst f5_))
 refine hK.out _ _ ⟨(blk_cell BK1059.out 0).trans rfl, (blk_cell BK1059.out 1).trans rfl⟩ (fun hHeld => ?_)
 clear hK K
 refine norm_ (a' := ?_) ?_ ?_; rotate_left; (show Act.put _ (some 13) _ = _; simp only [Act.put, put_x, i64_w, i32_w]; rfl)
 refine one_ (i := 5) (N := some 14) (bz 18 8191) rfl rfl (one_of HT_.out (by kernel_rfl)) (by decide) (fun K hK => ?_)
 refine goes_ Try.func18 (by kernel_rfl) rfl #[.pointer (some ⟨g, 0, none⟩), .slice Ao16 y1063.length co16] (by rfl) rfl rfl (by (try simp only [List.map_toArray, List.map_cons, List.map_nil]); first | done | rfl | (simp only [List.length_drop, List.length_take]; rfl)) ?_
 with_reducible refine (swarfkit_Feed_Either.calls g t1062 _ _ y1063 t1066 t1067 w0 _ ?side1 ?side2 ?side3 ?side4 ?side5 A4.out).mono ?_
 (case side1 => exact IsS90.up HI0.out)
 (case side2 => exact below_y HB.out)
 (case side3 => exact Kd.C_y (Kd.R_reads' HO1065.out).2.2)
 (case side4 => exact (Kd.R_reads' HO1065.out).2.1)
 (case side5 => exact far_slice (IsS90.own_ne HI0.out HO1065.out (by decide)))
 rintro e w17 ⟨rfl, hi, hb, hk⟩
 refine ⟨_, rfl, ?_⟩
 replace BK1059 := Aside0.mk (KeepBut.blk hk (blk_x BK1059.out) NB1059_0.out (by simp))
 replace BK1060 := Aside0.mk (KeepBut.blk hk (blk_x BK1060.out) NB1060_0.out (by simp))
 replace HO1065 := Aside0.mk (Kd.R_mono (Kd.R_keep (IsS90.apart (show IsS90 w0 _ g t1062 from by exact IsS90.up HI0.out) (Kd.R_x HO1065.out) (by decide)) hk (fun _ h => h.2)) (fun _ h => h.1))
 replace HK := Aside0.mk (KeepBut.trans (by exact keep_y HK.out) hk (.inl rfl))
 replace HB := Aside0.mk (hb)
 replace HI0 := Aside0.mk (hi)
 (try clear hb)
 (try clear hb2)
 (try clear hk)
 (try clear hi)
 refine hK.out _ _ ⟨(blk_cell BK1059.out 0).trans rfl, (blk_cell BK1059.out 1).trans rfl⟩ (fun hHeld => ?_)
 clear hK K
 refine norm_ (a' := ?_) ?_ ?_; rotate_left; (show Act.put _ (some 14) _ = _; simp only [Act.put, put_x, i64_w, i32_w]; rfl)
 refine one_ (i := 13) (N := some 22) (bz 18 16383) rfl rfl (one_of HT_.out (by kernel_rfl)) (by decide) (fun K hK => ?_)
 refine goes_ Try.func31 (by kernel_rfl) rfl #[.pointer (some ⟨g, 0, none⟩), .int .i64 t1061, .int .i64 a1_1] (by rfl) rfl rfl (by (try simp only [List.map_toArray, List.map_cons, List.map_nil]); first | done | rfl | (simp only [List.length_drop, List.length_take]; rfl)) ?_
 with_reducible refine (swarfkit_Feed_Between.calls g t1067 t1061 a1_1 t1068 t1069 w0 _ ?side1 ?side2 A5.out).mono ?_
 (case side1 => exact IsS90.up HI0.out)
 (case side2 => exact below_y HB.out)
 rintro e w18 ⟨rfl, hi, hb, hk⟩
 refine ⟨_, rfl, ?_⟩
 replace BK1059 := Aside0.mk (KeepBut.blk hk (blk_x BK1059.out) NB1059_0.out (by simp))
 replace BK1060 := Aside0.mk (KeepBut.blk hk (blk_x BK1060.out) NB1060_0.out (by simp))
 replace HO1065 := Aside0.mk (Kd.R_mono (Kd.R_keep (IsS90.apart (show IsS90 w0 _ g t1067 from by exact IsS90.up HI0.out) (Kd.R_x HO1065.out) (by decide)) hk (fun _ h => h.2)) (fun _ h => h.1))
 replace HK := Aside0.mk (KeepBut.trans (by exact keep_y HK.out) hk (.inl rfl))
 replace HB := Aside0.mk (hb)
 replace HI0 := Aside0.mk (hi)
 (try clear hb)
 (try clear hb2)
 (try clear hk)
 (try clear hi)
 refine hK.out _ _ ⟨(blk_cell BK1059.out 0).trans rfl, (blk_cell BK1059.out 1).trans rfl⟩ (fun hHeld => ?_)
 clear hK K
 refine norm_ (a' := ?_) ?_ ?_; rotate_left; (show Act.put _ (some 22) _ = _; simp only [Act.put, put_x, i64_w, i32_w]; rfl)
 refine one_ (i := 14) (N := some 23) (bz 18 32767) rfl rfl (one_of HT_.out (by kernel_rfl)) (by decide) (fun K hK => ?_)
 refine Kd.R_lit_step (Kd.int .i64) _ 3 ?hg (N := 23) ?hd (xs := ([a1_1, t1068] : List Int)) (inner := [.int .i64 a1_1, .int .i64 t1068]) (ok := fun _ => True) (okp := fun _ => True) ?hr ?hp (fun _ hk => hk) trivial (Below.refl _ _) (Nat.le_refl _) (by simp) ?_; (case hd => rfl); (case hg => rfl); (case hr => first | (go_simp; done) | (go_simp; rfl)); (case hp => exact (Reps.one (show Kd.M (Kd.int .i64) _ _ _ a1_1 [.int .i64 a1_1] from rfl) (Reps.one (show Kd.M (Kd.int .i64) _ _ _ t1068 [.int .i64 t1068] from rfl) (Reps.none _ _))))
 intro v1071 w19 ho20 hb hg_ hnew_
 clear hg_ hnew_
 (first | rw [← Ny1070.out] at ho20 | (simp only [Int.reduceToNat] at ho20; rw [← Ny1070.out] at ho20))
 have HO1072 := Aside0.mk (Kd.R_lower (Kd.R_new' ho20 (Kd.R_lt (Kd.R_x HO1065.out))) (keep_size (w := w) (g := g) (row := none) (by exact keep_y HK.out)))
 replace HO1065 := Aside0.mk (Kd.R_elder' (Kd.R_x HO1065.out) (Kd.R_base ho20) hb)
 replace HI0 := Aside0.mk (IsS90.below (by exact IsS90.up HI0.out) hb)
 replace BK1059 := Aside0.mk (blk_below (blk_x BK1059.out) hb)
 replace BK1060 := Aside0.mk (blk_below (blk_x BK1060.out) hb)
 replace HK := Aside0.mk (KeepBut.trans (by exact keep_y HK.out) (KeepBut.of_below hb g none) (.inl rfl))
 replace HB := bl_x HB hb
 clear hb ho20
 obtain ⟨Ao21, co21, eo21⟩ := Kd.R_slice HO1072.out
 (first | subst eo21 | (injection eo21 with f1_ f2_ f3_; have f4_ := f1_.symm; have f5_ := f3_.symm; clear f1_ f2_ f3_; subst f4_; subst f5_))
 refine hK.out _ _ ⟨(blk_cell BK1059.out 0).trans rfl, (blk_cell BK1059.out 1).trans rfl⟩ (fun hHeld => ?_)
 clear hK K
 refine norm_ (a' := ?_) ?_ ?_; rotate_left; (show Act.put _ (some 23) _ = _; simp only [Act.put, put_x, i64_w, i32_w]; rfl)
 refine one_ (i := 15) (N := some 24) (bz 18 65535) rfl rfl (one_of HT_.out (by kernel_rfl)) (by decide) (fun K hK => ?_)
 refine goes_ Try.func18 (by kernel_rfl) rfl #[.pointer (some ⟨g, 0, none⟩), .slice Ao21 y1070.length co21] (by rfl) rfl rfl (by (try simp only [List.map_toArray, List.map_cons, List.map_nil]); first | done | rfl | (simp only [List.length_drop, List.length_take]; rfl)) ?_
 with_reducible refine (swarfkit_Feed_Either.calls g t1069 _ _ y1070 t1073 t1074 w0 _ ?side1 ?side2 ?side3 ?side4 ?side5 A6.out).mono ?_
 (case side1 => exact IsS90.up HI0.out)
 (case side2 => exact below_y HB.out)
 (case side3 => exact Kd.C_y (Kd.R_reads' HO1072.out).2.2)
 (case side4 => exact (Kd.R_reads' HO1072.out).2.1)
 (case side5 => exact far_slice (IsS90.own_ne HI0.out HO1072.out (by decide)))
 rintro e w22 ⟨rfl, hi, hb, hk⟩
 refine ⟨_, rfl, ?_⟩
 replace BK1059 := Aside0.mk (KeepBut.blk hk (blk_x BK1059.out) NB1059_0.out (by simp))
 replace BK1060 := Aside0.mk (KeepBut.blk hk (blk_x BK1060.out) NB1060_0.out (by simp))
 replace HO1065 := Aside0.mk (Kd.R_mono (Kd.R_keep (IsS90.apart (show IsS90 w0 _ g t1069 from by exact IsS90.up HI0.out) (Kd.R_x HO1065.out) (by decide)) hk (fun _ h => h.2)) (fun _ h => h.1))
 replace HO1072 := Aside0.mk (Kd.R_mono (Kd.R_keep (IsS90.apart (show IsS90 w0 _ g t1069 from by exact IsS90.up HI0.out) (Kd.R_x HO1072.out) (by decide)) hk (fun _ h => h.2)) (fun _ h => h.1))
 replace HK := Aside0.mk (KeepBut.trans (by exact keep_y HK.out) hk (.inl rfl))
 replace HB := Aside0.mk (hb)
 replace HI0 := Aside0.mk (hi)
 (try clear hb)
 (try clear hb2)
 (try clear hk)
 (try clear hi)
 refine hK.out _ _ ⟨(blk_cell BK1059.out 0).trans rfl, (blk_cell BK1059.out 1).trans rfl⟩ (fun hHeld => ?_)
 clear hK K
 refine norm_ (a' := ?_) ?_ ?_; rotate_left; (show Act.put _ (some 24) _ = _; simp only [Act.put, put_x, i64_w, i32_w]; rfl)
 refine pure_t 16 (some 25) (bz 18 131071) HT_ ?_
 refine one_ (i := 17) (N := none) (bz 18 262143) rfl rfl (one_of HT_.out (by kernel_rfl)) (by decide) (fun K hK => ?_)
 have hs23 : w22.cell? ⟨gb1060, 0, none⟩ = some (.int .i64 0) := (blk_cell BK1060.out 0).trans rfl
 have hfs23 := blk_frozen BK1060.out 0
 have hns23_0 := NB1059_1060.out
 have hms23_0 := NB1060_1059.out
 have hs24 : w22.cell? ⟨gb1060, 1, none⟩ = some (.int .i64 0) := (blk_cell BK1060.out 1).trans rfl
 have hfs24 := blk_frozen BK1060.out 1
 have hns24_0 := NB1059_1060.out
 have hms24_0 := NB1060_1059.out
 refine skip_ (w1 := ?_) (by rfl) rfl ?_ ?_
 rotate_left
 ·
  go_simp
  rfl
 refine hK.out _ _ ⟨((cell_far (p := ⟨gb1060, _, none⟩) NB1059_1060.out _).trans (((cell_far (p := ⟨gb1060, _, none⟩) NB1059_1060.out _).trans (hHeld.1)))), ((cell_far (p := ⟨gb1060, _, none⟩) NB1059_1060.out _).trans (((cell_far (p := ⟨gb1060, _, none⟩) NB1059_1060.out _).trans (hHeld.2))))⟩ (fun hHeld => ?_)
 clear hK K
 refine done_ (done_of HT_.out (by kernel_rfl)) ?_
 try go_wp2
 refine bodyPost_ret (results_cell_row rfl _ _ gb1060 56 #[.int .i64 t1066, .int .i64 t1073] (0, 0) _ rfl (by (with_reducible repeat (first | refine blk_drewN ?_ _ | refine blk_drew ?_ | refine blk_alloc ?_ _)); refine blk_put (cs := #[.int .i64 t1066, .int .i64 0]) ?_ 1 _ rfl; (with_reducible repeat (first | refine blk_drewN ?_ _ | refine blk_drew ?_ | refine blk_alloc ?_ _)); refine blk_put (cs := #[.int .i64 0, .int .i64 0]) ?_ 0 _ rfl; (with_reducible repeat (first | refine blk_drewN ?_ _ | refine blk_drew ?_ | refine blk_alloc ?_ _)); exact BK1060.out) Try.underlying56 rfl (by kernel_rfl)) rfl ?_
 exact ⟨by first | rfl | (simp [errW_none, errW_some] <;> rfl) | (simp [*, errW_none, errW_some] <;> rfl), by exact IsS90.up HI0.out, by exact below_y HB.out, by exact keep_y HK.out⟩
def swarfkit_Part.f (a0_0 : Int) (a0_1 : Int) (a1_0 : Int) (a1_1 : Int) : Option (Bool) := if a0_0 ≥ a1_0 then (some (decide (a0_1 ≤ a1_1))) else (some false)
set_option maxHeartbeats 8000000 in
set_option maxRecDepth 100000 in
theorem swarfkit_Part.calls (a0_0 : Int) (a0_1 : Int) (a1_0 : Int) (a1_1 : Int) (r : Bool) (w : World) (h : swarfkit_Part.f a0_0 a0_1 a1_0 a1_1 = some r) :
  Calls Try.prog 49 #[.agg #[.int .i64 a0_0, .int .i64 a0_1], .agg #[.int .i64 a1_0, .int .i64 a1_1]] w fun e w' => e = .returned (.bool r) ∧ Below w.heap.size w w' := by
 have hu56 := Try.underlying56
 have HB := Aside0.mk (Below.refl w.heap.size w)
 have H : (if a0_0 ≥ a1_0 then (some (decide (a0_1 ≤ a1_1))) else (some false)) = some r := h
 clear h
 by_cases c3 : a0_0 ≥ a1_0
 ·
  rw [if_pos c3] at H
  have c3b0 : decide (a1_0 ≤ a0_0) = true := decide_eq_true c3
  clear c3
  obtain rfl := Option.some.inj H
  go_enter Try.func49, Try.ntmps49
  go_wp2_with (first | ((with_reducible refine gate_dst (N := 2) rfl ?_); refine box_event ?hg (N := 2) ?hd (cs := #[.int .i64 a0_0, .int .i64 a0_1]) (t := 56) ?hr ?_; (case hd => rfl); (case hg => rfl); (case hr => first | (go_simp; done) | (go_simp; rfl)); intro gb1075 hg w4 hbox hb; have BK1075 := Aside0.mk (hbox); have GW1075 := Aside0.mk ((by rw [hg]; exact (below_size (below_x HB.out)) : w.heap.size ≤ gb1075)); have GE1075 := Aside0.mk ((by rw [hg]; exact (below_size (below_x HB.out)) : w.heap.size ≤ gb1075)); replace HB := Aside0.mk (below_step (below_x HB.out) hb); clear hb hbox hg) | ((with_reducible refine gate_dst (N := 3) rfl ?_); refine box_event ?hg (N := 3) ?hd (cs := #[.int .i64 a1_0, .int .i64 a1_1]) (t := 56) ?hr ?_; (case hd => rfl); (case hg => rfl); (case hr => first | (go_simp; done) | (go_simp; rfl)); intro gb1076 hg w5 hbox hb; have BK1076 := Aside0.mk (hbox); have GW1076 := Aside0.mk ((by rw [hg]; exact (below_size (by exact below_y HB.out)) : w.heap.size ≤ gb1076)); have GE1076 := Aside0.mk ((by rw [hg]; exact (below_size (by exact below_y HB.out)) : w.heap.size ≤ gb1076)); replace HB := bl_x HB hb; have NB1075_1076 := Aside0.mk ((by rw [hg]; exact Nat.ne_of_lt (blk_lt (g := gb1075) (o := .cells #[.int .i64 a0_0, .int .i64 a0_1] 56 (0, 0)) (blk_x BK1075.out)) : gb1075 ≠ gb1076)); have NB1076_1075 := Aside0.mk ((by rw [hg]; exact Nat.ne_of_gt (blk_lt (g := gb1075) (o := .cells #[.int .i64 a0_0, .int .i64 a0_1] 56 (0, 0)) (blk_x BK1075.out)) : gb1076 ≠ gb1075)); replace BK1075 := Aside0.mk (blk_below (blk_x BK1075.out) hb); clear hb hbox hg; have hnb6 := NB1075_1076.out; have hnc6 := NB1076_1075.out; obtain ⟨_, _⟩ := cz2 BK1075; have hfz7_0 := blk_frozen BK1075.out; obtain ⟨_, _⟩ := cz2 BK1076; have hfz8_0 := blk_frozen BK1076.out))
  go_ret
  exact ⟨by first | rfl | (simp [errW_none, errW_some] <;> rfl) | (simp [*, errW_none, errW_some] <;> rfl), by exact below_y HB.out⟩
 ·
  rw [if_neg c3] at H
  have c3b0 : decide (a1_0 ≤ a0_0) = false := decide_eq_false c3
  clear c3
  obtain rfl := Option.some.inj H
  go_enter Try.func49, Try.ntmps49
  go_wp2_with (first | ((with_reducible refine gate_dst (N := 2) rfl ?_); refine box_event ?hg (N := 2) ?hd (cs := #[.int .i64 a0_0, .int .i64 a0_1]) (t := 56) ?hr ?_; (case hd => rfl); (case hg => rfl); (case hr => first | (go_simp; done) | (go_simp; rfl)); intro gb1075 hg w9 hbox hb; have BK1075 := Aside0.mk (hbox); have GW1075 := Aside0.mk ((by rw [hg]; exact (below_size (below_x HB.out)) : w.heap.size ≤ gb1075)); have GE1075 := Aside0.mk ((by rw [hg]; exact (below_size (below_x HB.out)) : w.heap.size ≤ gb1075)); replace HB := Aside0.mk (below_step (below_x HB.out) hb); clear hb hbox hg) | ((with_reducible refine gate_dst (N := 3) rfl ?_); refine box_event ?hg (N := 3) ?hd (cs := #[.int .i64 a1_0, .int .i64 a1_1]) (t := 56) ?hr ?_; (case hd => rfl); (case hg => rfl); (case hr => first | (go_simp; done) | (go_simp; rfl)); intro gb1076 hg w10 hbox hb; have BK1076 := Aside0.mk (hbox); have GW1076 := Aside0.mk ((by rw [hg]; exact (below_size (by exact below_y HB.out)) : w.heap.size ≤ gb1076)); have GE1076 := Aside0.mk ((by rw [hg]; exact (below_size (by exact below_y HB.out)) : w.heap.size ≤ gb1076)); replace HB := bl_x HB hb; have NB1075_1076 := Aside0.mk ((by rw [hg]; exact Nat.ne_of_lt (blk_lt (g := gb1075) (o := .cells #[.int .i64 a0_0, .int .i64 a0_1] 56 (0, 0)) (blk_x BK1075.out)) : gb1075 ≠ gb1076)); have NB1076_1075 := Aside0.mk ((by rw [hg]; exact Nat.ne_of_gt (blk_lt (g := gb1075) (o := .cells #[.int .i64 a0_0, .int .i64 a0_1] 56 (0, 0)) (blk_x BK1075.out)) : gb1076 ≠ gb1075)); replace BK1075 := Aside0.mk (blk_below (blk_x BK1075.out) hb); clear hb hbox hg; have hnb11 := NB1075_1076.out; have hnc11 := NB1076_1075.out; obtain ⟨_, _⟩ := cz2 BK1075; have hfz12_0 := blk_frozen BK1075.out; obtain ⟨_, _⟩ := cz2 BK1076; have hfz13_0 := blk_frozen BK1076.out))
  go_ret
  exact ⟨by first | rfl | (simp [errW_none, errW_some] <;> rfl) | (simp [*, errW_none, errW_some] <;> rfl), by exact below_y HB.out⟩
end Go.Proofs.Ytodmemndaaiolaa.PC7
namespace Go.Proofs.Ytodmemndaaiolaa.PC7
set_option linter.unusedVariables false
set_option linter.unusedSimpArgs false
open Go.RowKit Go.Proofs.YtodmemndaaiolaaW.PrintWords Go.Proofs.YtodmemndaaiolaaW.PrintLast Go.Proofs.YtodmemndaaiolaaW.PrintMore
theorem in10_ok (s lo hi : Int) (h : lo ≤ hi) (h0 : 0 ≤ lo) (h1 : hi ≤ 1000000) : ∃ r s', swarfkit_Feed_In.f s lo hi = some (r, s') ∧ lo ≤ r ∧ r ≤ hi := by
  obtain ⟨x, s1, e1, x1, x2⟩ := between_ok s lo hi h (by omega) h1
  obtain ⟨y, s2, e2, y1, y2⟩ := between_ok s1 lo hi h (by omega) h1
  obtain ⟨z, s3, e3, hz⟩ := either_ok s2 [lo, hi, x, y] (by simp) (show 4 ≤ 1000 by decide)
  refine ⟨z, s3, ?_, ?_⟩
  · unfold swarfkit_Feed_In.f
    refine Option.bind_eq_some_iff.2 ⟨_, e1, ?_⟩
    refine Option.bind_eq_some_iff.2 ⟨_, e2, ?_⟩
    exact Option.bind_eq_some_iff.2 ⟨_, e3, rfl⟩
  · simp only [List.mem_cons, List.not_mem_nil, or_false] at hz
    rcases hz with e | e | e | e <;> omega
theorem tighter_ok (s lo hi : Int) (h : lo ≤ hi) (h0 : 0 ≤ lo) (h1 : hi ≤ 1000000) : ∃ a b s', swarfkit_Feed_Tighter.f s lo hi = some (a, b, s') ∧ lo ≤ a ∧ a ≤ b ∧ b ≤ hi := by
  obtain ⟨x, s1, e1, x1, x2⟩ := in10_ok s lo hi h h0 h1
  obtain ⟨a, s2, e2, ha⟩ := either_ok s1 [lo, x] (by simp) (show 2 ≤ 1000 by decide)
  obtain ⟨y, s3, e3, y1, y2⟩ := between_ok s2 x hi x2 (by omega) h1
  obtain ⟨b, s4, e4, hb⟩ := either_ok s3 [hi, y] (by simp) (show 2 ≤ 1000 by decide)
  refine ⟨a, b, s4, ?_, ?_⟩
  · unfold swarfkit_Feed_Tighter.f
    refine Option.bind_eq_some_iff.2 ⟨_, e1, ?_⟩
    refine Option.bind_eq_some_iff.2 ⟨_, e2, ?_⟩
    refine Option.bind_eq_some_iff.2 ⟨_, e3, ?_⟩
    exact Option.bind_eq_some_iff.2 ⟨_, e4, rfl⟩
  · simp only [List.mem_cons, List.not_mem_nil, or_false] at ha hb
    rcases ha with e | e <;> rcases hb with e' | e' <;> omega
def NarA (l m : List S79) : Prop := m.length = l.length ∧ ∀ i, (l.getD i z79).f0.f0 ≤ (m.getD i z79).f0.f0 ∧ (m.getD i z79).f0.f0 ≤ (m.getD i z79).f0.f1 ∧ (m.getD i z79).f0.f1 ≤ (l.getD i z79).f0.f1 ∧ (m.getD i z79).f1 = (l.getD i z79).f1
def NarL : List S62 → List S62 → Prop
  | [], [] => True
  | a :: l, b :: m => (b.f0 = a.f0 ∧ a.f1.f0 ≤ b.f1.f0 ∧ b.f1.f0 ≤ b.f1.f1 ∧ b.f1.f1 ≤ a.f1.f1) ∧ NarL l m
  | _, _ => False
def NarS : List S59 → List S59 → Prop
  | [], [] => True
  | a :: l, b :: m => (a.f0.f0 ≤ b.f0.f0 ∧ b.f0.f0 ≤ b.f0.f1 ∧ b.f0.f1 ≤ a.f0.f1 ∧ NarL a.f1 b.f1) ∧ NarS l m
  | _, _ => False
theorem narL_len : ∀ {l m : List S62}, NarL l m → m.length = l.length
  | [], [], _ => rfl
  | _ :: l, _ :: m, h => by simp [narL_len h.2]
  | [], _ :: _, h => h.elim
  | _ :: _, [], h => h.elim
theorem narS_len : ∀ {l m : List S59}, NarS l m → m.length = l.length
  | [], [], _ => rfl
  | _ :: l, _ :: m, h => by simp [narS_len h.2]
  | [], _ :: _, h => h.elim
  | _ :: _, [], h => h.elim
theorem narL_at : ∀ (l m : List S62), NarL l m → ∀ i, i < l.length → (m.getD i z62).f0 = (l.getD i z62).f0 ∧ (l.getD i z62).f1.f0 ≤ (m.getD i z62).f1.f0 ∧ (m.getD i z62).f1.f0 ≤ (m.getD i z62).f1.f1 ∧ (m.getD i z62).f1.f1 ≤ (l.getD i z62).f1.f1
  | [], [], _, i, hi => by simp at hi
  | _ :: l, _ :: m, h, 0, _ => h.1
  | _ :: l, _ :: m, h, i + 1, hi => by simpa using narL_at l m h.2 i (by simpa using hi)
  | [], _ :: _, h, _, _ => h.elim
  | _ :: _, [], h, _, _ => h.elim
theorem sillV_nar {T : Int} : ∀ (ss xs : List S59), NarS ss xs → (∀ x, x ∈ ss → SillV T x) → ∀ x, x ∈ xs → SillV T x
  | [], [], _, _, x, hx => by cases hx
  | a :: l, b :: m, h, hs, x, hx => by
    rcases List.mem_cons.1 hx with rfl | hx
    · obtain ⟨h1, h2, h3, h4, h5, fr, hl⟩ := hs a (by simp)
      obtain ⟨k1, k2, k3, k5⟩ := h.1
      have hlen := narL_len k5
      refine ⟨by omega, by omega, by omega, by omega, by omega, fr, fun i hi => ?_, fun i hi => ?_, fun hi => ?_, fun hi => hl.first (by omega), by have := hl.lim; omega⟩
      · obtain ⟨d1, d2, d3, d4⟩ := narL_at _ _ k5 i (by omega)
        have := hl.bd i (by omega)
        rw [d1]; omega
      · obtain ⟨d1, _⟩ := narL_at _ _ k5 i (by omega)
        obtain ⟨d2, _⟩ := narL_at _ _ k5 (i + 1) (by omega)
        rw [d1, d2]; exact hl.up i (by omega)
      · obtain ⟨d1, _⟩ := narL_at _ _ k5 0 (by omega)
        rw [d1]; exact hl.zero (by omega)
    · exact sillV_nar l m h.2 (fun y hy => hs y (List.mem_cons_of_mem _ hy)) x hx
  | [], _ :: _, h, _, _, _ => h.elim
  | _ :: _, [], h, _, _, _ => h.elim
theorem dep_nar (t : Int) : ∀ (l m : List S62), NarL l m → dep (l.map fun x => (x.f0, waterOf false x)) t ≤ dep (m.map fun x => (x.f0, waterOf false x)) t ∧ dep (m.map fun x => (x.f0, waterOf true x)) t ≤ dep (l.map fun x => (x.f0, waterOf true x)) t
  | [], [], _ => ⟨Int.le_refl _, Int.le_refl _⟩
  | [a], [b], h => by obtain ⟨_, h2, h3, h4⟩ := h.1; simp [dep, waterOf]; omega
  | a :: a2 :: l, b :: b2 :: m, h => by
    have ih := dep_nar t (a2 :: l) (b2 :: m) h.2
    obtain ⟨_, h2, h3, h4⟩ := h.1
    obtain ⟨e2, _⟩ := h.2.1
    simp only [List.map_cons] at ih
    simp only [List.map_cons, dep, e2]
    by_cases c : a2.f0 ≤ t
    · simp only [if_pos c]; rw [e2] at ih; exact ih
    · simp only [if_neg c]; simp [waterOf]; omega
  | [a], b :: b2 :: m, h => h.2.elim
  | a :: a2 :: l, [b], h => h.2.elim
  | [], _ :: _, h => h.elim
  | _ :: _, [], h => h.elim
theorem better_late : ∀ (ss xs : List S59), NarS ss xs → Better (ss.map (plainS false)) (xs.map (plainS false))
  | [], [], _ => trivial
  | a :: l, b :: m, h => by
    obtain ⟨k1, k2, k3, k5⟩ := h.1
    exact ⟨⟨by simp [plainS, travelOf]; omega, fun t => (dep_nar t _ _ k5).1⟩, better_late l m h.2⟩
  | [], _ :: _, h => h.elim
  | _ :: _, [], h => h.elim
theorem better_early : ∀ (ss xs : List S59), NarS ss xs → Better (xs.map (plainS true)) (ss.map (plainS true))
  | [], [], _ => trivial
  | a :: l, b :: m, h => by
    obtain ⟨k1, k2, k3, k5⟩ := h.1
    exact ⟨⟨by simp [plainS, travelOf]; omega, fun t => (dep_nar t _ _ k5).2⟩, better_early l m h.2⟩
  | [], _ :: _, h => h.elim
  | _ :: _, [], h => h.elim
theorem used_nar {l m : List S79} (h : NarA l m) (x : Int) : ∀ (s : List Int) (i : Nat), used m x i s ≤ used l x i s
  | [], _ => Int.le_refl _
  | a :: s, i => by
    have ih := used_nar h x s (i + 1)
    obtain ⟨h1, h2, h3, _⟩ := h.2 i
    simp only [used]
    by_cases e : a = x
    · simp only [if_pos e]; omega
    · simp only [if_neg e]; omega
theorem ldL_nar {l m : List S79} (h : NarA l m) (holds : List S85) (hh : ∀ i, 0 ≤ (holds.getD i z85).f1 ∧ 0 ≤ (holds.getD i z85).f2) : ∀ (s : List Int) (i : Nat) (q q' : Q4), (q.b0 ≤ q'.b0 ∧ q.b1 ≤ q'.b1 ∧ q'.h0 ≤ q.h0 ∧ q'.h1 ≤ q.h1) →
    ((ldL holds l i s q).b0 ≤ (ldL holds m i s q').b0 ∧ (ldL holds l i s q).b1 ≤ (ldL holds m i s q').b1 ∧ (ldL holds m i s q').h0 ≤ (ldL holds l i s q).h0 ∧ (ldL holds m i s q').h1 ≤ (ldL holds l i s q).h1)
  | [], _, _, _, hq => hq
  | a :: s, i, q, q', hq => by
    simp only [ldL]
    by_cases e : a < 0
    · simp only [if_pos e]; exact ldL_nar h holds hh s (i + 1) q q' hq
    · simp only [if_neg e]
      refine ldL_nar h holds hh s (i + 1) _ _ ?_
      obtain ⟨h1, h2, h3, _⟩ := h.2 i
      obtain ⟨g1, g2⟩ := hh a.toNat
      have m1 := Int.mul_le_mul_of_nonneg_right h1 g1
      have m2 := Int.mul_le_mul_of_nonneg_right h1 g2
      have m3 := Int.mul_le_mul_of_nonneg_right h3 g1
      have m4 := Int.mul_le_mul_of_nonneg_right h3 g2
      simp only [ldS]
      omega
theorem apL_nar {l m : List S79} (h : NarA l m) (holds : List S85) : ∀ (s : List Int) (i : Nat) (x x' : Int × Int), (x.1 ≤ x'.1 ∧ x'.2 ≤ x.2) → (apL holds l i s x).1 ≤ (apL holds m i s x').1 ∧ (apL holds m i s x').2 ≤ (apL holds l i s x).2
  | [], _, _, _, hx => hx
  | a :: s, i, x, x', hx => by
    simp only [apL]
    by_cases e : a < 0
    · simp only [if_pos e]; exact apL_nar h holds s (i + 1) x x' hx
    · simp only [if_neg e]
      refine apL_nar h holds s (i + 1) _ _ ?_
      obtain ⟨h1, h2, h3, _⟩ := h.2 i
      simp only [apS]
      generalize (holds.getD a.toNat z85).f1 - (holds.getD a.toNat z85).f2 = d
      rcases Int.le_total 0 d with hd | hd
      · have m1 := Int.mul_le_mul_of_nonneg_right h1 hd
        have m2 := Int.mul_le_mul_of_nonneg_right h2 hd
        have m3 := Int.mul_le_mul_of_nonneg_right h3 hd
        omega
      · have m1 := Int.mul_le_mul_of_nonpos_right h1 hd
        have m2 := Int.mul_le_mul_of_nonpos_right h2 hd
        have m3 := Int.mul_le_mul_of_nonpos_right h3 hd
        omega
theorem part_ok {a b c d : Int} (h1 : c ≤ a) (h2 : b ≤ d) : swarfkit_Part.f a b c d = some true := by
  unfold swarfkit_Part.f
  rw [if_pos h1, decide_eq_true h2]
end Go.Proofs.Ytodmemndaaiolaa.PC7
namespace Go.Proofs.Ytodmemndaaiolaa.PC7
open Go.RowKit Go.Proofs.YtodmemndaaiolaaW.PrintWords Go.Proofs.YtodmemndaaiolaaW.PrintLast Go.Proofs.YtodmemndaaiolaaW.PrintMore
attribute [local go_sem] max2_int min2_int max_two min_two max_three min_three max_four min_four
set_option linter.unusedVariables false
set_option linter.unusedSimpArgs false
attribute [local go_sem high] eqA56
noncomputable def swarflaw07_awake.f (k : Nat)  : Option (Bool) := (swarflaw07_voyage.f).bind fun bt198 => ((ship_Drafts.f bt198.1 bt198.2.1 bt198.2.2.1 bt198.2.2.2.1 bt198.2.2.2.2.1 bt198.2.2.2.2.2.1 bt198.2.2.2.2.2.2 (([0, 1, (-1)] : List Int))).bind fun bt214 => ((swarflaw07_voyage.f).bind fun bt221 => ((ship_Sail.f bt221.1 bt221.2.1 bt221.2.2.1 bt221.2.2.2.1 bt221.2.2.2.2.1 bt221.2.2.2.2.2.1 bt221.2.2.2.2.2.2 (([0, 1, (-1)] : List Int))).bind fun bt237 => ((swarflaw07_voyage.f).bind fun bt242 => ((ship_Best.f bt242.1 bt242.2.1 bt242.2.2.1 bt242.2.2.2.1 bt242.2.2.2.2.1 bt242.2.2.2.2.2.1 bt242.2.2.2.2.2.2).bind fun bt255 => (if bt214.2.2.2.2 = 0 then (if bt237.2.2 = 0 then (if bt255.2.2 = 0 then ((swarflaw07_rng.f 1290000 1340000).bind fun bt260 => (if (bt214.1 == bt260.1 && (bt214.2.1 == bt260.2)) = true then ((swarflaw07_rng.f 1260000 1310000).bind fun bt262 => (if (bt214.2.2.1 == bt262.1 && (bt214.2.2.2.1 == bt262.2)) = true then (if bt237.1 = 1 then (if bt255.2.1 = 95 then ((swarfkit_EqualInts.f k bt255.1 (([0, (-1), 1] : List Int))).bind fun t267 => (if t267 = true then ((swarflaw07_rng.f 90 100).bind fun bt268 => ((swarflaw07_rng.f 240 250).bind fun bt270 => ((swarfkit_EqualRanges.f k bt237.2.1 (([(⟨bt268.1, bt268.2⟩ : S56), (⟨bt270.1, bt270.2⟩ : S56)] : List (S56)))).bind fun t275 => (some t275)))) else (some false))) else (some false)) else (some false)) else (some false))) else (some false))) else (some false)) else (some false)) else (some false)))))))
theorem swarflaw07_awake.mono : ∀ k, LeO (swarflaw07_awake.f k ) (swarflaw07_awake.f (k + 1) ) := by
 intro  k
 unfold swarflaw07_awake.f
 repeat' first
   | (with_reducible exact swarfkit_EqualInts.mono _ _ _)
   | (with_reducible exact swarfkit_EqualRanges.mono _ _ _)
   | (with_reducible exact LeO.refl _)
   | (with_reducible exact LeO.none _)
   | (with_reducible refine LeO.ite ?_ ?_)
   | (with_reducible refine LeO.bind ?_ (fun _ => ?_))
   | exact swarfkit_EqualInts.mono _ _ _
   | exact swarfkit_EqualRanges.mono _ _ _
   | exact LeO.none _
   | refine LeO.ite ?_ ?_
   | refine LeO.bind ?_ (fun _ => ?_)
def swarflaw07_awake.T4 : Bool × List (List Nat × List Nat) := (true, [([], []), ([0], [0]), ([1], [1]), ([2], [2]), ([3, 2], [2, 3]), ([2, 4], [2, 4]), ([5, 2], [5]), ([6], [6]), ([7, 6], [6, 7]), ([6, 8], [6, 8]), ([9, 6], [9]), ([10], [10]), ([10, 10], [10]), ([11, 12, 10], [10, 11, 12]), ([10, 13], [10, 13]), ([14, 12], [14]), ([15], [15]), ([15, 15], [15]), ([16, 17, 15], [15, 16, 17]), ([15, 18], [15, 18]), ([19, 17], [19]), ([20], [20]), ([21, 20], [20, 21]), ([20, 22], [20, 22]), ([23, 20], [23]), ([24], [24]), ([25, 24], [24, 25]), ([24, 26], [24, 26]), ([27, 24], [27]), ([28], [28]), ([28], [28]), ([29, 30, 28, 28], [28, 29, 30]), ([28, 31], [28, 31]), ([32, 31], [32]), ([33], [33]), ([33, 33], [33]), ([35, 33], [33]), ([35, 36, 33], [33, 35, 36]), ([34, 37, 36, 33], [33, 34, 37]), ([33, 38], [33, 38]), ([39, 38, 0, 1, 2, 3, 4, 5, 6, 7, 8, 9, 10, 11, 12, 13, 14, 15, 16, 17, 18, 19, 20, 21, 22, 23, 24, 25, 26, 27, 28, 29, 30, 31, 32, 33, 34, 35, 36, 37, 38, 39], [39])])
def swarflaw07_awake.B4 : List Nat := [0, 1, 3, 7, 15, 31, 63, 127, 255, 511, 1023, 2047, 2047, 8191, 16383, 32767, 65535, 65535, 262143, 524287, 1048575, 2097151, 4194303, 8388607, 16777215, 33554431, 67108863, 134217727, 268435455, 536870911, 536870911, 2147483647, 4294967295, 8589934591, 17179869183, 17179869183, 51539607551, 120259084287, 274877906943, 549755813887, 1099511627775]
theorem swarflaw07_awake.tab4 : rtab .any (opsOf Try.f15 4) = swarflaw07_awake.T4 := by kernel_rfl
theorem swarflaw07_awake.bits4 : waitsOk swarflaw07_awake.T4.2 swarflaw07_awake.B4 = true := by kernel_rfl
end Go.Proofs.Ytodmemndaaiolaa.PC7
namespace Go.Proofs.Ytodmemndaaiolaa.PC7
set_option linter.unusedVariables false
set_option linter.unusedSimpArgs false
open Go.RowKit Go.Proofs.YtodmemndaaiolaaW.PrintWords Go.Proofs.YtodmemndaaiolaaW.PrintLast Go.Proofs.YtodmemndaaiolaaW.PrintMore
theorem awake_ev : Ev (fun k => swarflaw07_awake.f k) true := by
  have h1 : ∀ k, swarflaw07_awake.f k = ((swarfkit_EqualInts.f k [0, -1, 1] [0, -1, 1]).bind fun t267 => if t267 = true then (swarfkit_EqualRanges.f k [⟨90, 100⟩, ⟨240, 250⟩] [⟨90, 100⟩, ⟨240, 250⟩]).bind fun t275 => some t275 else some false) := by
    intro k
    unfold swarflaw07_awake.f
    rw [voyage_f]
    simp only [Option.bind_some]
    rw [v_drafts]
    simp only [Option.bind_some]
    rw [v_sail]
    simp only [Option.bind_some]
    rw [v_best]
    simp only [Option.bind_some, swarflaw07_rng.f, if_true, beq_self_eq_true, Bool.and_self]
  have e1 : Ev (fun k => swarfkit_EqualInts.f k [0, -1, 1] [0, -1, 1]) true := ev_of_mono (fun k => swarfkit_EqualInts.mono _ _ k) (K := 10) (by kernel_rfl)
  have e2 : Ev (fun k => swarfkit_EqualRanges.f k [⟨90, 100⟩, ⟨240, 250⟩] [⟨90, 100⟩, ⟨240, 250⟩]) true := ev_of_mono (fun k => swarfkit_EqualRanges.mono _ _ k) (K := 10) (by kernel_rfl)
  have e3 : Ev (fun k => (swarfkit_EqualInts.f k [0, -1, 1] [0, -1, 1]).bind fun t267 => if t267 = true then (swarfkit_EqualRanges.f k [⟨90, 100⟩, ⟨240, 250⟩] [⟨90, 100⟩, ⟨240, 250⟩]).bind fun t275 => some t275 else some false) true := by
    refine Ev.bind e1 ?_
    simp only [if_true]
    exact Ev.tail e2
  obtain ⟨K, hK⟩ := e3
  exact ⟨K, fun k hk => (h1 k).trans (hK k hk)⟩
theorem leO_up {α : Type} {g : Nat → Option α} (hm : ∀ k, LeO (g k) (g (k + 1))) {k K : Nat} (hk : k ≤ K) {r : α} (h : g k = some r) : g K = some r := by
  induction hk with
  | refl => exact h
  | step _ ih => exact hm _ _ ih
theorem awake_true {k : Nat} {r : Bool} (h : swarflaw07_awake.f k = some r) : r = true := by
  obtain ⟨K, hK⟩ := awake_ev
  have h1 := leO_up (g := fun k => swarflaw07_awake.f k) swarflaw07_awake.mono (Nat.le_max_left k K) h
  have h2 := hK (max k K) (Nat.le_max_right k K)
  exact Option.some.inj (h1.symm.trans h2)
theorem slice_inj {a b n m c d : Nat} (h : some (Value.slice (some ⟨a, 0, none⟩) n c) = some (Value.slice (some ⟨b, 0, none⟩) m d)) : a = b := by
  injection h with h
  injection h with h
  injection h with h
  injection h
theorem cell_next {W : World} {g t i j : Nat} {cs : Array Value} {v u : Value} (h : W.heap[g]? = some (.cells cs t (0, 0))) (hne : i ≠ j) (hc : W.cell? ⟨g, j, none⟩ = some u) : (W.setCell ⟨g, i, none⟩ v).cell? ⟨g, j, none⟩ = some u := by
  rw [blk_cell (blk_set h i v), Array.getElem?_setIfInBounds_ne hne, ← blk_cell h]
  exact hc
theorem s59_travel {W : World} {base g n cap : Nat} {ok : Nat → Prop} {xs : List S59} (h : Kd.S k59 59 W base ok (.slice (some ⟨g, 0, none⟩) n cap) xs) (i : Nat) (hi : i < n) :
    W.cell? ⟨g, i * 3, none⟩ = some (.int .i64 (xs.getD i z59).f0.f0) ∧ W.cell? ⟨g, i * 3 + 1, none⟩ = some (.int .i64 (xs.getD i z59).f0.f1) ∧ W.frozen? ⟨g, i * 3, none⟩ = false ∧ W.frozen? ⟨g, i * 3 + 1, none⟩ = false ∧
      ∀ a b : Int, Kd.S k59 59 ((W.setCell ⟨g, i * 3, none⟩ (.int .i64 a)).setCell ⟨g, i * 3 + 1, none⟩ (.int .i64 b)) base ok (.slice (some ⟨g, 0, none⟩) n cap) (xs.set i ⟨⟨a, b⟩, (xs.getD i z59).f1⟩) := by
  obtain ⟨oki, c, hcl, hM, hcc, hfr, hoki, hH⟩ := Kd.S_elem h z59 (i : Int) (by omega) (by omega)
  obtain ⟨v2, rfl, g2⟩ := k59_openM hM
  rw [Int.toNat_natCast] at hcc hfr g2
  refine ⟨hcc 0 _ rfl, hcc 1 _ rfl, hfr 0, hfr 1, fun a b => ?_⟩
  have hM2 : k59.M W base oki ⟨⟨a, b⟩, (xs.getD i z59).f1⟩ [.int .i64 a, .int .i64 b, v2] := k59_mkM W base oki _ g2
  have h2 := Kd.S_seg (okg := fun _ => False) (Kd.H_mono (ok' := fun k => ok k ∧ ¬ False) hH (fun k hk => ⟨hk, fun hf => hf⟩)) (by omega) (by omega) (seg := [.int .i64 a, .int .i64 b]) (j := 0) (by show 0 + 2 ≤ 3; decide) (x' := ⟨⟨a, b⟩, (xs.getD i z59).f1⟩) (okp := oki) hM2 (fun k hk => .inl hk) (fun k hk => hk.elim)
  have h3 := h2.1
  rw [Int.toNat_natCast] at h3
  exact h3
theorem s59_depth {W : World} {base g n cap : Nat} {ok : Nat → Prop} {xs : List S59} (h : Kd.S k59 59 W base ok (.slice (some ⟨g, 0, none⟩) n cap) xs) (i : Nat) (hi : i < n) (j : Nat) (hj : j < (xs.getD i z59).f1.length) :
    ∃ gl cl, W.cell? ⟨g, i * 3 + 2, none⟩ = some (.slice (some ⟨gl, 0, none⟩) (xs.getD i z59).f1.length cl) ∧ base ≤ gl ∧ (∃ cells, W.heap[gl]? = some (.cells cells 62 (0, 0))) ∧
      W.cell? ⟨gl, j * 3 + 1, none⟩ = some (.int .i64 ((xs.getD i z59).f1.getD j z62).f1.f0) ∧ W.cell? ⟨gl, j * 3 + 2, none⟩ = some (.int .i64 ((xs.getD i z59).f1.getD j z62).f1.f1) ∧ W.frozen? ⟨gl, j * 3 + 1, none⟩ = false ∧ W.frozen? ⟨gl, j * 3 + 2, none⟩ = false ∧
      ∀ a b : Int, Kd.S k59 59 ((W.setCell ⟨gl, j * 3 + 1, none⟩ (.int .i64 a)).setCell ⟨gl, j * 3 + 2, none⟩ (.int .i64 b)) base ok (.slice (some ⟨g, 0, none⟩) n cap) (xs.set i ⟨(xs.getD i z59).f0, (xs.getD i z59).f1.set j ⟨((xs.getD i z59).f1.getD j z62).f0, ⟨a, b⟩⟩⟩) := by
  obtain ⟨oki, c, hcl, hM, hcc, hoki, hback⟩ := Kd.S_borrow h z59 (i : Int) (by omega) (by omega)
  obtain ⟨v2, rfl, g2⟩ := k59_openM hM
  rw [Int.toNat_natCast] at hcc g2
  obtain ⟨gl, cl, rfl, hbl, hlt, hcells⟩ := Kd.R_form g2 (by omega)
  have hc2 := hcc 2 _ rfl
  rw [add_plain] at hc2
  obtain ⟨ce, hcel, hcM, hcec, hcef⟩ := Kd.R_elem g2 z62 (j : Int) (by omega) (by omega)
  rw [Int.toNat_natCast] at hcM hcec hcef
  obtain rfl := k62_openM hcM
  refine ⟨gl, cl, hc2, hbl, hcells, hcec 1 _ rfl, hcec 2 _ rfl, hcef 1, hcef 2, fun a b => ?_⟩
  obtain ⟨z1, z2⟩ := Kd.R_seg g2 (j : Int) (by omega) (by omega) (seg := [.int .i64 a, .int .i64 b]) (j := 1) hcel (by rw [Int.toNat_natCast]; exact hcec) (show 3 ≤ 3 from Nat.le_refl _) (x' := ⟨((xs.getD i z59).f1.getD j z62).f0, ⟨a, b⟩⟩) (k62_mkM _ _ _ ⟨((xs.getD i z59).f1.getD j z62).f0, ⟨a, b⟩⟩) (fun _ hk => hk)
  rw [Int.toNat_natCast] at z1 z2
  have h3 := hback (x' := ⟨(xs.getD i z59).f0, (xs.getD i z59).f1.set j ⟨((xs.getD i z59).f1.getD j z62).f0, ⟨a, b⟩⟩⟩) z2 (fun k hk => g2.1 k hk.symm.symm) (by
    have hl : ((xs.getD i z59).f1.set j ⟨((xs.getD i z59).f1.getD j z62).f0, ⟨a, b⟩⟩).length = (xs.getD i z59).f1.length := by simp
    exact k59_mkM _ _ _ (⟨(xs.getD i z59).f0, (xs.getD i z59).f1.set j ⟨((xs.getD i z59).f1.getD j z62).f0, ⟨a, b⟩⟩⟩ : S59) z1)
  rw [Int.toNat_natCast] at h3
  exact h3
theorem s59_levels {W : World} {base g n cap : Nat} {ok : Nat → Prop} {xs : List S59} (h : Kd.S k59 59 W base ok (.slice (some ⟨g, 0, none⟩) n cap) xs) (i : Nat) (hi : i < n) :
    ∃ A c, W.cell? ⟨g, i * 3 + 2, none⟩ = some (.slice A (xs.getD i z59).f1.length c) := by
  obtain ⟨oki, c, hcl, hM, hcc, hoki, _⟩ := Kd.S_borrow h z59 (i : Int) (by omega) (by omega)
  obtain ⟨v2, rfl, g2⟩ := k59_openM hM
  rw [Int.toNat_natCast] at hcc g2
  obtain ⟨A, c, rfl⟩ := Kd.R_slice g2
  have hc2 := hcc 2 _ rfl
  rw [add_plain] at hc2
  exact ⟨A, c, hc2⟩
theorem r79_ton {W : World} {base g n cap : Nat} {ok : Nat → Prop} {xs : List S79} (h : Kd.R k79 79 W base ok (.slice (some ⟨g, 0, none⟩) n cap) xs) (i : Nat) (hi : i < n) :
    W.cell? ⟨g, i * 3, none⟩ = some (.int .i64 (xs.getD i z79).f0.f0) ∧ W.cell? ⟨g, i * 3 + 1, none⟩ = some (.int .i64 (xs.getD i z79).f0.f1) ∧ W.frozen? ⟨g, i * 3, none⟩ = false ∧ W.frozen? ⟨g, i * 3 + 1, none⟩ = false ∧
      ∀ a b : Int, Kd.R k79 79 ((W.setCell ⟨g, i * 3, none⟩ (.int .i64 a)).setCell ⟨g, i * 3 + 1, none⟩ (.int .i64 b)) base ok (.slice (some ⟨g, 0, none⟩) n cap) (xs.set i ⟨⟨a, b⟩, (xs.getD i z79).f1⟩) := by
  obtain ⟨ce, hcel, hcM, hcec, hcef⟩ := Kd.R_elem h z79 (i : Int) (by omega) (by omega)
  rw [Int.toNat_natCast] at hcM hcec hcef
  obtain rfl := k79_openM hcM
  refine ⟨hcec 0 _ rfl, hcec 1 _ rfl, hcef 0, hcef 1, fun a b => ?_⟩
  have z1 := (Kd.R_seg h (i : Int) (by omega) (by omega) (seg := [.int .i64 a, .int .i64 b]) (j := 0) hcel (by rw [Int.toNat_natCast]; exact hcec) (show 0 + 2 ≤ 3 by decide) (x' := ⟨⟨a, b⟩, (xs.getD i z79).f1⟩) (k79_mkM _ _ _ ⟨⟨a, b⟩, (xs.getD i z79).f1⟩) (fun _ hk => hk)).1
  rw [Int.toNat_natCast] at z1
  exact z1
def feedL (s : Int) : List S56 → Option (List Int × Int)
 | [] => some ([], s)
 | x :: r => (swarfkit_Feed_In.f s x.f0 x.f1).bind fun a => (feedL a.2 r).bind fun b => some (a.1 :: b.1, b.2)
def factS (s : Int) : List S59 → Option (List Int × List (List Int) × Int)
 | [] => some ([], [], s)
 | x :: r => (swarfkit_Feed_In.f s x.f0.f0 x.f0.f1).bind fun a => (feedL a.2 (x.f1.map (·.f1))).bind fun l => (factS l.2 r).bind fun b => some (a.1 :: b.1, l.1 :: b.2.1, b.2.2)
theorem R_kb {α : Type} {d : Kd α} {e base g : Nat} {ok : Nat → Prop} {W W' : World} {v : Value} {xs : List α} (h : d.R e W base ok v xs) (hk : KeepBut W W' g none) (hg : g < base) : d.R e W' base ok v xs :=
 Kd.R_mono (Kd.R_step (Kd.R_bound h) (fun k hk' hlt => hk.2 k hlt (by have := hk'.2.1; omega) (by simp))) (fun _ h => h.1)
theorem S_kb {α : Type} {d : Kd α} {e base g : Nat} {ok : Nat → Prop} {W W' : World} {v : Value} {xs : List α} (h : d.S e W base ok v xs) (hk : KeepBut W W' g none) (hg : g < base) : d.S e W' base ok v xs :=
 Kd.S_mono (Kd.S_step (Kd.S_bound h) (fun k hk' hlt => hk.2 k hlt (by have := hk'.2.1; omega) (by simp))) (fun _ h => h.1)
theorem blk_kb {w w' : World} {g b : Nat} {o : Obj} (h : w.heap[b]? = some o) (hk : KeepBut w w' g none) (hne : b ≠ g) : w'.heap[b]? = some o := (hk.2 b (blk_lt h) hne (by simp)).trans h
end Go.Proofs.Ytodmemndaaiolaa.PC7
namespace Go.Proofs.Ytodmemndaaiolaa.PC7
set_option linter.unusedVariables false
open Go.RowKit Go.Proofs.YtodmemndaaiolaaW.PrintWords Go.Proofs.YtodmemndaaiolaaW.PrintLast Go.Proofs.YtodmemndaaiolaaW.PrintMore
def feedX (s x : Int) : Int := Go.bits .xor .u64 s (IntKind.u64.wrap (IntKind.u64.wrap x * 15485907386658061715))
def feedAll (l : List Int) : Int := l.foldl (fun s x => feedN (feedX s x)) 88172645463325252
def swarfkit_FeedOf.f (l0 : List Int) : Option (Int) := if l0.length ≤ 140737488351232 then some (feedAll l0) else none
structure FeedNew (w0 w W : World) (g : Nat) (x : Int) : Prop where
 is : IsS90 w0 W g x
 be : Below w0.heap.size w0 W
 bw : Below w.heap.size w W
 ge : w.heap.size ≤ g
theorem FeedNew.next {w0 w W : World} {g : Nat} {x : Int} (h : FeedNew w0 w W g x) (y : Int) : FeedNew w0 w (W.setCell ⟨g, 0, none⟩ (.int .u64 y)) g y :=
 ⟨h.is.set_0 y, below_set h.be h.is.ge, below_set h.bw h.ge, h.ge⟩
theorem FeedNew.drew {w0 w W : World} {g : Nat} {x : Int} (h : FeedNew w0 w W g x) : FeedNew w0 w W.drew g x := ⟨h.is.drew, h.be.drew, h.bw.drew, h.ge⟩
theorem below_next {w0 w w1 w2 : World} {g : Nat} (hb : Below w.heap.size w w1) (h1 : Below w0.heap.size w0 w1) (h2 : Below w0.heap.size w0 w2) (hk : KeepBut w1 w2 g none) (hg : w.heap.size ≤ g) : Below w.heap.size w w2 :=
 ⟨(h2.os.trans h1.os.symm).trans hb.os, (h2.tape.trans h1.tape.symm).trans hb.tape, (h2.output.trans h1.output.symm).trans hb.output, Nat.le_trans hb.size hk.1,
  fun k hlt => (hk.2 k (Nat.lt_of_lt_of_le hlt hb.size) (by omega) (by simp)).trans (hb.block k hlt)⟩
theorem feedAll_step (l : List Int) (i : Nat) (h : i < l.length) : feedAll (l.take (i + 1)) = feedN (feedX (feedAll (l.take i)) (rd l (i : Int))) := by
 unfold feedAll
 rw [List.take_succ_eq_append_getElem h, List.foldl_append]
 simp [rd, List.getD, h]
set_option maxHeartbeats 4000000 in
set_option maxRecDepth 100000 in
theorem swarfkit_FeedOf.calls (A0 : Option Addr) (c0 : Nat) (l0 : List Int) (r : Int) (w0 w : World) (hB : Below w0.heap.size w0 w) (hr0 : Kd.C (Kd.int .i64) w0 A0 l0.length l0) (hc0 : l0.length ≤ c0) (h : swarfkit_FeedOf.f l0 = some r) :
  Calls Try.prog 16 #[.slice A0 l0.length c0] w fun e w' => ∃ g_ : Nat, e = .returned (.pointer (some ⟨g_, 0, none⟩)) ∧ IsS90 w0 w' g_ r ∧ Below w0.heap.size w0 w' ∧ Below w.heap.size w w' := by
 simp only [swarfkit_FeedOf.f] at h
 by_cases hl : l0.length ≤ 140737488351232
 case neg => rw [if_neg hl] at h; cases h
 rw [if_pos hl] at h
 obtain rfl := Option.some.inj h
 clear h
 have hu90 := Try.underlying90
 have HB := Aside0.mk hB
 have HR0 := Aside0.mk hr0
 clear hB hr0
 go_enter Try.func16, Try.ntmps16
 go_wp2
 have F := Aside0.mk (FeedNew.mk (IsS90.new w0 w (88172645463325252) HB.out) (below_alloc HB.out _) (below_alloc (Below.refl _ _) _) (Nat.le_refl _))
 go_loopw [4] (fun i wr => ∃ k : Nat, k ≤ l0.length ∧ i = .int .i64 k ∧ Aside0 (FeedNew w0 w wr w.heap.size (feedAll (l0.take k)))) (fun i _ => l0.length - (intOf i).toNat)
 case atStart => exact ⟨0, Nat.zero_le _, rfl, F⟩
 case round =>
  clear F
  obtain ⟨k, hk, rfl, F⟩ := hrel
  have hcell := (blk_cell F.out.is.1 0).trans rfl
  have hfree := blk_frozen F.out.is.1 0
  by_cases hlt : k < l0.length
  ·
   have hlz : (k : Int) < (l0.length : Int) := by omega
   obtain ⟨ad, e, hx⟩ := Kd.at_int HR0.out (k : Int) (by omega) hlz
   cases e
   rw [Int.toNat_natCast] at hx
   replace hx := (F.out.be.cell (World.block_lt_of_cell? w0 _ hx)).trans hx
   have HF := Aside0.mk (feedAll_step l0 k hlt)
   generalize feedAll (l0.take k) = s at *
   generalize rd l0 (k : Int) = x at *
   go_wp2
   go_region
   clear hcell hfree hx
   have F1 := Aside0.mk (F.out.next (feedX s x)).drew
   generalize hx1 : bits BinOp.xor IntKind.u64 s (IntKind.u64.wrap (IntKind.u64.wrap x * 15485907386658061715)) = x1
   have hy1 : feedX s x = x1 := hx1
   rw [hy1] at F1 HF
   generalize hw1 : (wr.setCell ⟨w.heap.size, 0, none⟩ (.int .u64 x1)).drew = w1
   rw [hw1] at F1
   clear hx1 hw1 hy1 F
   have HC := Aside0.mk (swarfkit_Feed_next.calls w.heap.size x1 (feedM (feedN x1)) (feedN x1) w0 w1 F1.out.is F1.out.be rfl)
   go_wp2_with (go_at_call 53; refine HC.out.mono ?_; rintro e w2 ⟨rfl, hI2, hB2, hK2⟩; have F2 := Aside0.mk (FeedNew.mk hI2 hB2 (below_next F1.out.bw F1.out.be hB2 hK2 F1.out.ge) F1.out.ge); clear hI2 hB2 hK2 HC)
   go_roundw
   case rel => exact ⟨k + 1, by omega, by go_num, by rw [HF.out]; exact F2⟩
   case measure => simp [intOf]; omega
  ·
   have : k = l0.length := by omega
   subst this
   go_wp2
   go_ret
   rw [List.take_length] at F
   exact ⟨_, rfl, F.out.is, F.out.be, F.out.bw⟩
end Go.Proofs.Ytodmemndaaiolaa.PC7
namespace Go.Proofs.Ytodmemndaaiolaa.PC7
open Go.RowKit Go.Proofs.YtodmemndaaiolaaW.PrintWords Go.Proofs.YtodmemndaaiolaaW.PrintLast Go.Proofs.YtodmemndaaiolaaW.PrintMore
attribute [local go_sem] max2_int min2_int max_two min_two max_three min_three max_four min_four
set_option linter.unusedVariables false
set_option linter.unusedSimpArgs false
attribute [local go_sem high] eqA56
set_option maxHeartbeats 8000000 in
set_option maxRecDepth 100000 in
theorem swarflaw07_awake.calls (k : Nat)  (r : Bool) (w : World) (h : swarflaw07_awake.f k  = some r) :
  Calls Try.prog 15 #[] w fun e w' => e = .returned (.bool r) ∧ Below w.heap.size w w' := by
 have hrt := Aside0.mk (awake_true h)
 have hu56 := Try.underlying56
 have HB := Aside0.mk (Below.refl w.heap.size w)
 have H : ((swarflaw07_voyage.f).bind fun bt198 => ((ship_Drafts.f bt198.1 bt198.2.1 bt198.2.2.1 bt198.2.2.2.1 bt198.2.2.2.2.1 bt198.2.2.2.2.2.1 bt198.2.2.2.2.2.2 (([0, 1, (-1)] : List Int))).bind fun bt214 => ((swarflaw07_voyage.f).bind fun bt221 => ((ship_Sail.f bt221.1 bt221.2.1 bt221.2.2.1 bt221.2.2.2.1 bt221.2.2.2.2.1 bt221.2.2.2.2.2.1 bt221.2.2.2.2.2.2 (([0, 1, (-1)] : List Int))).bind fun bt237 => ((swarflaw07_voyage.f).bind fun bt242 => ((ship_Best.f bt242.1 bt242.2.1 bt242.2.2.1 bt242.2.2.2.1 bt242.2.2.2.2.1 bt242.2.2.2.2.2.1 bt242.2.2.2.2.2.2).bind fun bt255 => (if bt214.2.2.2.2 = 0 then (if bt237.2.2 = 0 then (if bt255.2.2 = 0 then ((swarflaw07_rng.f 1290000 1340000).bind fun bt260 => (if (bt214.1 == bt260.1 && (bt214.2.1 == bt260.2)) = true then ((swarflaw07_rng.f 1260000 1310000).bind fun bt262 => (if (bt214.2.2.1 == bt262.1 && (bt214.2.2.2.1 == bt262.2)) = true then (if bt237.1 = 1 then (if bt255.2.1 = 95 then ((swarfkit_EqualInts.f k bt255.1 (([0, (-1), 1] : List Int))).bind fun t267 => (if t267 = true then ((swarflaw07_rng.f 90 100).bind fun bt268 => ((swarflaw07_rng.f 240 250).bind fun bt270 => ((swarfkit_EqualRanges.f k bt237.2.1 (([(⟨bt268.1, bt268.2⟩ : S56), (⟨bt270.1, bt270.2⟩ : S56)] : List (S56)))).bind fun t275 => (some t275)))) else (some false))) else (some false)) else (some false)) else (some false))) else (some false))) else (some false)) else (some false)) else (some false)))))))) = some r := h
 clear h
 replace H := Option.bind_eq_some_iff.mp H
 obtain ⟨⟨t198, t199, t200, t201, t204, t205, t208⟩, A10, H⟩ := H
 try dsimp only at H
 have A1 := Aside0.mk A10
 clear A10
 obtain ⟨y211, hy211⟩ : ∃ y_ : List Int, y_ = (([0, 1, (-1)] : List Int)) := ⟨_, rfl⟩
 replace H : ((ship_Drafts.f t198 t199 t200 t201 t204 t205 t208 y211).bind fun bt214 => ((swarflaw07_voyage.f).bind fun bt221 => ((ship_Sail.f bt221.1 bt221.2.1 bt221.2.2.1 bt221.2.2.2.1 bt221.2.2.2.2.1 bt221.2.2.2.2.2.1 bt221.2.2.2.2.2.2 (([0, 1, (-1)] : List Int))).bind fun bt237 => ((swarflaw07_voyage.f).bind fun bt242 => ((ship_Best.f bt242.1 bt242.2.1 bt242.2.2.1 bt242.2.2.2.1 bt242.2.2.2.2.1 bt242.2.2.2.2.2.1 bt242.2.2.2.2.2.2).bind fun bt255 => (if bt214.2.2.2.2 = 0 then (if bt237.2.2 = 0 then (if bt255.2.2 = 0 then ((swarflaw07_rng.f 1290000 1340000).bind fun bt260 => (if (bt214.1 == bt260.1 && (bt214.2.1 == bt260.2)) = true then ((swarflaw07_rng.f 1260000 1310000).bind fun bt262 => (if (bt214.2.2.1 == bt262.1 && (bt214.2.2.2.1 == bt262.2)) = true then (if bt237.1 = 1 then (if bt255.2.1 = 95 then ((swarfkit_EqualInts.f k bt255.1 (([0, (-1), 1] : List Int))).bind fun t267 => (if t267 = true then ((swarflaw07_rng.f 90 100).bind fun bt268 => ((swarflaw07_rng.f 240 250).bind fun bt270 => ((swarfkit_EqualRanges.f k bt237.2.1 (([(⟨bt268.1, bt268.2⟩ : S56), (⟨bt270.1, bt270.2⟩ : S56)] : List (S56)))).bind fun t275 => (some t275)))) else (some false))) else (some false)) else (some false)) else (some false))) else (some false))) else (some false)) else (some false)) else (some false))))))) = some r := by first | (rw [hy211]; with_reducible exact H) | (have H2_ := (Option.bind_some _ _).symm.trans H; rw [hy211]; with_reducible exact H2_) | (have H2_ := (Option.bind_some _ _).symm.trans H; with_reducible exact H2_) | with_reducible exact H | (rw [hy211]; exact H) | exact H
 have Ny211 := Aside0.mk hy211
 clear hy211
 replace H := Option.bind_eq_some_iff.mp H
 obtain ⟨⟨t214, t215, t216, t217, t218⟩, A20, H⟩ := H
 try dsimp only at H
 have A2 := Aside0.mk A20
 clear A20
 replace H := Option.bind_eq_some_iff.mp H
 obtain ⟨⟨t221, t222, t223, t224, t227, t228, t231⟩, A30, H⟩ := H
 try dsimp only at H
 have A3 := Aside0.mk A30
 clear A30
 obtain ⟨y234, hy234⟩ : ∃ y_ : List Int, y_ = (([0, 1, (-1)] : List Int)) := ⟨_, rfl⟩
 replace H : ((ship_Sail.f t221 t222 t223 t224 t227 t228 t231 y234).bind fun bt237 => ((swarflaw07_voyage.f).bind fun bt242 => ((ship_Best.f bt242.1 bt242.2.1 bt242.2.2.1 bt242.2.2.2.1 bt242.2.2.2.2.1 bt242.2.2.2.2.2.1 bt242.2.2.2.2.2.2).bind fun bt255 => (if t218 = 0 then (if bt237.2.2 = 0 then (if bt255.2.2 = 0 then ((swarflaw07_rng.f 1290000 1340000).bind fun bt260 => (if (t214 == bt260.1 && (t215 == bt260.2)) = true then ((swarflaw07_rng.f 1260000 1310000).bind fun bt262 => (if (t216 == bt262.1 && (t217 == bt262.2)) = true then (if bt237.1 = 1 then (if bt255.2.1 = 95 then ((swarfkit_EqualInts.f k bt255.1 (([0, (-1), 1] : List Int))).bind fun t267 => (if t267 = true then ((swarflaw07_rng.f 90 100).bind fun bt268 => ((swarflaw07_rng.f 240 250).bind fun bt270 => ((swarfkit_EqualRanges.f k bt237.2.1 (([(⟨bt268.1, bt268.2⟩ : S56), (⟨bt270.1, bt270.2⟩ : S56)] : List (S56)))).bind fun t275 => (some t275)))) else (some false))) else (some false)) else (some false)) else (some false))) else (some false))) else (some false)) else (some false)) else (some false))))) = some r := by first | (rw [hy234]; with_reducible exact H) | (have H2_ := (Option.bind_some _ _).symm.trans H; rw [hy234]; with_reducible exact H2_) | (have H2_ := (Option.bind_some _ _).symm.trans H; with_reducible exact H2_) | with_reducible exact H | (rw [hy234]; exact H) | exact H
 have Ny234 := Aside0.mk hy234
 clear hy234
 replace H := Option.bind_eq_some_iff.mp H
 obtain ⟨⟨t237, t238, t241⟩, A40, H⟩ := H
 try dsimp only at H
 have A4 := Aside0.mk A40
 clear A40
 replace H := Option.bind_eq_some_iff.mp H
 obtain ⟨⟨t242, t243, t244, t245, t248, t249, t252⟩, A50, H⟩ := H
 try dsimp only at H
 have A5 := Aside0.mk A50
 clear A50
 replace H := Option.bind_eq_some_iff.mp H
 obtain ⟨⟨t255, t258, t259⟩, A60, H⟩ := H
 try dsimp only at H
 have A6 := Aside0.mk A60
 clear A60
 by_cases c7 : t218 = 0
 ·
  rw [if_pos c7] at H
  have c7b0 : (t218 == 0) = true := beq_iff_eq.mpr c7
  have c7b1 : (t218 != 0) = false := bne_eq_false_iff_eq.mpr c7
  clear c7
  by_cases c8 : t241 = 0
  ·
   rw [if_pos c8] at H
   have c8b0 : (t241 == 0) = true := beq_iff_eq.mpr c8
   have c8b1 : (t241 != 0) = false := bne_eq_false_iff_eq.mpr c8
   clear c8
   by_cases c9 : t259 = 0
   ·
    rw [if_pos c9] at H
    have c9b0 : (t259 == 0) = true := beq_iff_eq.mpr c9
    have c9b1 : (t259 != 0) = false := bne_eq_false_iff_eq.mpr c9
    clear c9
    replace H := Option.bind_eq_some_iff.mp H
    obtain ⟨⟨t260, t261⟩, A100, H⟩ := H
    try dsimp only at H
    have A10 := Aside0.mk A100
    clear A100
    by_cases c11 : (t214 == t260 && (t215 == t261)) = true
    ·
     rw [if_pos c11] at H
     have c11b0 : (t214 == t260 && (t215 == t261)) = true := c11
     (try (have c11b1 : decide (t214 = t260 && (t215 == t261)) = true := by simpa using c11))
     (try (have c11b2 : (t214 == t260 && (t215 == t261)) = true := by simpa using c11))
     clear c11
     replace H := Option.bind_eq_some_iff.mp H
     obtain ⟨⟨t262, t263⟩, A120, H⟩ := H
     try dsimp only at H
     have A12 := Aside0.mk A120
     clear A120
     by_cases c13 : (t216 == t262 && (t217 == t263)) = true
     ·
      rw [if_pos c13] at H
      have c13b0 : (t216 == t262 && (t217 == t263)) = true := c13
      (try (have c13b1 : decide (t216 = t262 && (t217 == t263)) = true := by simpa using c13))
      (try (have c13b2 : (t216 == t262 && (t217 == t263)) = true := by simpa using c13))
      clear c13
      by_cases c14 : t237 = 1
      ·
       rw [if_pos c14] at H
       have c14b0 : (t237 == 1) = true := beq_iff_eq.mpr c14
       have c14b1 : (t237 != 1) = false := bne_eq_false_iff_eq.mpr c14
       clear c14
       by_cases c15 : t258 = 95
       ·
        rw [if_pos c15] at H
        have c15b0 : (t258 == 95) = true := beq_iff_eq.mpr c15
        have c15b1 : (t258 != 95) = false := bne_eq_false_iff_eq.mpr c15
        clear c15
        obtain ⟨y264, hy264⟩ : ∃ y_ : List Int, y_ = (([0, (-1), 1] : List Int)) := ⟨_, rfl⟩
        replace H : ((swarfkit_EqualInts.f k t255 y264).bind fun t267 => (if t267 = true then ((swarflaw07_rng.f 90 100).bind fun bt268 => ((swarflaw07_rng.f 240 250).bind fun bt270 => ((swarfkit_EqualRanges.f k t238 (([(⟨bt268.1, bt268.2⟩ : S56), (⟨bt270.1, bt270.2⟩ : S56)] : List (S56)))).bind fun t275 => (some t275)))) else (some false))) = some r := by first | (rw [hy264]; with_reducible exact H) | (have H2_ := (Option.bind_some _ _).symm.trans H; rw [hy264]; with_reducible exact H2_) | (have H2_ := (Option.bind_some _ _).symm.trans H; with_reducible exact H2_) | with_reducible exact H | (rw [hy264]; exact H) | exact H
        have Ny264 := Aside0.mk hy264
        clear hy264
        replace H := Option.bind_eq_some_iff.mp H
        obtain ⟨t267, A160, H⟩ := H
        try dsimp only at H
        have A16 := Aside0.mk A160
        clear A160
        by_cases c17 : t267 = true
        ·
         subst c17
         have H1 : ((swarflaw07_rng.f 90 100).bind fun bt268 => ((swarflaw07_rng.f 240 250).bind fun bt270 => ((swarfkit_EqualRanges.f k t238 (([(⟨bt268.1, bt268.2⟩ : S56), (⟨bt270.1, bt270.2⟩ : S56)] : List (S56)))).bind fun t275 => (some t275)))) = some r := by rw [if_pos rfl] at H; exact H
         clear H
         have H := H1
         clear H1
         replace H := Option.bind_eq_some_iff.mp H
         obtain ⟨⟨t268, t269⟩, A180, H⟩ := H
         try dsimp only at H
         have A18 := Aside0.mk A180
         clear A180
         replace H := Option.bind_eq_some_iff.mp H
         obtain ⟨⟨t270, t271⟩, A190, H⟩ := H
         try dsimp only at H
         have A19 := Aside0.mk A190
         clear A190
         obtain ⟨y272, hy272⟩ : ∃ y_ : List (S56), y_ = (([(⟨t268, t269⟩ : S56), (⟨t270, t271⟩ : S56)] : List (S56))) := ⟨_, rfl⟩
         replace H : ((swarfkit_EqualRanges.f k t238 y272).bind fun t275 => (some t275)) = some r := by first | (rw [hy272]; with_reducible exact H) | (have H2_ := (Option.bind_some _ _).symm.trans H; rw [hy272]; with_reducible exact H2_) | (have H2_ := (Option.bind_some _ _).symm.trans H; with_reducible exact H2_) | with_reducible exact H | (rw [hy272]; exact H) | exact H
         have Ny272 := Aside0.mk hy272
         clear hy272
         replace H := Option.bind_eq_some_iff.mp H
         obtain ⟨t275, A200, H⟩ := H
         replace H : (some t275) = some r := H
         have A20 := Aside0.mk A200
         clear A200
         obtain rfl := Option.some.inj H
         go_enter Try.func15, Try.ntmps15
         try go_wp2_with (first | ((with_reducible refine gate_callee (f := 52) rfl ?_); refine goesL_ (some 11) rfl rfl Try.func52 (by kernel_rfl) rfl #[] rfl (by (try simp only [List.map_toArray, List.map_cons, List.map_nil]); first | done | rfl | (simp only [List.length_drop, List.length_take]; rfl)) ?_; (with_reducible refine (swarflaw07_voyage.calls  t198 t199 t200 t201 t204 t205 t208 _ A1.out).mono ?_); rintro e w21 ⟨v202, v206, v209, rfl, ho0, ho1, ho2, hb⟩; refine ⟨_, rfl, ?_⟩; have HO203 := Aside0.mk (Kd.R_lower (Kd.R_mono (ok' := fun k_ => True) ho0 (fun _ hk_ => trivial)) (below_size (below_x HB.out))); have HO207 := Aside0.mk (Kd.N_lower (Kd.N_mono (ok' := fun k_ => some k_ ≠ (v202 : Value).ownBlock ∧ some k_ ≠ (v209 : Value).ownBlock) ho1 (fun k_ hk_ => ⟨hk_.2.1, hk_.2.2⟩)) (below_size (below_x HB.out))); have HO210 := Aside0.mk (Kd.R_lower (Kd.R_mono (ok' := fun k_ => True) ho2 (fun _ hk_ => trivial)) (below_size (below_x HB.out))); replace HB := Aside0.mk (below_step (below_x HB.out) hb); (try clear hb); (try clear hk); (try clear hi); (try clear ho0); (try clear ho1); (try clear ho2)) | ((with_reducible refine gate_dst (N := 12) rfl ?_); (try (refine gate_guard (by rfl) ?_; dsimp only)); refine Kd.R_lit (Kd.int .i64) _ 3 ?hg (N := 12) ?hd (xs := ([0, 1, (-1)] : List Int)) (inner := [.int .i64 0, .int .i64 1, .int .i64 (-1)]) (ok := fun _ => True) (okp := fun _ => True) ?hr ?hp (fun _ hk => hk) trivial (Below.refl _ _) (Nat.le_refl _) (by simp) ?_; (case hd => rfl); (case hg => rfl); (case hr => first | (go_simp; done) | (go_simp; rfl)); (case hp => exact (Reps.one (show Kd.M (Kd.int .i64) _ _ _ 0 [.int .i64 0] from rfl) (Reps.one (show Kd.M (Kd.int .i64) _ _ _ 1 [.int .i64 1] from rfl) (Reps.one (show Kd.M (Kd.int .i64) _ _ _ (-1) [.int .i64 (-1)] from rfl) (Reps.none _ _))))); intro v212 w22 ho23 hb hg_ hnew_; clear hg_ hnew_; (first | rw [← Ny211.out] at ho23 | (simp only [Int.reduceToNat] at ho23; rw [← Ny211.out] at ho23)); replace HO203 := Aside0.mk (Kd.R_below (Kd.R_x HO203.out) hb); replace HO207 := Aside0.mk (Kd.N_elder' (Kd.N_x HO207.out) (Kd.R_base ho23) hb); replace HO210 := Aside0.mk (Kd.R_below (Kd.R_x HO210.out) hb); have HO213 := Aside0.mk (Kd.R_lower ho23 (below_size (below_x HB.out))); replace HB := Aside0.mk (below_step (below_x HB.out) hb); clear hb ho23; obtain ⟨Ao24, co24, eo24⟩ := Kd.R_slice HO203.out; subst eo24; obtain ⟨Ao25, co25, eo25⟩ := Kd.N_slice HO207.out; subst eo25; obtain ⟨Ao26, co26, eo26⟩ := Kd.R_slice HO210.out; subst eo26; obtain ⟨Ao27, co27, eo27⟩ := Kd.R_slice HO213.out; subst eo27) | ((with_reducible refine gate_callee (f := 35) rfl ?_); refine goesL_ (some 13) rfl rfl Try.func35 (by kernel_rfl) rfl #[.agg #[.int .i64 t198, .int .i64 t199, .int .i64 t200, .slice Ao24 t201.length co24, .int .i64 t204, .slice Ao25 t205.length co25, .slice Ao26 t208.length co26], .slice Ao27 y211.length co27] rfl (by (try simp only [List.map_toArray, List.map_cons, List.map_nil]); first | done | rfl | (simp only [List.length_drop, List.length_take]; rfl)) ?_; (with_reducible refine (ship_Drafts.calls t198 t199 t200 _ _ t201 t204 _ _ t205 _ _ t208 _ _ y211 t214 t215 t216 t217 t218 _ ?side1 ?side2 ?side3 ?side4 ?side5 ?side6 ?side7 ?side8 A2.out).mono ?_); (case side1 => exact Kd.C_y (Kd.R_reads' HO203.out).2.2); (case side2 => exact (Kd.R_reads' HO203.out).2.1); (case side3 => exact Kd.C_y (Kd.N_reads' HO207.out).2.2); (case side4 => exact (Kd.N_reads' HO207.out).2.1); (case side5 => exact Kd.C_y (Kd.R_reads' HO210.out).2.2); (case side6 => exact (Kd.R_reads' HO210.out).2.1); (case side7 => exact Kd.C_y (Kd.R_reads' HO213.out).2.2); (case side8 => exact (Kd.R_reads' HO213.out).2.1); rintro e w28 ⟨rfl, hb⟩; refine ⟨_, rfl, ?_⟩; replace HO203 := Aside0.mk (Kd.R_below (Kd.R_x HO203.out) hb); replace HO207 := Aside0.mk (Kd.N_below (Kd.N_x HO207.out) hb); replace HO210 := Aside0.mk (Kd.R_below (Kd.R_x HO210.out) hb); replace HO213 := Aside0.mk (Kd.R_below (Kd.R_x HO213.out) hb); replace HB := Aside0.mk (below_step (below_x HB.out) hb); (try clear hb); (try clear hk); (try clear hi)) | ((with_reducible refine gate_dst (N := 1) rfl ?_); (try (refine gate_guard (by rfl) ?_; dsimp only)); refine box_event ?hg (N := 1) ?hd (cs := #[.int .i64 0, .int .i64 0]) (t := 56) ?hr ?_; (case hd => rfl); (case hg => rfl); (case hr => first | (go_simp; done) | (go_simp; rfl)); intro gb219 hg w29 hbox hb; replace HO203 := Aside0.mk (Kd.R_below (Kd.R_x HO203.out) hb); replace HO207 := Aside0.mk (Kd.N_below (Kd.N_elderB (Kd.N_x HO207.out) gb219 (Nat.le_of_eq hg.symm)) hb); replace HO210 := Aside0.mk (Kd.R_below (Kd.R_x HO210.out) hb); replace HO213 := Aside0.mk (Kd.R_below (Kd.R_x HO213.out) hb); have BK219 := Aside0.mk (hbox); have GW219 := Aside0.mk ((by rw [hg]; exact (below_size (below_x HB.out)) : w.heap.size ≤ gb219)); have GE219 := Aside0.mk ((by rw [hg]; exact (below_size (below_x HB.out)) : w.heap.size ≤ gb219)); replace HB := Aside0.mk (below_step (below_x HB.out) hb); clear hb hbox hg) | ((with_reducible refine gate_dst (N := 2) rfl ?_); (try (refine gate_guard (by rfl) ?_; dsimp only)); refine box_event ?hg (N := 2) ?hd (cs := #[.int .i64 0, .int .i64 0]) (t := 56) ?hr ?_; (case hd => rfl); (case hg => rfl); (case hr => first | (go_simp; done) | (go_simp; rfl)); intro gb220 hg w30 hbox hb; replace HO203 := Aside0.mk (Kd.R_below (Kd.R_x HO203.out) hb); replace HO207 := Aside0.mk (Kd.N_below (Kd.N_elderB (Kd.N_x HO207.out) gb220 (Nat.le_of_eq hg.symm)) hb); replace HO210 := Aside0.mk (Kd.R_below (Kd.R_x HO210.out) hb); replace HO213 := Aside0.mk (Kd.R_below (Kd.R_x HO213.out) hb); have BK220 := Aside0.mk (hbox); have GW220 := Aside0.mk ((by rw [hg]; exact (below_size (by exact below_y HB.out)) : w.heap.size ≤ gb220)); have GE220 := Aside0.mk ((by rw [hg]; exact (below_size (by exact below_y HB.out)) : w.heap.size ≤ gb220)); replace HB := bl_x HB hb; have NB219_220 := Aside0.mk ((by rw [hg]; exact Nat.ne_of_lt (blk_lt (g := gb219) (o := .cells #[.int .i64 0, .int .i64 0] 56 (0, 0)) (blk_x BK219.out)) : gb219 ≠ gb220)); have NB220_219 := Aside0.mk ((by rw [hg]; exact Nat.ne_of_gt (blk_lt (g := gb219) (o := .cells #[.int .i64 0, .int .i64 0] 56 (0, 0)) (blk_x BK219.out)) : gb220 ≠ gb219)); replace BK219 := Aside0.mk (blk_below (blk_x BK219.out) hb); clear hb hbox hg; have hnb31 := NB219_220.out; have hnc31 := NB220_219.out; obtain ⟨_, _⟩ := cz2 BK219; have hfz32_0 := blk_frozen BK219.out; obtain ⟨_, _⟩ := cz2 BK220; have hfz33_0 := blk_frozen BK220.out) | ((with_reducible refine gate_callee (f := 52) rfl ?_); refine goesL_ (some 18) rfl rfl Try.func52 (by kernel_rfl) rfl #[] rfl (by (try simp only [List.map_toArray, List.map_cons, List.map_nil]); first | done | rfl | (simp only [List.length_drop, List.length_take]; rfl)) ?_; (with_reducible refine (swarflaw07_voyage.calls  t221 t222 t223 t224 t227 t228 t231 _ A3.out).mono ?_); rintro e w34 ⟨v225, v229, v232, rfl, ho0, ho1, ho2, hb⟩; refine ⟨_, rfl, ?_⟩; have HO226 := Aside0.mk (Kd.R_lower (Kd.R_new' (Kd.R_mono (ok' := fun k_ => True) ho0 (fun _ hk_ => trivial)) (Kd.R_lt (by (with_reducible repeat (first | apply Kd.R_alloc | apply Kd.R_drewN | apply Kd.R_drew)); exact (Kd.R_mono (Kd.R_mono (Kd.R_far (p := ⟨gb220, 1, none⟩) (Kd.R_far (p := ⟨gb220, 0, none⟩) (Kd.R_far (p := ⟨gb219, 1, none⟩) (Kd.R_far (p := ⟨gb219, 0, none⟩) (Kd.R_types (Kd.R_types HO203.out BK219.out (by decide)) BK220.out (by decide)) (fun _ hk => hk.1.2) (.int .i64 t214)) (fun _ hk => hk.1.2) (.int .i64 t215)) (fun _ hk => hk.2) (.int .i64 t216)) (fun _ hk => hk.2) (.int .i64 t217)) (fun _ h_ => h_.1)) (fun _ h_ => h_.1))))) (below_size (by exact below_y HB.out))); have HO230 := Aside0.mk (Kd.N_lower (Kd.N_mono (ok' := fun k_ => some k_ ≠ (v225 : Value).ownBlock ∧ some k_ ≠ (v232 : Value).ownBlock ∧ some k_ ≠ (.slice Ao24 t201.length co24 : Value).ownBlock ∧ some k_ ≠ (.slice Ao25 t205.length co25 : Value).ownBlock ∧ some k_ ≠ (.slice Ao26 t208.length co26 : Value).ownBlock ∧ some k_ ≠ (.slice Ao27 y211.length co27 : Value).ownBlock ∧ k_ ≠ gb219 ∧ k_ ≠ gb220) ho1 (fun k_ hk_ => ⟨hk_.2.1, hk_.2.2, (Kd.fresh' (Kd.R_lt (by (with_reducible repeat (first | apply Kd.R_alloc | apply Kd.R_drewN | apply Kd.R_drew)); exact (Kd.R_mono (Kd.R_mono (Kd.R_far (p := ⟨gb220, 1, none⟩) (Kd.R_far (p := ⟨gb220, 0, none⟩) (Kd.R_far (p := ⟨gb219, 1, none⟩) (Kd.R_far (p := ⟨gb219, 0, none⟩) (Kd.R_types (Kd.R_types HO203.out BK219.out (by decide)) BK220.out (by decide)) (fun _ hk => hk.1.2) (.int .i64 t214)) (fun _ hk => hk.1.2) (.int .i64 t215)) (fun _ hk => hk.2) (.int .i64 t216)) (fun _ hk => hk.2) (.int .i64 t217)) (fun _ h_ => h_.1)) (fun _ h_ => h_.1)))) k_ hk_.1), (Kd.fresh' (Kd.N_lt (by (with_reducible repeat (first | apply Kd.N_alloc | apply Kd.N_drewN | apply Kd.N_drew)); exact (Kd.N_mono (Kd.N_mono (Kd.N_far (p := ⟨gb220, 1, none⟩) (Kd.N_far (p := ⟨gb220, 0, none⟩) (Kd.N_far (p := ⟨gb219, 1, none⟩) (Kd.N_far (p := ⟨gb219, 0, none⟩) (Kd.N_mono (Kd.N_mono HO207.out (fun k_ hk => (⟨hk, hk.1.2⟩ : _ ∧ k_ ≠ gb219))) (fun k_ hk => (⟨hk, hk.1.2⟩ : _ ∧ k_ ≠ gb220))) (fun _ hk => hk.1.2) (.int .i64 t214)) (fun _ hk => hk.1.2) (.int .i64 t215)) (fun _ hk => hk.2) (.int .i64 t216)) (fun _ hk => hk.2) (.int .i64 t217)) (fun _ h_ => h_.1)) (fun _ h_ => h_.1)))) k_ hk_.1), (Kd.fresh' (Kd.R_lt (by (with_reducible repeat (first | apply Kd.R_alloc | apply Kd.R_drewN | apply Kd.R_drew)); exact (Kd.R_mono (Kd.R_mono (Kd.R_far (p := ⟨gb220, 1, none⟩) (Kd.R_far (p := ⟨gb220, 0, none⟩) (Kd.R_far (p := ⟨gb219, 1, none⟩) (Kd.R_far (p := ⟨gb219, 0, none⟩) (Kd.R_types (Kd.R_types HO210.out BK219.out (by decide)) BK220.out (by decide)) (fun _ hk => hk.1.2) (.int .i64 t214)) (fun _ hk => hk.1.2) (.int .i64 t215)) (fun _ hk => hk.2) (.int .i64 t216)) (fun _ hk => hk.2) (.int .i64 t217)) (fun _ h_ => h_.1)) (fun _ h_ => h_.1)))) k_ hk_.1), (Kd.fresh' (Kd.R_lt (by (with_reducible repeat (first | apply Kd.R_alloc | apply Kd.R_drewN | apply Kd.R_drew)); exact (Kd.R_mono (Kd.R_mono (Kd.R_far (p := ⟨gb220, 1, none⟩) (Kd.R_far (p := ⟨gb220, 0, none⟩) (Kd.R_far (p := ⟨gb219, 1, none⟩) (Kd.R_far (p := ⟨gb219, 0, none⟩) (Kd.R_types (Kd.R_types HO213.out BK219.out (by decide)) BK220.out (by decide)) (fun _ hk => hk.1.2) (.int .i64 t214)) (fun _ hk => hk.1.2) (.int .i64 t215)) (fun _ hk => hk.2) (.int .i64 t216)) (fun _ hk => hk.2) (.int .i64 t217)) (fun _ h_ => h_.1)) (fun _ h_ => h_.1)))) k_ hk_.1), (Kd.freshB (g := gb219) (o := .cells #[.int .i64 t214, .int .i64 t215] 56 (0, 0)) (by (with_reducible repeat (first | refine blk_drewN ?_ _ | refine blk_drew ?_ | refine blk_alloc ?_ _)); refine blk_far ?_ NB219_220.out _; (with_reducible repeat (first | refine blk_drewN ?_ _ | refine blk_drew ?_ | refine blk_alloc ?_ _)); refine blk_far ?_ NB219_220.out _; (with_reducible repeat (first | refine blk_drewN ?_ _ | refine blk_drew ?_ | refine blk_alloc ?_ _)); refine blk_put (cs := #[.int .i64 t214, .int .i64 0]) ?_ 1 _ rfl; (with_reducible repeat (first | refine blk_drewN ?_ _ | refine blk_drew ?_ | refine blk_alloc ?_ _)); refine blk_put (cs := #[.int .i64 0, .int .i64 0]) ?_ 0 _ rfl; (with_reducible repeat (first | refine blk_drewN ?_ _ | refine blk_drew ?_ | refine blk_alloc ?_ _)); exact BK219.out) k_ hk_.1), (Kd.freshB (g := gb220) (o := .cells #[.int .i64 t216, .int .i64 t217] 56 (0, 0)) (by (with_reducible repeat (first | refine blk_drewN ?_ _ | refine blk_drew ?_ | refine blk_alloc ?_ _)); refine blk_put (cs := #[.int .i64 t216, .int .i64 0]) ?_ 1 _ rfl; (with_reducible repeat (first | refine blk_drewN ?_ _ | refine blk_drew ?_ | refine blk_alloc ?_ _)); refine blk_put (cs := #[.int .i64 0, .int .i64 0]) ?_ 0 _ rfl; exact blk_w BK220.out) k_ hk_.1)⟩)) (below_size (by exact below_y HB.out))); replace HO203 := Aside0.mk (Kd.R_elder' (by (with_reducible repeat (first | apply Kd.R_alloc | apply Kd.R_drewN | apply Kd.R_drew)); exact (Kd.R_mono (Kd.R_mono (Kd.R_far (p := ⟨gb220, 1, none⟩) (Kd.R_far (p := ⟨gb220, 0, none⟩) (Kd.R_far (p := ⟨gb219, 1, none⟩) (Kd.R_far (p := ⟨gb219, 0, none⟩) (Kd.R_types (Kd.R_types HO203.out BK219.out (by decide)) BK220.out (by decide)) (fun _ hk => hk.1.2) (.int .i64 t214)) (fun _ hk => hk.1.2) (.int .i64 t215)) (fun _ hk => hk.2) (.int .i64 t216)) (fun _ hk => hk.2) (.int .i64 t217)) (fun _ h_ => h_.1)) (fun _ h_ => h_.1))) (Kd.R_base ho0) hb); replace HO207 := Aside0.mk (Kd.N_mono (Kd.N_told (Kd.N_told (Kd.N_told (Kd.N_old (by (with_reducible repeat (first | apply Kd.N_alloc | apply Kd.N_drewN | apply Kd.N_drew)); exact (Kd.N_mono (Kd.N_mono (Kd.N_far (p := ⟨gb220, 1, none⟩) (Kd.N_far (p := ⟨gb220, 0, none⟩) (Kd.N_far (p := ⟨gb219, 1, none⟩) (Kd.N_far (p := ⟨gb219, 0, none⟩) (Kd.N_mono (Kd.N_mono HO207.out (fun k_ hk => (⟨hk, hk.1.2⟩ : _ ∧ k_ ≠ gb219))) (fun k_ hk => (⟨hk, hk.1.2⟩ : _ ∧ k_ ≠ gb220))) (fun _ hk => hk.1.2) (.int .i64 t214)) (fun _ hk => hk.1.2) (.int .i64 t215)) (fun _ hk => hk.2) (.int .i64 t216)) (fun _ hk => hk.2) (.int .i64 t217)) (fun _ h_ => h_.1)) (fun _ h_ => h_.1))) hb) (Kd.R_base ho0)) (Kd.N_base ho1)) (Kd.R_base ho2)) (fun _ h_ => h_.1)); replace HO213 := Aside0.mk (Kd.R_below (by (with_reducible repeat (first | apply Kd.R_alloc | apply Kd.R_drewN | apply Kd.R_drew)); exact (Kd.R_mono (Kd.R_mono (Kd.R_far (p := ⟨gb220, 1, none⟩) (Kd.R_far (p := ⟨gb220, 0, none⟩) (Kd.R_far (p := ⟨gb219, 1, none⟩) (Kd.R_far (p := ⟨gb219, 0, none⟩) (Kd.R_types (Kd.R_types HO213.out BK219.out (by decide)) BK220.out (by decide)) (fun _ hk => hk.1.2) (.int .i64 t214)) (fun _ hk => hk.1.2) (.int .i64 t215)) (fun _ hk => hk.2) (.int .i64 t216)) (fun _ hk => hk.2) (.int .i64 t217)) (fun _ h_ => h_.1)) (fun _ h_ => h_.1))) hb); have HO233 := Aside0.mk (Kd.R_lower (Kd.R_new' (Kd.R_mono (ok' := fun k_ => True) ho2 (fun _ hk_ => trivial)) (Kd.R_lt (by (with_reducible repeat (first | apply Kd.R_alloc | apply Kd.R_drewN | apply Kd.R_drew)); exact (Kd.R_mono (Kd.R_mono (Kd.R_far (p := ⟨gb220, 1, none⟩) (Kd.R_far (p := ⟨gb220, 0, none⟩) (Kd.R_far (p := ⟨gb219, 1, none⟩) (Kd.R_far (p := ⟨gb219, 0, none⟩) (Kd.R_types (Kd.R_types HO210.out BK219.out (by decide)) BK220.out (by decide)) (fun _ hk => hk.1.2) (.int .i64 t214)) (fun _ hk => hk.1.2) (.int .i64 t215)) (fun _ hk => hk.2) (.int .i64 t216)) (fun _ hk => hk.2) (.int .i64 t217)) (fun _ h_ => h_.1)) (fun _ h_ => h_.1))))) (below_size (by exact below_y HB.out))); replace HO210 := Aside0.mk (Kd.R_elder' (by (with_reducible repeat (first | apply Kd.R_alloc | apply Kd.R_drewN | apply Kd.R_drew)); exact (Kd.R_mono (Kd.R_mono (Kd.R_far (p := ⟨gb220, 1, none⟩) (Kd.R_far (p := ⟨gb220, 0, none⟩) (Kd.R_far (p := ⟨gb219, 1, none⟩) (Kd.R_far (p := ⟨gb219, 0, none⟩) (Kd.R_types (Kd.R_types HO210.out BK219.out (by decide)) BK220.out (by decide)) (fun _ hk => hk.1.2) (.int .i64 t214)) (fun _ hk => hk.1.2) (.int .i64 t215)) (fun _ hk => hk.2) (.int .i64 t216)) (fun _ hk => hk.2) (.int .i64 t217)) (fun _ h_ => h_.1)) (fun _ h_ => h_.1))) (Kd.R_base ho2) hb); replace BK219 := Aside0.mk (blk_below (g := gb219) (o := .cells #[.int .i64 t214, .int .i64 t215] 56 (0, 0)) (by (with_reducible repeat (first | refine blk_drewN ?_ _ | refine blk_drew ?_ | refine blk_alloc ?_ _)); refine blk_far ?_ NB219_220.out _; (with_reducible repeat (first | refine blk_drewN ?_ _ | refine blk_drew ?_ | refine blk_alloc ?_ _)); refine blk_far ?_ NB219_220.out _; (with_reducible repeat (first | refine blk_drewN ?_ _ | refine blk_drew ?_ | refine blk_alloc ?_ _)); refine blk_put (cs := #[.int .i64 t214, .int .i64 0]) ?_ 1 _ rfl; (with_reducible repeat (first | refine blk_drewN ?_ _ | refine blk_drew ?_ | refine blk_alloc ?_ _)); refine blk_put (cs := #[.int .i64 0, .int .i64 0]) ?_ 0 _ rfl; (with_reducible repeat (first | refine blk_drewN ?_ _ | refine blk_drew ?_ | refine blk_alloc ?_ _)); exact BK219.out) hb); replace BK220 := Aside0.mk (blk_below (g := gb220) (o := .cells #[.int .i64 t216, .int .i64 t217] 56 (0, 0)) (by (with_reducible repeat (first | refine blk_drewN ?_ _ | refine blk_drew ?_ | refine blk_alloc ?_ _)); refine blk_put (cs := #[.int .i64 t216, .int .i64 0]) ?_ 1 _ rfl; (with_reducible repeat (first | refine blk_drewN ?_ _ | refine blk_drew ?_ | refine blk_alloc ?_ _)); refine blk_put (cs := #[.int .i64 0, .int .i64 0]) ?_ 0 _ rfl; exact blk_w BK220.out) hb); replace HB := bl_x HB hb; (try clear hb); (try clear hk); (try clear hi); (try clear ho0); (try clear ho1); (try clear ho2)) | ((with_reducible refine gate_dst (N := 19) rfl ?_); (try (refine gate_guard (by rfl) ?_; dsimp only)); refine Kd.R_lit (Kd.int .i64) _ 3 ?hg (N := 19) ?hd (xs := ([0, 1, (-1)] : List Int)) (inner := [.int .i64 0, .int .i64 1, .int .i64 (-1)]) (ok := fun _ => True) (okp := fun _ => True) ?hr ?hp (fun _ hk => hk) trivial (Below.refl _ _) (Nat.le_refl _) (by simp) ?_; (case hd => rfl); (case hg => rfl); (case hr => first | (go_simp; done) | (go_simp; rfl)); (case hp => exact (Reps.one (show Kd.M (Kd.int .i64) _ _ _ 0 [.int .i64 0] from rfl) (Reps.one (show Kd.M (Kd.int .i64) _ _ _ 1 [.int .i64 1] from rfl) (Reps.one (show Kd.M (Kd.int .i64) _ _ _ (-1) [.int .i64 (-1)] from rfl) (Reps.none _ _))))); intro v235 w35 ho36 hb hg_ hnew_; clear hg_ hnew_; (first | rw [← Ny234.out] at ho36 | (simp only [Int.reduceToNat] at ho36; rw [← Ny234.out] at ho36)); replace HO203 := Aside0.mk (Kd.R_below (Kd.R_x HO203.out) hb); replace HO207 := Aside0.mk (Kd.N_elder' (Kd.N_x HO207.out) (Kd.R_base ho36) hb); replace HO210 := Aside0.mk (Kd.R_below (Kd.R_x HO210.out) hb); replace HO226 := Aside0.mk (Kd.R_below (Kd.R_x HO226.out) hb); replace HO230 := Aside0.mk (Kd.N_elder' (Kd.N_x HO230.out) (Kd.R_base ho36) hb); replace HO233 := Aside0.mk (Kd.R_below (Kd.R_x HO233.out) hb); have HO236 := Aside0.mk (Kd.R_lower (Kd.R_new' ho36 (Kd.R_lt (Kd.R_x HO213.out))) (below_size (by exact below_y HB.out))); replace HO213 := Aside0.mk (Kd.R_elder' (Kd.R_x HO213.out) (Kd.R_base ho36) hb); replace BK219 := Aside0.mk (blk_below (blk_x BK219.out) hb); replace BK220 := Aside0.mk (blk_below (blk_x BK220.out) hb); replace HB := bl_x HB hb; clear hb ho36; obtain ⟨Ao37, co37, eo37⟩ := Kd.R_slice HO226.out; subst eo37; obtain ⟨Ao38, co38, eo38⟩ := Kd.N_slice HO230.out; subst eo38; obtain ⟨Ao39, co39, eo39⟩ := Kd.R_slice HO233.out; subst eo39; obtain ⟨Ao40, co40, eo40⟩ := Kd.R_slice HO236.out; subst eo40) | ((with_reducible refine gate_callee (f := 22) rfl ?_); refine goesL_ (some 20) rfl rfl Try.func22 (by kernel_rfl) rfl #[.agg #[.int .i64 t221, .int .i64 t222, .int .i64 t223, .slice Ao37 t224.length co37, .int .i64 t227, .slice Ao38 t228.length co38, .slice Ao39 t231.length co39], .slice Ao40 y234.length co40] rfl (by (try simp only [List.map_toArray, List.map_cons, List.map_nil]); first | done | rfl | (simp only [List.length_drop, List.length_take]; rfl)) ?_; (with_reducible refine (ship_Sail.calls t221 t222 t223 _ _ t224 t227 _ _ t228 _ _ t231 _ _ y234 t237 t238 t241 _ ?side1 ?side2 ?side3 ?side4 ?side5 ?side6 ?side7 ?side8 A4.out).mono ?_); (case side1 => exact Kd.C_y (Kd.R_reads' HO226.out).2.2); (case side2 => exact (Kd.R_reads' HO226.out).2.1); (case side3 => exact Kd.C_y (Kd.N_reads' HO230.out).2.2); (case side4 => exact (Kd.N_reads' HO230.out).2.1); (case side5 => exact Kd.C_y (Kd.R_reads' HO233.out).2.2); (case side6 => exact (Kd.R_reads' HO233.out).2.1); (case side7 => exact Kd.C_y (Kd.R_reads' HO236.out).2.2); (case side8 => exact (Kd.R_reads' HO236.out).2.1); rintro e w41 ⟨v239, rfl, ho0, hb⟩; refine ⟨_, rfl, ?_⟩; replace HO203 := Aside0.mk (Kd.R_below (Kd.R_x HO203.out) hb); replace HO207 := Aside0.mk (Kd.N_elder' (Kd.N_x HO207.out) (Kd.R_base ho0) hb); replace HO210 := Aside0.mk (Kd.R_below (Kd.R_x HO210.out) hb); replace HO213 := Aside0.mk (Kd.R_below (Kd.R_x HO213.out) hb); replace HO226 := Aside0.mk (Kd.R_below (Kd.R_x HO226.out) hb); replace HO230 := Aside0.mk (Kd.N_elder' (Kd.N_x HO230.out) (Kd.R_base ho0) hb); replace HO233 := Aside0.mk (Kd.R_below (Kd.R_x HO233.out) hb); replace HO236 := Aside0.mk (Kd.R_below (Kd.R_x HO236.out) hb); have HO240 := Aside0.mk (Kd.R_lower (Kd.R_newB (Kd.R_newB ho0 (g := gb219) (o := .cells #[.int .i64 t214, .int .i64 t215] 56 (0, 0)) (blk_x BK219.out)) (g := gb220) (o := .cells #[.int .i64 t216, .int .i64 t217] 56 (0, 0)) (blk_x BK220.out)) (below_size (by exact below_y HB.out))); replace BK219 := Aside0.mk (blk_below (blk_x BK219.out) hb); replace BK220 := Aside0.mk (blk_below (blk_x BK220.out) hb); replace HB := bl_x HB hb; (try clear hb); (try clear hk); (try clear hi); (try clear ho0)) | ((with_reducible refine gate_callee (f := 52) rfl ?_); refine goesL_ (some 25) rfl rfl Try.func52 (by kernel_rfl) rfl #[] rfl (by (try simp only [List.map_toArray, List.map_cons, List.map_nil]); first | done | rfl | (simp only [List.length_drop, List.length_take]; rfl)) ?_; (with_reducible refine (swarflaw07_voyage.calls  t242 t243 t244 t245 t248 t249 t252 _ A5.out).mono ?_); rintro e w42 ⟨v246, v250, v253, rfl, ho0, ho1, ho2, hb⟩; refine ⟨_, rfl, ?_⟩; have HO247 := Aside0.mk (Kd.R_lower (Kd.R_new' (Kd.R_new' (Kd.R_mono (ok' := fun k_ => True) ho0 (fun _ hk_ => trivial)) (Kd.R_lt (Kd.R_x HO203.out))) (Kd.R_lt (Kd.R_x HO226.out))) (below_size (by exact below_y HB.out))); have HO251 := Aside0.mk (Kd.N_lower (Kd.N_mono (ok' := fun k_ => some k_ ≠ (v246 : Value).ownBlock ∧ some k_ ≠ (v253 : Value).ownBlock ∧ some k_ ≠ (.slice Ao24 t201.length co24 : Value).ownBlock ∧ some k_ ≠ (.slice Ao25 t205.length co25 : Value).ownBlock ∧ some k_ ≠ (.slice Ao26 t208.length co26 : Value).ownBlock ∧ some k_ ≠ (.slice Ao27 y211.length co27 : Value).ownBlock ∧ some k_ ≠ (.slice Ao37 t224.length co37 : Value).ownBlock ∧ some k_ ≠ (.slice Ao38 t228.length co38 : Value).ownBlock ∧ some k_ ≠ (.slice Ao39 t231.length co39 : Value).ownBlock ∧ some k_ ≠ (.slice Ao40 y234.length co40 : Value).ownBlock ∧ some k_ ≠ (v239 : Value).ownBlock ∧ k_ ≠ gb219 ∧ k_ ≠ gb220) ho1 (fun k_ hk_ => ⟨hk_.2.1, hk_.2.2, (Kd.fresh' (Kd.R_lt (Kd.R_x HO203.out)) k_ hk_.1), (Kd.fresh' (Kd.N_lt (Kd.N_x HO207.out)) k_ hk_.1), (Kd.fresh' (Kd.R_lt (Kd.R_x HO210.out)) k_ hk_.1), (Kd.fresh' (Kd.R_lt (Kd.R_x HO213.out)) k_ hk_.1), (Kd.fresh' (Kd.R_lt (Kd.R_x HO226.out)) k_ hk_.1), (Kd.fresh' (Kd.N_lt (Kd.N_x HO230.out)) k_ hk_.1), (Kd.fresh' (Kd.R_lt (Kd.R_x HO233.out)) k_ hk_.1), (Kd.fresh' (Kd.R_lt (Kd.R_x HO236.out)) k_ hk_.1), (Kd.fresh' (Kd.R_lt (Kd.R_x HO240.out)) k_ hk_.1), (Kd.freshB (g := gb219) (o := .cells #[.int .i64 t214, .int .i64 t215] 56 (0, 0)) (blk_x BK219.out) k_ hk_.1), (Kd.freshB (g := gb220) (o := .cells #[.int .i64 t216, .int .i64 t217] 56 (0, 0)) (blk_x BK220.out) k_ hk_.1)⟩)) (below_size (by exact below_y HB.out))); replace HO203 := Aside0.mk (Kd.R_elder' (Kd.R_x HO203.out) (Kd.R_base ho0) hb); replace HO207 := Aside0.mk (Kd.N_mono (Kd.N_told (Kd.N_told (Kd.N_told (Kd.N_old (Kd.N_x HO207.out) hb) (Kd.R_base ho0)) (Kd.N_base ho1)) (Kd.R_base ho2)) (fun _ h_ => h_.1)); replace HO213 := Aside0.mk (Kd.R_below (Kd.R_x HO213.out) hb); replace HO226 := Aside0.mk (Kd.R_elder' (Kd.R_x HO226.out) (Kd.R_base ho0) hb); replace HO230 := Aside0.mk (Kd.N_mono (Kd.N_told (Kd.N_told (Kd.N_told (Kd.N_old (Kd.N_x HO230.out) hb) (Kd.R_base ho0)) (Kd.N_base ho1)) (Kd.R_base ho2)) (fun _ h_ => h_.1)); replace HO236 := Aside0.mk (Kd.R_below (Kd.R_x HO236.out) hb); replace HO240 := Aside0.mk (Kd.R_below (Kd.R_x HO240.out) hb); have HO254 := Aside0.mk (Kd.R_lower (Kd.R_new' (Kd.R_new' (Kd.R_mono (ok' := fun k_ => True) ho2 (fun _ hk_ => trivial)) (Kd.R_lt (Kd.R_x HO210.out))) (Kd.R_lt (Kd.R_x HO233.out))) (below_size (by exact below_y HB.out))); replace HO210 := Aside0.mk (Kd.R_elder' (Kd.R_x HO210.out) (Kd.R_base ho2) hb); replace HO233 := Aside0.mk (Kd.R_elder' (Kd.R_x HO233.out) (Kd.R_base ho2) hb); replace BK219 := Aside0.mk (blk_below (blk_x BK219.out) hb); replace BK220 := Aside0.mk (blk_below (blk_x BK220.out) hb); replace HB := bl_x HB hb; (try clear hb); (try clear hk); (try clear hi); (try clear ho0); (try clear ho1); (try clear ho2); obtain ⟨Ao43, co43, eo43⟩ := Kd.R_slice HO247.out; subst eo43; obtain ⟨Ao44, co44, eo44⟩ := Kd.N_slice HO251.out; subst eo44; obtain ⟨Ao45, co45, eo45⟩ := Kd.R_slice HO254.out; subst eo45) | ((with_reducible refine gate_callee (f := 28) rfl ?_); refine goesL_ (some 26) rfl rfl Try.func28 (by kernel_rfl) rfl #[.agg #[.int .i64 t242, .int .i64 t243, .int .i64 t244, .slice Ao43 t245.length co43, .int .i64 t248, .slice Ao44 t249.length co44, .slice Ao45 t252.length co45]] rfl (by (try simp only [List.map_toArray, List.map_cons, List.map_nil]); first | done | rfl | (simp only [List.length_drop, List.length_take]; rfl)) ?_; (with_reducible refine (ship_Best.calls t242 t243 t244 _ _ t245 t248 _ _ t249 _ _ t252 t255 t258 t259 _ ?side1 ?side2 ?side3 ?side4 ?side5 ?side6 A6.out).mono ?_); (case side1 => exact Kd.C_y (Kd.R_reads' HO247.out).2.2); (case side2 => exact (Kd.R_reads' HO247.out).2.1); (case side3 => exact Kd.C_y (Kd.N_reads' HO251.out).2.2); (case side4 => exact (Kd.N_reads' HO251.out).2.1); (case side5 => exact Kd.C_y (Kd.R_reads' HO254.out).2.2); (case side6 => exact (Kd.R_reads' HO254.out).2.1); rintro e w46 ⟨v256, rfl, ho0, hb⟩; refine ⟨_, rfl, ?_⟩; replace HO203 := Aside0.mk (Kd.R_below (Kd.R_x HO203.out) hb); replace HO207 := Aside0.mk (Kd.N_elder' (Kd.N_x HO207.out) (Kd.R_base ho0) hb); replace HO210 := Aside0.mk (Kd.R_below (Kd.R_x HO210.out) hb); replace HO226 := Aside0.mk (Kd.R_below (Kd.R_x HO226.out) hb); replace HO230 := Aside0.mk (Kd.N_elder' (Kd.N_x HO230.out) (Kd.R_base ho0) hb); replace HO233 := Aside0.mk (Kd.R_below (Kd.R_x HO233.out) hb); replace HO240 := Aside0.mk (Kd.R_below (Kd.R_x HO240.out) hb); replace HO247 := Aside0.mk (Kd.R_below (Kd.R_x HO247.out) hb); replace HO251 := Aside0.mk (Kd.N_elder' (Kd.N_x HO251.out) (Kd.R_base ho0) hb); replace HO254 := Aside0.mk (Kd.R_below (Kd.R_x HO254.out) hb); have HO257 := Aside0.mk (Kd.R_lower (Kd.R_new' (Kd.R_new' ho0 (Kd.R_lt (Kd.R_x HO213.out))) (Kd.R_lt (Kd.R_x HO236.out))) (below_size (by exact below_y HB.out))); replace HO213 := Aside0.mk (Kd.R_elder' (Kd.R_x HO213.out) (Kd.R_base ho0) hb); replace HO236 := Aside0.mk (Kd.R_elder' (Kd.R_x HO236.out) (Kd.R_base ho0) hb); replace BK219 := Aside0.mk (blk_below (blk_x BK219.out) hb); replace BK220 := Aside0.mk (blk_below (blk_x BK220.out) hb); replace HB := bl_x HB hb; (try clear hb); (try clear hk); (try clear hi); (try clear ho0)))
         replace HO203 := Aside0.mk (Kd.R_drew HO203.out)
         replace HO207 := Aside0.mk (Kd.N_drew HO207.out)
         replace HO210 := Aside0.mk (Kd.R_drew HO210.out)
         replace HO213 := Aside0.mk (Kd.R_drew HO213.out)
         replace HO226 := Aside0.mk (Kd.R_drew HO226.out)
         replace HO230 := Aside0.mk (Kd.N_drew HO230.out)
         replace HO233 := Aside0.mk (Kd.R_drew HO233.out)
         replace HO236 := Aside0.mk (Kd.R_drew HO236.out)
         replace HO240 := Aside0.mk (Kd.R_drew HO240.out)
         replace HO247 := Aside0.mk (Kd.R_drew HO247.out)
         replace HO251 := Aside0.mk (Kd.N_drew HO251.out)
         replace HO254 := Aside0.mk (Kd.R_drew HO254.out)
         replace HO257 := Aside0.mk (Kd.R_drew HO257.out)
         replace BK219 := Aside0.mk (blk_drew BK219.out)
         replace BK220 := Aside0.mk (blk_drew BK220.out)
         replace HB := Aside0.mk (below_drew1 HB.out)
         refine start_ (n := 41) (S := fun w' => w'.cell? ⟨gb219, 0, none⟩ = some (.int .i64 t214) ∧ w'.cell? ⟨gb219, 1, none⟩ = some (.int .i64 t215) ∧ w'.cell? ⟨gb220, 0, none⟩ = some (.int .i64 t216) ∧ w'.cell? ⟨gb220, 1, none⟩ = some (.int .i64 t217)) (ds := []) #[false, false, false, false, false, false, false, false, false, false, false, false, false, false, false, false, false, false, false, false, false, false, false, false, false, false, false, false, false, false, false, false, false, false, false, false, false, false, false, false, false] (by kernel_rfl) rfl rfl ⟨(blk_cell BK219.out 0).trans rfl, (blk_cell BK219.out 1).trans rfl, (blk_cell BK220.out 0).trans rfl, (blk_cell BK220.out 1).trans rfl⟩ (fun hHeld => ?_); refine with_tabW swarflaw07_awake.tab4 swarflaw07_awake.bits4 (fun HT_ HW_ => ?_)
         generalize w46.drew = w47 at HO203 HO207 HO210 HO213 HO226 HO230 HO233 HO236 HO240 HO247 HO251 HO254 HO257 BK219 BK220 HB hHeld ⊢
         refine pure_t 0 (some 30) (bz 41 1) HT_ ?_
         refine pure_t 1 (some 31) (bz 41 3) HT_ ?_
         refine pure_t 2 (some 32) (bz 41 7) HT_ ?_
         refine pure_t 3 (some 33) (bz 41 15) HT_ ?_
         refine pure_t 4 (some 34) (bz 41 31) HT_ ?_
         refine pure_t 5 (some 35) (bz 41 63) HT_ ?_
         refine pure_t 6 (some 36) (bz 41 127) HT_ ?_
         refine pure_t 7 (some 37) (bz 41 255) HT_ ?_
         refine pure_t 8 (some 38) (bz 41 511) HT_ ?_
         refine pure_t 9 (some 39) (bz 41 1023) HT_ ?_
         refine pure_t 10 (some 40) (bz 41 2047) HT_ ?_
         refine take_ (i := 11) (N := some 41) (v := ?_) (a' := ?_) (bz 41 4095) rfl rfl (take_ofW HT_.out HW_.out (by kernel_rfl)) (fun _ _ _ h => h) (Or.inl ⟨by rfl, ?_⟩) hHeld ?_ ?_
         rotate_left; (rintro w' ⟨s0, s1, s2, s3⟩; go_simp; with_reducible rfl); rotate_left; (simp only [Act.put, put_x, i64_w, i32_w]; rfl)
         refine one_ (i := 12) (N := some 42) (bz 41 8191) rfl rfl (one_of HT_.out (by kernel_rfl)) (by decide) (fun K hK => ?_)
         refine goes_ Try.func32 (by kernel_rfl) rfl #[.int .i64 1290000, .int .i64 1340000] (by rfl) rfl rfl (by (try simp only [List.map_toArray, List.map_cons, List.map_nil]); first | done | rfl | (simp only [List.length_drop, List.length_take]; rfl)) ?_
         with_reducible refine (swarflaw07_rng.calls 1290000 1340000 t260 t261 _ A10.out).mono ?_
         rintro e w48 ⟨rfl, hb⟩
         refine ⟨_, rfl, ?_⟩
         replace HO203 := Aside0.mk (Kd.R_below (Kd.R_x HO203.out) hb)
         replace HO207 := Aside0.mk (Kd.N_below (Kd.N_x HO207.out) hb)
         replace HO210 := Aside0.mk (Kd.R_below (Kd.R_x HO210.out) hb)
         replace HO213 := Aside0.mk (Kd.R_below (Kd.R_x HO213.out) hb)
         replace HO226 := Aside0.mk (Kd.R_below (Kd.R_x HO226.out) hb)
         replace HO230 := Aside0.mk (Kd.N_below (Kd.N_x HO230.out) hb)
         replace HO233 := Aside0.mk (Kd.R_below (Kd.R_x HO233.out) hb)
         replace HO236 := Aside0.mk (Kd.R_below (Kd.R_x HO236.out) hb)
         replace HO240 := Aside0.mk (Kd.R_below (Kd.R_x HO240.out) hb)
         replace HO247 := Aside0.mk (Kd.R_below (Kd.R_x HO247.out) hb)
         replace HO251 := Aside0.mk (Kd.N_below (Kd.N_x HO251.out) hb)
         replace HO254 := Aside0.mk (Kd.R_below (Kd.R_x HO254.out) hb)
         replace HO257 := Aside0.mk (Kd.R_below (Kd.R_x HO257.out) hb)
         replace BK219 := Aside0.mk (blk_below (blk_x BK219.out) hb)
         replace BK220 := Aside0.mk (blk_below (blk_x BK220.out) hb)
         replace HB := bl_x HB hb
         (try clear hb)
         (try clear hb2)
         (try clear hk)
         (try clear hi)
         refine hK.out _ _ ⟨(blk_cell BK219.out 0).trans rfl, (blk_cell BK219.out 1).trans rfl, (blk_cell BK220.out 0).trans rfl, (blk_cell BK220.out 1).trans rfl⟩ (fun hHeld => ?_)
         clear hK K
         refine norm_ (a' := ?_) ?_ ?_; rotate_left; (show Act.put _ (some 42) _ = _; simp only [Act.put, put_x, i64_w, i32_w]; rfl)
         refine pure_t 13 (some 43) (bz 41 16383) HT_ ?_
         refine pure_t 14 (some 44) (bz 41 32767) HT_ ?_
         refine pure_t 15 (some 45) (bz 41 65535) HT_ ?_
         refine take_ (i := 16) (N := some 46) (v := ?_) (a' := ?_) (bz 41 131071) rfl rfl (take_ofW HT_.out HW_.out (by kernel_rfl)) (fun _ _ _ h => h) (Or.inl ⟨by rfl, ?_⟩) hHeld ?_ ?_
         rotate_left; (rintro w' ⟨s0, s1, s2, s3⟩; go_simp; with_reducible rfl); rotate_left; (simp only [Act.put, put_x, i64_w, i32_w]; rfl)
         refine one_ (i := 17) (N := some 47) (bz 41 262143) rfl rfl (one_of HT_.out (by kernel_rfl)) (by decide) (fun K hK => ?_)
         refine goes_ Try.func32 (by kernel_rfl) rfl #[.int .i64 1260000, .int .i64 1310000] (by rfl) rfl rfl (by (try simp only [List.map_toArray, List.map_cons, List.map_nil]); first | done | rfl | (simp only [List.length_drop, List.length_take]; rfl)) ?_
         with_reducible refine (swarflaw07_rng.calls 1260000 1310000 t262 t263 _ A12.out).mono ?_
         rintro e w49 ⟨rfl, hb⟩
         refine ⟨_, rfl, ?_⟩
         replace HO203 := Aside0.mk (Kd.R_below (Kd.R_x HO203.out) hb)
         replace HO207 := Aside0.mk (Kd.N_below (Kd.N_x HO207.out) hb)
         replace HO210 := Aside0.mk (Kd.R_below (Kd.R_x HO210.out) hb)
         replace HO213 := Aside0.mk (Kd.R_below (Kd.R_x HO213.out) hb)
         replace HO226 := Aside0.mk (Kd.R_below (Kd.R_x HO226.out) hb)
         replace HO230 := Aside0.mk (Kd.N_below (Kd.N_x HO230.out) hb)
         replace HO233 := Aside0.mk (Kd.R_below (Kd.R_x HO233.out) hb)
         replace HO236 := Aside0.mk (Kd.R_below (Kd.R_x HO236.out) hb)
         replace HO240 := Aside0.mk (Kd.R_below (Kd.R_x HO240.out) hb)
         replace HO247 := Aside0.mk (Kd.R_below (Kd.R_x HO247.out) hb)
         replace HO251 := Aside0.mk (Kd.N_below (Kd.N_x HO251.out) hb)
         replace HO254 := Aside0.mk (Kd.R_below (Kd.R_x HO254.out) hb)
         replace HO257 := Aside0.mk (Kd.R_below (Kd.R_x HO257.out) hb)
         replace BK219 := Aside0.mk (blk_below (blk_x BK219.out) hb)
         replace BK220 := Aside0.mk (blk_below (blk_x BK220.out) hb)
         replace HB := bl_x HB hb
         (try clear hb)
         (try clear hb2)
         (try clear hk)
         (try clear hi)
         refine hK.out _ _ ⟨(blk_cell BK219.out 0).trans rfl, (blk_cell BK219.out 1).trans rfl, (blk_cell BK220.out 0).trans rfl, (blk_cell BK220.out 1).trans rfl⟩ (fun hHeld => ?_)
         clear hK K
         refine norm_ (a' := ?_) ?_ ?_; rotate_left; (show Act.put _ (some 47) _ = _; simp only [Act.put, put_x, i64_w, i32_w]; rfl)
         refine pure_t 18 (some 48) (bz 41 524287) HT_ ?_
         refine pure_t 19 (some 49) (bz 41 1048575) HT_ ?_
         refine pure_t 20 (some 50) (bz 41 2097151) HT_ ?_
         refine pure_t 21 (some 51) (bz 41 4194303) HT_ ?_
         refine pure_t 22 (some 52) (bz 41 8388607) HT_ ?_
         refine pure_t 23 (some 53) (bz 41 16777215) HT_ ?_
         refine pure_t 24 (some 54) (bz 41 33554431) HT_ ?_
         refine pure_t 25 (some 55) (bz 41 67108863) HT_ ?_
         refine pure_t 26 (some 56) (bz 41 134217727) HT_ ?_
         refine pure_t 27 (some 57) (bz 41 268435455) HT_ ?_
         refine pure_t 28 (some 58) (bz 41 536870911) HT_ ?_
         refine pure_t 29 (some 59) (bz 41 1073741823) HT_ ?_
         refine one_ (i := 30) (N := some 60) (bz 41 2147483647) rfl rfl (one_of HT_.out (by kernel_rfl)) (by decide) (fun K hK => ?_)
         refine Kd.R_lit_step (Kd.int .i64) _ 3 ?hg (N := 60) ?hd (xs := ([0, (-1), 1] : List Int)) (inner := [.int .i64 0, .int .i64 (-1), .int .i64 1]) (ok := fun _ => True) (okp := fun _ => True) ?hr ?hp (fun _ hk => hk) trivial (Below.refl _ _) (Nat.le_refl _) (by simp) ?_; (case hd => rfl); (case hg => rfl); (case hr => first | (go_simp; done) | (go_simp; rfl)); (case hp => exact (Reps.one (show Kd.M (Kd.int .i64) _ _ _ 0 [.int .i64 0] from rfl) (Reps.one (show Kd.M (Kd.int .i64) _ _ _ (-1) [.int .i64 (-1)] from rfl) (Reps.one (show Kd.M (Kd.int .i64) _ _ _ 1 [.int .i64 1] from rfl) (Reps.none _ _)))))
         intro v265 w50 ho51 hb hg_ hnew_
         clear hg_ hnew_
         (first | rw [← Ny264.out] at ho51 | (simp only [Int.reduceToNat] at ho51; rw [← Ny264.out] at ho51))
         replace HO203 := Aside0.mk (Kd.R_below (Kd.R_x HO203.out) hb)
         replace HO207 := Aside0.mk (Kd.N_elder' (Kd.N_x HO207.out) (Kd.R_base ho51) hb)
         replace HO210 := Aside0.mk (Kd.R_below (Kd.R_x HO210.out) hb)
         replace HO226 := Aside0.mk (Kd.R_below (Kd.R_x HO226.out) hb)
         replace HO230 := Aside0.mk (Kd.N_elder' (Kd.N_x HO230.out) (Kd.R_base ho51) hb)
         replace HO233 := Aside0.mk (Kd.R_below (Kd.R_x HO233.out) hb)
         replace HO240 := Aside0.mk (Kd.R_below (Kd.R_x HO240.out) hb)
         replace HO247 := Aside0.mk (Kd.R_below (Kd.R_x HO247.out) hb)
         replace HO251 := Aside0.mk (Kd.N_elder' (Kd.N_x HO251.out) (Kd.R_base ho51) hb)
         replace HO254 := Aside0.mk (Kd.R_below (Kd.R_x HO254.out) hb)
         have HO266 := Aside0.mk (Kd.R_lower (Kd.R_new' (Kd.R_new' (Kd.R_new' ho51 (Kd.R_lt (Kd.R_x HO213.out))) (Kd.R_lt (Kd.R_x HO236.out))) (Kd.R_lt (Kd.R_x HO257.out))) (below_size (by exact below_y HB.out)))
         replace HO213 := Aside0.mk (Kd.R_elder' (Kd.R_x HO213.out) (Kd.R_base ho51) hb)
         replace HO236 := Aside0.mk (Kd.R_elder' (Kd.R_x HO236.out) (Kd.R_base ho51) hb)
         replace HO257 := Aside0.mk (Kd.R_elder' (Kd.R_x HO257.out) (Kd.R_base ho51) hb)
         replace BK219 := Aside0.mk (blk_below (blk_x BK219.out) hb)
         replace BK220 := Aside0.mk (blk_below (blk_x BK220.out) hb)
         replace HB := bl_x HB hb
         clear hb ho51
         obtain ⟨Ao52, co52, eo52⟩ := Kd.R_slice HO257.out
         (first | subst eo52 | (injection eo52 with f1_ f2_ f3_; have f4_ := f1_.symm; have f5_ := f3_.symm; clear f1_ f2_ f3_; subst f4_; subst f5_))
         obtain ⟨Ao53, co53, eo53⟩ := Kd.R_slice HO266.out
         (first | subst eo53 | (injection eo53 with f1_ f2_ f3_; have f4_ := f1_.symm; have f5_ := f3_.symm; clear f1_ f2_ f3_; subst f4_; subst f5_))
         refine hK.out _ _ ⟨(blk_cell BK219.out 0).trans rfl, (blk_cell BK219.out 1).trans rfl, (blk_cell BK220.out 0).trans rfl, (blk_cell BK220.out 1).trans rfl⟩ (fun hHeld => ?_)
         clear hK K
         refine norm_ (a' := ?_) ?_ ?_; rotate_left; (show Act.put _ (some 60) _ = _; simp only [Act.put, put_x, i64_w, i32_w]; rfl)
         refine one_ (i := 31) (N := some 61) (bz 41 4294967295) rfl rfl (one_of HT_.out (by kernel_rfl)) (by decide) (fun K hK => ?_)
         refine goes_ Try.func26 (by kernel_rfl) rfl #[.slice Ao52 t255.length co52, .slice Ao53 y264.length co53] (by rfl) rfl rfl (by (try simp only [List.map_toArray, List.map_cons, List.map_nil]); first | done | rfl | (simp only [List.length_drop, List.length_take]; rfl)) ?_
         with_reducible refine (swarfkit_EqualInts.calls k _ _ t255 _ _ y264 true _ ?side1 ?side2 ?side3 ?side4 A16.out).mono ?_
         (case side1 => exact Kd.C_y (Kd.R_reads' HO257.out).2.2)
         (case side2 => exact (Kd.R_reads' HO257.out).2.1)
         (case side3 => exact Kd.C_y (Kd.R_reads' HO266.out).2.2)
         (case side4 => exact (Kd.R_reads' HO266.out).2.1)
         rintro e w' ⟨rfl, ⟨nd, rfl⟩⟩
         refine ⟨_, rfl, ?_⟩
         refine hK.out _ _ ⟨(blk_cell BK219.out 0).trans rfl, (blk_cell BK219.out 1).trans rfl, (blk_cell BK220.out 0).trans rfl, (blk_cell BK220.out 1).trans rfl⟩ (fun hHeld => ?_)
         clear hK K
         refine norm_ (a' := ?_) ?_ ?_; rotate_left; (show Act.put _ (some 61) _ = _; simp only [Act.put, put_x, i64_w, i32_w]; rfl)
         refine pure_t 32 (some 62) (bz 41 8589934591) HT_ ?_
         refine pure_t 33 (some 63) (bz 41 17179869183) HT_ ?_
         refine pure_t 34 (some 64) (bz 41 34359738367) HT_ ?_
         refine one_ (i := 35) (N := some 65) (bz 41 68719476735) rfl rfl (one_of HT_.out (by kernel_rfl)) (by decide) (fun K hK => ?_)
         refine goes_ Try.func32 (by kernel_rfl) rfl #[.int .i64 90, .int .i64 100] (by rfl) rfl rfl (by (try simp only [List.map_toArray, List.map_cons, List.map_nil]); first | done | rfl | (simp only [List.length_drop, List.length_take]; rfl)) ?_
         with_reducible refine (swarflaw07_rng.calls 90 100 t268 t269 _ A18.out).mono ?_
         rintro e w54 ⟨rfl, hb⟩
         refine ⟨_, rfl, ?_⟩
         replace HO203 := Aside0.mk (Kd.R_below (Kd.R_x HO203.out) hb)
         replace HO207 := Aside0.mk (Kd.N_below (Kd.N_x HO207.out) hb)
         replace HO210 := Aside0.mk (Kd.R_below (Kd.R_x HO210.out) hb)
         replace HO213 := Aside0.mk (Kd.R_below (Kd.R_x HO213.out) hb)
         replace HO226 := Aside0.mk (Kd.R_below (Kd.R_x HO226.out) hb)
         replace HO230 := Aside0.mk (Kd.N_below (Kd.N_x HO230.out) hb)
         replace HO233 := Aside0.mk (Kd.R_below (Kd.R_x HO233.out) hb)
         replace HO236 := Aside0.mk (Kd.R_below (Kd.R_x HO236.out) hb)
         replace HO240 := Aside0.mk (Kd.R_below (Kd.R_x HO240.out) hb)
         replace HO247 := Aside0.mk (Kd.R_below (Kd.R_x HO247.out) hb)
         replace HO251 := Aside0.mk (Kd.N_below (Kd.N_x HO251.out) hb)
         replace HO254 := Aside0.mk (Kd.R_below (Kd.R_x HO254.out) hb)
         replace HO257 := Aside0.mk (Kd.R_below (Kd.R_x HO257.out) hb)
         replace HO266 := Aside0.mk (Kd.R_below (Kd.R_x HO266.out) hb)
         replace BK219 := Aside0.mk (blk_below (blk_x BK219.out) hb)
         replace BK220 := Aside0.mk (blk_below (blk_x BK220.out) hb)
         replace HB := bl_x HB hb
         (try clear hb)
         (try clear hb2)
         (try clear hk)
         (try clear hi)
         refine hK.out _ _ ⟨(blk_cell BK219.out 0).trans rfl, (blk_cell BK219.out 1).trans rfl, (blk_cell BK220.out 0).trans rfl, (blk_cell BK220.out 1).trans rfl⟩ (fun hHeld => ?_)
         clear hK K
         refine norm_ (a' := ?_) ?_ ?_; rotate_left; (show Act.put _ (some 65) _ = _; simp only [Act.put, put_x, i64_w, i32_w]; rfl)
         refine one_ (i := 36) (N := some 66) (bz 41 137438953471) rfl rfl (one_of HT_.out (by kernel_rfl)) (by decide) (fun K hK => ?_)
         refine goes_ Try.func32 (by kernel_rfl) rfl #[.int .i64 240, .int .i64 250] (by rfl) rfl rfl (by (try simp only [List.map_toArray, List.map_cons, List.map_nil]); first | done | rfl | (simp only [List.length_drop, List.length_take]; rfl)) ?_
         with_reducible refine (swarflaw07_rng.calls 240 250 t270 t271 _ A19.out).mono ?_
         rintro e w55 ⟨rfl, hb⟩
         refine ⟨_, rfl, ?_⟩
         replace HO203 := Aside0.mk (Kd.R_below (Kd.R_x HO203.out) hb)
         replace HO207 := Aside0.mk (Kd.N_below (Kd.N_x HO207.out) hb)
         replace HO210 := Aside0.mk (Kd.R_below (Kd.R_x HO210.out) hb)
         replace HO213 := Aside0.mk (Kd.R_below (Kd.R_x HO213.out) hb)
         replace HO226 := Aside0.mk (Kd.R_below (Kd.R_x HO226.out) hb)
         replace HO230 := Aside0.mk (Kd.N_below (Kd.N_x HO230.out) hb)
         replace HO233 := Aside0.mk (Kd.R_below (Kd.R_x HO233.out) hb)
         replace HO236 := Aside0.mk (Kd.R_below (Kd.R_x HO236.out) hb)
         replace HO240 := Aside0.mk (Kd.R_below (Kd.R_x HO240.out) hb)
         replace HO247 := Aside0.mk (Kd.R_below (Kd.R_x HO247.out) hb)
         replace HO251 := Aside0.mk (Kd.N_below (Kd.N_x HO251.out) hb)
         replace HO254 := Aside0.mk (Kd.R_below (Kd.R_x HO254.out) hb)
         replace HO257 := Aside0.mk (Kd.R_below (Kd.R_x HO257.out) hb)
         replace HO266 := Aside0.mk (Kd.R_below (Kd.R_x HO266.out) hb)
         replace BK219 := Aside0.mk (blk_below (blk_x BK219.out) hb)
         replace BK220 := Aside0.mk (blk_below (blk_x BK220.out) hb)
         replace HB := bl_x HB hb
         (try clear hb)
         (try clear hb2)
         (try clear hk)
         (try clear hi)
         refine hK.out _ _ ⟨(blk_cell BK219.out 0).trans rfl, (blk_cell BK219.out 1).trans rfl, (blk_cell BK220.out 0).trans rfl, (blk_cell BK220.out 1).trans rfl⟩ (fun hHeld => ?_)
         clear hK K
         refine norm_ (a' := ?_) ?_ ?_; rotate_left; (show Act.put _ (some 66) _ = _; simp only [Act.put, put_x, i64_w, i32_w]; rfl)
         refine one_ (i := 37) (N := some 67) (bz 41 274877906943) rfl rfl (one_of HT_.out (by kernel_rfl)) (by decide) (fun K hK => ?_)
         refine Kd.R_lit_step k56 _ 56 ?hg (N := 67) ?hd (xs := ([(⟨t268, t269⟩ : S56), (⟨t270, t271⟩ : S56)] : List (S56))) (inner := [.int .i64 t268, .int .i64 t269, .int .i64 t270, .int .i64 t271]) (ok := fun _ => True) (okp := fun _ => True) ?hr ?hp (fun _ hk => hk) trivial (Below.refl _ _) (Nat.le_refl _) (by simp) ?_; (case hd => rfl); (case hg => rfl); (case hr => first | (go_simp; done) | (go_simp; rfl)); (case hp => exact (Reps.c2 (show Kd.M k56 _ _ _ (⟨t268, t269⟩ : S56) [.int .i64 t268, .int .i64 t269] from (k56_mkM _ _ _ (⟨t268, t269⟩ : S56) )) (Reps.c2 (show Kd.M k56 _ _ _ (⟨t270, t271⟩ : S56) [.int .i64 t270, .int .i64 t271] from (k56_mkM _ _ _ (⟨t270, t271⟩ : S56) )) (Reps.none _ _))))
         intro v273 w56 ho57 hb hg_ hnew_
         clear hg_ hnew_
         (first | rw [← Ny272.out] at ho57 | (simp only [Int.reduceToNat] at ho57; rw [← Ny272.out] at ho57))
         replace HO203 := Aside0.mk (Kd.R_below (Kd.R_x HO203.out) hb)
         replace HO207 := Aside0.mk (Kd.N_elder' (Kd.N_x HO207.out) (Kd.R_base ho57) hb)
         replace HO210 := Aside0.mk (Kd.R_below (Kd.R_x HO210.out) hb)
         replace HO213 := Aside0.mk (Kd.R_below (Kd.R_x HO213.out) hb)
         replace HO226 := Aside0.mk (Kd.R_below (Kd.R_x HO226.out) hb)
         replace HO230 := Aside0.mk (Kd.N_elder' (Kd.N_x HO230.out) (Kd.R_base ho57) hb)
         replace HO233 := Aside0.mk (Kd.R_below (Kd.R_x HO233.out) hb)
         replace HO236 := Aside0.mk (Kd.R_below (Kd.R_x HO236.out) hb)
         replace HO247 := Aside0.mk (Kd.R_below (Kd.R_x HO247.out) hb)
         replace HO251 := Aside0.mk (Kd.N_elder' (Kd.N_x HO251.out) (Kd.R_base ho57) hb)
         replace HO254 := Aside0.mk (Kd.R_below (Kd.R_x HO254.out) hb)
         replace HO257 := Aside0.mk (Kd.R_below (Kd.R_x HO257.out) hb)
         replace HO266 := Aside0.mk (Kd.R_below (Kd.R_x HO266.out) hb)
         have HO274 := Aside0.mk (Kd.R_lower (Kd.R_newB (Kd.R_newB (Kd.R_new' ho57 (Kd.R_lt (Kd.R_x HO240.out))) (g := gb219) (o := .cells #[.int .i64 t214, .int .i64 t215] 56 (0, 0)) (blk_x BK219.out)) (g := gb220) (o := .cells #[.int .i64 t216, .int .i64 t217] 56 (0, 0)) (blk_x BK220.out)) (below_size (by exact below_y HB.out)))
         replace HO240 := Aside0.mk (Kd.R_elder' (Kd.R_x HO240.out) (Kd.R_base ho57) hb)
         replace BK219 := Aside0.mk (blk_below (blk_x BK219.out) hb)
         replace BK220 := Aside0.mk (blk_below (blk_x BK220.out) hb)
         replace HB := bl_x HB hb
         clear hb ho57
         obtain ⟨Ao58, co58, eo58⟩ := Kd.R_slice HO240.out
         (first | subst eo58 | (injection eo58 with f1_ f2_ f3_; have f4_ := f1_.symm; have f5_ := f3_.symm; clear f1_ f2_ f3_; subst f4_; subst f5_))
         obtain ⟨Ao59, co59, eo59⟩ := Kd.R_slice HO274.out
         (first | subst eo59 | (injection eo59 with f1_ f2_ f3_; have f4_ := f1_.symm; have f5_ := f3_.symm; clear f1_ f2_ f3_; subst f4_; subst f5_))
         refine hK.out _ _ ⟨(blk_cell BK219.out 0).trans rfl, (blk_cell BK219.out 1).trans rfl, (blk_cell BK220.out 0).trans rfl, (blk_cell BK220.out 1).trans rfl⟩ (fun hHeld => ?_)
         clear hK K
         refine norm_ (a' := ?_) ?_ ?_; rotate_left; (show Act.put _ (some 67) _ = _; simp only [Act.put, put_x, i64_w, i32_w]; rfl)
         refine one_ (i := 38) (N := some 68) (bz 41 549755813887) rfl rfl (one_of HT_.out (by kernel_rfl)) (by decide) (fun K hK => ?_)
         refine goes_ Try.func24 (by kernel_rfl) rfl #[.slice Ao58 t238.length co58, .slice Ao59 y272.length co59] (by rfl) rfl rfl (by (try simp only [List.map_toArray, List.map_cons, List.map_nil]); first | done | rfl | (simp only [List.length_drop, List.length_take]; rfl)) ?_
         with_reducible refine (swarfkit_EqualRanges.calls k _ _ t238 _ _ y272 t275 _ ?side1 ?side2 ?side3 ?side4 A20.out).mono ?_
         (case side1 => exact Kd.C_y (Kd.R_reads' HO240.out).2.2)
         (case side2 => exact (Kd.R_reads' HO240.out).2.1)
         (case side3 => exact Kd.C_y (Kd.R_reads' HO274.out).2.2)
         (case side4 => exact (Kd.R_reads' HO274.out).2.1)
         rintro e w' ⟨rfl, ⟨nd, rfl⟩⟩
         refine ⟨_, rfl, ?_⟩
         refine hK.out _ _ ⟨(blk_cell BK219.out 0).trans rfl, (blk_cell BK219.out 1).trans rfl, (blk_cell BK220.out 0).trans rfl, (blk_cell BK220.out 1).trans rfl⟩ (fun hHeld => ?_)
         clear hK K
         refine norm_ (a' := ?_) ?_ ?_; rotate_left; (show Act.put _ (some 68) _ = _; simp only [Act.put, put_x, i64_w, i32_w]; rfl)
         refine pure_t 39 (some 69) (bz 41 1099511627775) HT_ ?_
         refine pure_t 40 (some 0) (bz 41 2199023255551) HT_ ?_
         refine done_ (done_of HT_.out (by kernel_rfl)) ?_
         try go_wp2
         go_ret
         exact ⟨by first | rfl | (simp [errW_none, errW_some] <;> rfl) | (simp [*, errW_none, errW_some] <;> rfl), by exact below_y HB.out⟩
        ·
         replace c17 := Bool.eq_false_iff.mpr c17
         subst c17
         have H1 : (some false) = some r := by rw [if_neg (show ¬ (false = true) by decide)] at H; exact H
         clear H
         have H := H1
         clear H1
         exact absurd ((Option.some.inj H).trans hrt.out) (by decide)
       ·
        rw [if_neg c15] at H
        have c15b0 : (t258 == 95) = false := beq_eq_false_iff_ne.mpr c15
        have c15b1 : (t258 != 95) = true := bne_iff_ne.mpr c15
        exact absurd ((Option.some.inj H).trans hrt.out) (by decide)
      ·
       rw [if_neg c14] at H
       have c14b0 : (t237 == 1) = false := beq_eq_false_iff_ne.mpr c14
       have c14b1 : (t237 != 1) = true := bne_iff_ne.mpr c14
       exact absurd ((Option.some.inj H).trans hrt.out) (by decide)
     ·
      rw [if_neg c13] at H
      have c13b0 : (t216 == t262 && (t217 == t263)) = false := by simpa using c13
      (try (have c13b1 : decide (t216 = t262 && (t217 == t263)) = false := by simpa using c13))
      (try (have c13b2 : (t216 == t262 && (t217 == t263)) = false := by simpa using c13))
      (try (have c13b3 : ¬ (t216 = t262 && (t217 == t263)) := by simpa using c13))
      clear c13
      exact absurd ((Option.some.inj H).trans hrt.out) (by decide)
    ·
     rw [if_neg c11] at H
     have c11b0 : (t214 == t260 && (t215 == t261)) = false := by simpa using c11
     (try (have c11b1 : decide (t214 = t260 && (t215 == t261)) = false := by simpa using c11))
     (try (have c11b2 : (t214 == t260 && (t215 == t261)) = false := by simpa using c11))
     (try (have c11b3 : ¬ (t214 = t260 && (t215 == t261)) := by simpa using c11))
     clear c11
     exact absurd ((Option.some.inj H).trans hrt.out) (by decide)
   ·
    rw [if_neg c9] at H
    have c9b0 : (t259 == 0) = false := beq_eq_false_iff_ne.mpr c9
    have c9b1 : (t259 != 0) = true := bne_iff_ne.mpr c9
    exact absurd ((Option.some.inj H).trans hrt.out) (by decide)
  ·
   rw [if_neg c8] at H
   have c8b0 : (t241 == 0) = false := beq_eq_false_iff_ne.mpr c8
   have c8b1 : (t241 != 0) = true := bne_iff_ne.mpr c8
   exact absurd ((Option.some.inj H).trans hrt.out) (by decide)
 ·
  rw [if_neg c7] at H
  have c7b0 : (t218 == 0) = false := beq_eq_false_iff_ne.mpr c7
  have c7b1 : (t218 != 0) = true := bne_iff_ne.mpr c7
  exact absurd ((Option.some.inj H).trans hrt.out) (by decide)
end Go.Proofs.Ytodmemndaaiolaa.PC7
namespace Go.Proofs.Ytodmemndaaiolaa.PC7
set_option linter.unusedVariables false
set_option linter.unusedSimpArgs false
open Go.RowKit Go.Proofs.YtodmemndaaiolaaW.PrintWords Go.Proofs.YtodmemndaaiolaaW.PrintLast Go.Proofs.YtodmemndaaiolaaW.PrintMore
theorem getD_mem10_ {α : Type} (l : List α) (k : Nat) (d : α) (h : k < l.length) : l.getD k d ∈ l := by
 rw [List.getD, List.getElem?_eq_getElem h]; exact List.getElem_mem h
theorem copy_bd10 {L U R V : Int} {holds : List S85} {sills : List S59} {lots : List S79} {r : Int × Int × Int × List S85 × Int × List S59 × List S79} (h : swarfkit_CopyVoyage.f L U R holds V sills lots = some r) : copyOK holds sills lots := by
 unfold swarfkit_CopyVoyage.f at h
 by_cases hn : copyOK holds sills lots
 ·
  exact hn
 ·
  rw [if_neg hn] at h; cases h
theorem gd_mid10 {α : Type} (acc r : List α) (y d : α) {k : Nat} (hk : acc.length = k) : (acc ++ y :: r).getD k d = y := by subst hk; simp [List.getD]
theorem set_mid10 {α : Type} (acc r : List α) (y z : α) {k : Nat} (hk : acc.length = k) : (acc ++ y :: r).set k z = acc ++ z :: r := by subst hk; simp
def tightA (s : Int) : List S79 → Option (List S79 × Int)
 | [] => some ([], s)
 | x :: r => (swarfkit_Feed_Tighter.f s x.f0.f0 x.f0.f1).bind fun a => (tightA a.2.2 r).bind fun c => some (⟨⟨a.1, a.2.1⟩, x.f1⟩ :: c.1, c.2)
def tightL (s : Int) : List S62 → Option (List S62 × Int)
 | [] => some ([], s)
 | x :: r => (swarfkit_Feed_Tighter.f s x.f1.f0 x.f1.f1).bind fun a => (tightL a.2.2 r).bind fun c => some (⟨x.f0, ⟨a.1, a.2.1⟩⟩ :: c.1, c.2)
def tightS (s : Int) : List S59 → Option (List S59 × Int)
 | [] => some ([], s)
 | x :: r => (swarfkit_Feed_Tighter.f s x.f0.f0 x.f0.f1).bind fun a => (tightL a.2.2 x.f1).bind fun l => (tightS l.2 r).bind fun c => some (⟨⟨a.1, a.2.1⟩, l.1⟩ :: c.1, c.2)
set_option maxHeartbeats 8000000 in
set_option maxRecDepth 100000 in
theorem better_walk (A1 : Option Addr) (c1 : Nat) (l1 : List Int) (w : World) (hr1 : Kd.C (Kd.int .i64) w A1 l1.length l1) (hc1 : l1.length ≤ c1) {fd T s1 s2 s3 mL mU mR mV : Int} {kv ks : Nat} {mh : List S85} {ms : List S59} {ml : List S79} {st : List Int} (hf : swarfkit_FeedOf.f l1 = some fd) (he : swarfkit_Feed_Either.f fd [4, 30] = some (T, s1)) (hv : swarfkit_VoyageOf.f kv s1 3 4 5 T = some (mL, mU, mR, mh, mV, ms, ml, s2)) (hs : swarfkit_StowageOf.f ks s2 mL mU mR mh mV ms ml = some (st, s3))
  {pa pb pc pd qa qb qc qd y z p r s4 s5 vd vd2 : Int} {al al2 : Bool} {xs : List S59} {xl : List S79} {ov ov2 : List S56} {kl kl2 ka : Nat} (hc : swarfkit_CopyVoyage.f mL mU mR mh mV ms ml = some (mL, mU, mR, mh, mV, ms, ml)) (hta : tightA s3 ml = some (xl, s4)) (hts : tightS s4 ms = some (xs, s5)) (hd : ship_Drafts.f mL mU mR mh mV ms ml st = some (pa, pb, pc, pd, 0)) (hd2 : ship_Drafts.f mL mU mR mh mV xs xl st = some (qa, qb, qc, qd, 0)) (hlv : ship_Level.f kl mL mU mR mh mV ms ml st = some (al, y, z, 0)) (hlv2 : ship_Level.f kl2 mL mU mR mh mV xs xl st = some (al2, p, r, 0)) (hsl : ship_Sail.f mL mU mR mh mV ms ml st = some (vd, ov, 0)) (hsl2 : ship_Sail.f mL mU mR mh mV xs xl st = some (vd2, ov2, 0)) (hp1 : swarfkit_Part.f qa qb pa pb = some true) (hp2 : swarfkit_Part.f qc qd pc pd = some true) (hp3 : swarfkit_Part.f p r y z = some true) (hal : al = false ∨ al = true ∧ al2 = true) (hvd : vd = 3 ∨ vd = 1 ∧ vd2 = 1 ∨ vd = 2 ∧ vd2 = 2) (hle : ov.length ≤ ov2.length) (hob : ov2.length ≤ 100000) (hpt : ∀ i : Nat, i < ov.length → swarfkit_Part.f (rd_T56 ov2 (i : Int)).f0 (rd_T56 ov2 (i : Int)).f1 (rd_T56 ov (i : Int)).f0 (rd_T56 ov (i : Int)).f1 = some true) (haw : swarflaw07_awake.f ka = some true) (hml : ∀ s ∈ ms, s.f1.length ≤ 100000) (hxl : xs.length = ms.length) (hxa : xl.length = ml.length) :
  Calls Try.prog 10 #[.slice A1 l1.length c1] w fun e w' => e = .returned (.bool true) ∧ Below w.heap.size w w' := by
 have hu26 := Try.underlying26
 have hu56 := Try.underlying56
 have hcb := copy_bd10 hc
 obtain ⟨hb1, hb2, hb3⟩ := hcb
 have hb4 := hb3.1
 clear hb3
 have HR1 := Aside0.mk hr1
 have HF := Aside0.mk hf
 have HE := Aside0.mk he
 have HV := Aside0.mk hv
 have HS := Aside0.mk hs
 have HC := Aside0.mk hc
 have HTA := Aside0.mk hta
 have HTS := Aside0.mk hts
 have HD := Aside0.mk hd
 have HD2 := Aside0.mk hd2
 have HLV := Aside0.mk hlv
 have HLV2 := Aside0.mk hlv2
 have HSL := Aside0.mk hsl
 have HSL2 := Aside0.mk hsl2
 have HP1 := Aside0.mk hp1
 have HP2 := Aside0.mk hp2
 have HP3 := Aside0.mk hp3
 have HAL := Aside0.mk hal
 have HVD := Aside0.mk hvd
 have HLE := Aside0.mk hle
 have HOB := Aside0.mk hob
 have HPT := Aside0.mk hpt
 have HAW := Aside0.mk haw
 have HML := Aside0.mk hml
 have HXL := Aside0.mk hxl
 have HXA := Aside0.mk hxa
 clear hr1 hf he hv hs hc hta hts hd hd2 hlv hlv2 hsl hsl2 hp1 hp2 hp3 hal hvd hle hob hpt haw hml hxl hxa
 go_enter Try.func10, Try.ntmps10
 go_wp2_with (fail)
 refine (swarfkit_FeedOf.calls A1 c1 l1 fd w w (Below.refl _ _) HR1.out hc1 HF.out).mono ?_
 rintro e w2 ⟨g, rfl, hi_, hb_, _⟩
 have HI := Aside0.mk hi_
 have HB := Aside0.mk hb_
 clear hi_ hb_
 go_wp2_with ((with_reducible refine gate_dst (N := 33) rfl ?_); refine Kd.R_lit (Kd.int .i64) _ 3 ?hg (N := 33) ?hd (xs := ([4, 30] : List Int)) (inner := [.int .i64 4, .int .i64 30]) (ok := fun _ => True) (okp := fun _ => True) ?hr ?hp (fun _ hk => hk) trivial (Below.refl _ _) (Nat.le_refl _) (by simp) ?_; (case hd => rfl); (case hg => rfl); (case hr => first | (go_simp; done) | (go_simp; rfl)); (case hp => exact (Reps.one (show Kd.M (Kd.int .i64) _ _ _ 4 [.int .i64 4] from rfl) (Reps.one (show Kd.M (Kd.int .i64) _ _ _ 30 [.int .i64 30] from rfl) (Reps.none _ _)))); intro vl w3 ho_ hb_ hg_ hnew_; obtain ⟨Al, cl, rfl⟩ := Kd.R_slice ho_; have RL := Aside0.mk ho_; have HFL := Aside0.mk (show ∀ ad, Al = some ad → 0 < [(4 : Int), 30].length → ad.block ≠ g from fun ad ha _ => by subst ha; have h1 := HI.out.lt; have h2 := Kd.R_base ho_ ad.block (by simp [Value.ownBlock]); omega); replace HI := Aside0.mk (IsS90.below HI.out hb_); replace HB := Aside0.mk (below_step HB.out hb_); clear ho_ hb_ hg_ hnew_)
 refine (swarfkit_Feed_Either.calls g fd Al cl [4, 30] T s1 w w3 HI.out HB.out (Kd.R_reads' RL.out).2.2 (Kd.R_reads' RL.out).2.1 HFL.out HE.out).mono ?_
 rintro e w4 ⟨rfl, hi_, hb_, _⟩
 replace HI := Aside0.mk hi_
 replace HB := Aside0.mk hb_
 clear hi_ hb_ RL HFL
 go_wp2_with (fail)
 refine (swarfkit_VoyageOf.calls kv g s1 3 4 5 T mL mU mR mh mV ms ml s2 w w4 HI.out HB.out HV.out).mono ?_
 rintro e w5 ⟨v3, v5, v6, rfl, ho3, ho5, ho6, hi_, hb_, hk_⟩
 obtain ⟨M3, d3, rfl⟩ := Kd.R_slice ho3
 obtain ⟨M5, d5, rfl⟩ := Kd.S_slice ho5
 obtain ⟨M6, d6, rfl⟩ := Kd.R_slice ho6
 obtain ⟨Nv, hNv⟩ : ∃ n, n = w4.heap.size := ⟨_, rfl⟩
 have GNv : Aside0 (g < Nv) := ⟨by rw [hNv]; exact HI.out.lt⟩
 have GwN : Aside0 (w.heap.size ≤ Nv) := ⟨by rw [hNv]; exact HB.out.size⟩
 have GNw : Aside0 (Nv ≤ w5.heap.size) := ⟨by rw [hNv]; exact hk_.1⟩
 rw [← hNv] at ho3 ho5 ho6
 have R3 := Aside0.mk ho3
 have R5 := Aside0.mk ho5
 have R6 := Aside0.mk ho6
 replace HI := Aside0.mk hi_
 replace HB := Aside0.mk hb_
 clear hi_ hb_ hk_ ho3 ho5 ho6 hNv
 go_upto_region 3 with (fail)
 obtain ⟨g4, hg_⟩ : ∃ b, b = w5.heap.size := ⟨_, rfl⟩
 have B4 := Aside0.mk (blk_new w5 (.cells #[.int .i64 mL, .int .i64 mU, .int .i64 mR, .slice M3 mh.length d3, .int .i64 mV, .slice M5 ms.length d5, .slice M6 ml.length d6] 26 (0, 0)))
 have hbw : Below w5.heap.size w5 (w5.alloc (.cells #[.int .i64 mL, .int .i64 mU, .int .i64 mR, .slice M3 mh.length d3, .int .i64 mV, .slice M5 ms.length d5, .slice M6 ml.length d6] 26 (0, 0))) := below_alloc (Below.refl _ _) _
 have hgs_ : w.heap.size ≤ g4 := by rw [hg_]; exact HB.out.size
 generalize hw_ : w5.alloc (.cells #[.int .i64 mL, .int .i64 mU, .int .i64 mR, .slice M3 mh.length d3, .int .i64 mV, .slice M5 ms.length d5, .slice M6 ml.length d6] 26 (0, 0)) = w6 at *
 rw [← hg_] at B4 ⊢
 replace R3 := Aside0.mk (Kd.R_below R3.out hbw)
 replace R6 := Aside0.mk (Kd.R_below R6.out hbw)
 replace R5 := Aside0.mk (Kd.S_below R5.out hbw)
 replace HI := Aside0.mk (IsS90.below HI.out hbw)
 replace HB := Aside0.mk (below_step HB.out hbw)
 replace GNw := Aside0.mk (Nat.le_trans GNw.out hbw.size)
 have GEg4 : Aside0 (w.heap.size ≤ g4) := ⟨hgs_⟩
 clear hbw hw_ hg_ hgs_
 have hz0_ := (blk_cell B4.out 0).trans rfl
 have hz1_ := (blk_cell B4.out 1).trans rfl
 have hz2_ := (blk_cell B4.out 2).trans rfl
 have hz3_ := (blk_cell B4.out 3).trans rfl
 have hz4_ := (blk_cell B4.out 4).trans rfl
 have hz5_ := (blk_cell B4.out 5).trans rfl
 have hz6_ := (blk_cell B4.out 6).trans rfl
 go_wp2_with (fail)
 refine (swarfkit_StowageOf.calls ks g s2 mL mU mR M3 d3 mh mV M5 d5 ms M6 d6 ml st s3 w w6 HI.out HB.out (fun W_ hk_ => (Kd.R_reads' (R_kb R3.out hk_ GNv.out)).2.2) (Kd.R_reads' R3.out).2.1 (fun W_ hk_ => (Kd.S_reads' (S_kb R5.out hk_ GNv.out)).2.2) (Kd.S_reads' R5.out).2.1 (fun W_ hk_ => (Kd.R_reads' (R_kb R6.out hk_ GNv.out)).2.2) (Kd.R_reads' R6.out).2.1 HS.out).mono ?_
 rintro e w7 ⟨vs, rfl, hos_, hi_, hb_, hk_⟩
 obtain ⟨As, cs, rfl⟩ := Kd.R_slice hos_
 replace B4 := Aside0.mk (blk_kb B4.out hk_ (IsS90.ne_blk HI.out B4.out (by decide)).symm)
 replace R3 := Aside0.mk (R_kb R3.out hk_ GNv.out)
 replace R6 := Aside0.mk (R_kb R6.out hk_ GNv.out)
 replace R5 := Aside0.mk (S_kb R5.out hk_ GNv.out)
 replace HI := Aside0.mk hi_
 replace HB := Aside0.mk hb_
 have RS := Aside0.mk (Kd.R_lower hos_ GNw.out)
 clear hos_ hi_ hb_ hk_ GNw hz0_ hz1_ hz2_ hz3_ hz4_ hz5_ hz6_
 have hz0_ := (blk_cell B4.out 0).trans rfl
 have hz1_ := (blk_cell B4.out 1).trans rfl
 have hz2_ := (blk_cell B4.out 2).trans rfl
 have hz3_ := (blk_cell B4.out 3).trans rfl
 have hz4_ := (blk_cell B4.out 4).trans rfl
 have hz5_ := (blk_cell B4.out 5).trans rfl
 have hz6_ := (blk_cell B4.out 6).trans rfl
 go_wp2_with (fail)
 refine (swarfkit_CopyVoyage.calls mL mU mR M3 d3 mh mV M5 d5 ms M6 d6 ml mL mU mR mh mV ms ml w7 (Kd.R_reads' R3.out).2.2 (Kd.R_reads' R3.out).2.1 (Kd.S_reads' R5.out).2.2 (Kd.S_reads' R5.out).2.1 (Kd.R_reads' R6.out).2.2 (Kd.R_reads' R6.out).2.1 HC.out).mono ?_
 rintro e w8 ⟨v3, v5, v6, rfl, ho3, ho5, ho6, hb_⟩
 obtain ⟨X3, e3, rfl⟩ := Kd.R_slice ho3
 obtain ⟨X5, e5, rfl⟩ := Kd.S_slice ho5
 obtain ⟨X6, e6, rfl⟩ := Kd.R_slice ho6
 replace R3 := Aside0.mk (Kd.R_mono (Kd.R_bound R3.out) (ok' := fun k_ => k_ < w7.heap.size) (fun _ hk => hk.2.2.1))
 replace R6 := Aside0.mk (Kd.R_mono (Kd.R_bound R6.out) (ok' := fun k_ => k_ < w7.heap.size) (fun _ hk => hk.2.2.1))
 replace RS := Aside0.mk (Kd.R_mono (Kd.R_bound RS.out) (ok' := fun k_ => k_ < w7.heap.size) (fun _ hk => hk.2.2.1))
 replace R5 := Aside0.mk (Kd.S_mono (Kd.S_bound R5.out) (ok' := fun k_ => k_ < w7.heap.size) (fun _ hk => hk.2.2.1))
 obtain ⟨N, hN⟩ : ∃ n, n = w7.heap.size := ⟨_, rfl⟩
 have GN : Aside0 (g < N ∧ g4 < N ∧ w.heap.size ≤ N) := ⟨by have h1 := HI.out.lt; have h2 := blk_lt B4.out; have h3 := HB.out.size; omega⟩
 rw [← hN] at ho3 ho5 ho6 R3 R6 RS R5
 clear hN
 replace B4 := Aside0.mk (blk_below B4.out hb_)
 replace R3 := Aside0.mk (Kd.R_below R3.out hb_)
 replace R6 := Aside0.mk (Kd.R_below R6.out hb_)
 replace RS := Aside0.mk (Kd.R_below RS.out hb_)
 replace R5 := Aside0.mk (Kd.S_below R5.out hb_)
 replace HI := Aside0.mk (IsS90.below HI.out hb_)
 replace HB := Aside0.mk (below_step HB.out hb_)
 have Y3 := Aside0.mk ho3
 have Y5 := Aside0.mk ho5
 have Y6 := Aside0.mk ho6
 clear ho3 ho5 ho6 hb_ hz0_ hz1_ hz2_ hz3_ hz4_ hz5_ hz6_
 go_upto_region 5 with (fail)
 have h4_ := blk_lt B4.out
 obtain ⟨g6, hg_⟩ : ∃ b, b = w8.heap.size := ⟨_, rfl⟩
 have B6 := Aside0.mk (blk_new w8 (.cells #[.int .i64 mL, .int .i64 mU, .int .i64 mR, .slice X3 mh.length e3, .int .i64 mV, .slice X5 ms.length e5, .slice X6 ml.length e6] 26 (0, 0)))
 have hbw : Below w8.heap.size w8 (w8.alloc (.cells #[.int .i64 mL, .int .i64 mU, .int .i64 mR, .slice X3 mh.length e3, .int .i64 mV, .slice X5 ms.length e5, .slice X6 ml.length e6] 26 (0, 0))) := below_alloc (Below.refl _ _) _
 have hgs_ : w.heap.size ≤ g6 := by rw [hg_]; exact HB.out.size
 generalize hw_ : w8.alloc (.cells #[.int .i64 mL, .int .i64 mU, .int .i64 mR, .slice X3 mh.length e3, .int .i64 mV, .slice X5 ms.length e5, .slice X6 ml.length e6] 26 (0, 0)) = w9 at *
 rw [← hg_] at B6 ⊢
 have N46 : Aside0 (g4 ≠ g6) := ⟨by rw [hg_]; omega⟩
 clear h4_
 replace B4 := Aside0.mk (blk_below B4.out hbw)
 replace R3 := Aside0.mk (Kd.R_below R3.out hbw)
 replace R6 := Aside0.mk (Kd.R_below R6.out hbw)
 replace RS := Aside0.mk (Kd.R_below RS.out hbw)
 replace Y3 := Aside0.mk (Kd.R_below Y3.out hbw)
 replace Y6 := Aside0.mk (Kd.R_below Y6.out hbw)
 replace R5 := Aside0.mk (Kd.S_below R5.out hbw)
 replace Y5 := Aside0.mk (Kd.S_below Y5.out hbw)
 replace HI := Aside0.mk (IsS90.below HI.out hbw)
 replace HB := Aside0.mk (below_step HB.out hbw)
 have GEg6 : Aside0 (w.heap.size ≤ g6) := ⟨hgs_⟩
 clear hbw hw_ hg_ hgs_
 go_wp2
 go_loopg [7] ml.length (fun gk v7 wr => ∃ (k : Nat) (s : Int) (acc : List S79), k ≤ ml.length ∧ ml.length - k ≤ gk ∧ v7 = .int .i64 k ∧ Aside0 (acc.length = k) ∧ Aside0 (∃ rest, tightA s (ml.drop k) = some (rest, s4) ∧ acc ++ rest = xl) ∧ Aside0 (Kd.R k79 79 wr N (fun _ => True) (.slice X6 ml.length e6) (acc ++ ml.drop k)) ∧ Aside0 (Kd.S k59 59 wr N (fun _ => True) (.slice X5 ms.length e5) ms) ∧ Aside0 (wr.heap[g4]? = some (.cells #[.int .i64 mL, .int .i64 mU, .int .i64 mR, .slice M3 mh.length d3, .int .i64 mV, .slice M5 ms.length d5, .slice M6 ml.length d6] 26 (0, 0))) ∧ Aside0 (wr.heap[g6]? = some (.cells #[.int .i64 mL, .int .i64 mU, .int .i64 mR, .slice X3 mh.length e3, .int .i64 mV, .slice X5 ms.length e5, .slice X6 ml.length e6] 26 (0, 0))) ∧ Aside0 (Kd.R k85 85 wr Nv (fun k_ => k_ < N) (.slice M3 mh.length d3) mh) ∧ Aside0 (Kd.S k59 59 wr Nv (fun k_ => k_ < N) (.slice M5 ms.length d5) ms) ∧ Aside0 (Kd.R k79 79 wr Nv (fun k_ => k_ < N) (.slice M6 ml.length d6) ml) ∧ Aside0 (Kd.R (Kd.int .i64) 3 wr Nv (fun k_ => k_ < N) (.slice As st.length cs) st) ∧ Aside0 (Kd.R k85 85 wr N (fun _ => True) (.slice X3 mh.length e3) mh) ∧ Aside0 (IsS90 w wr g s) ∧ Aside0 (Below w.heap.size w wr))
 case atStart => exact ⟨0, s3, [], by omega, by omega, rfl, ⟨rfl⟩, ⟨⟨xl, HTA.out, rfl⟩⟩, Y6, Y5, B4, B6, R3, R5, R6, RS, Y3, HI, HB⟩
 case round =>
  clear B4 B6 R3 R5 R6 RS Y3 HI HB Y5 Y6 HTA
  obtain ⟨k, s, acc, hk, hgk, rfl, HLN, HF2, Y6, Y5, B4, B6, R3, R5, R6, RS, Y3, HI, HB⟩ := hrel
  by_cases hlt : k < ml.length
  ·
   have hlz : (k : Int) < (ml.length : Int) := by omega
   have hdr := drop_cons_of ml k hlt z79
   obtain ⟨rest, hfe, hap⟩ := HF2.out
   rw [hdr] at hfe
   have hy6 := Y6.out
   rw [hdr] at hy6
   generalize ml.getD k z79 = lo at *
   simp only [tightA] at hfe
   obtain ⟨⟨a, b, f1⟩, ha, hfe1⟩ := Option.bind_eq_some_iff.1 hfe
   obtain ⟨⟨rs, se⟩, hff, hee⟩ := Option.bind_eq_some_iff.1 hfe1
   simp only [Option.some.injEq, Prod.mk.injEq] at hee
   obtain ⟨he1, he2⟩ := hee
   subst he1; subst he2
   have HA := Aside0.mk ha
   have HFF := Aside0.mk hff
   have HAP := Aside0.mk hap
   replace Y6 := Aside0.mk hy6
   clear ha hff hap hfe hfe1 HF2 hy6 hdr
   obtain ⟨gq, cq, eq, gb_, gl_, cl_, hg_⟩ := Kd.R_form Y6.out (by rw [List.length_append, List.length_cons]; omega)
   injection eq with eq en_ ec_
   subst eq
   clear ec_ en_
   have GB := Aside0.mk gb_
   clear hg_ gb_ gl_ cl_
   have GDM : Aside0 ((acc ++ lo :: ml.drop (k + 1)).getD k z79 = lo) := ⟨gd_mid10 _ _ _ _ HLN.out⟩
   have hz6_ := (blk_cell B6.out 6).trans rfl
   obtain ⟨h1, h2, _, _, _⟩ := r79_ton Y6.out k hlt
   rw [GDM.out] at h1 h2
   go_upto_region 8 with (fail)
   have hd_ := below_drew1 (Below.refl wr.heap.size wr)
   replace B4 := Aside0.mk (blk_below B4.out hd_)
   replace B6 := Aside0.mk (blk_below B6.out hd_)
   replace R3 := Aside0.mk (Kd.R_below R3.out hd_)
   replace R6 := Aside0.mk (Kd.R_below R6.out hd_)
   replace RS := Aside0.mk (Kd.R_below RS.out hd_)
   replace Y3 := Aside0.mk (Kd.R_below Y3.out hd_)
   replace Y6 := Aside0.mk (Kd.R_below Y6.out hd_)
   replace R5 := Aside0.mk (Kd.S_below R5.out hd_)
   replace Y5 := Aside0.mk (Kd.S_below Y5.out hd_)
   replace HI := Aside0.mk (IsS90.below HI.out hd_)
   replace HB := Aside0.mk (below_step HB.out hd_)
   clear hd_
   refine start_ (n := 14) (S := fun w' => w'.cell? ⟨g6, 6, none⟩ = some (.slice (some ⟨gq, 0, none⟩) ml.length e6) ∧ w'.cell? ⟨gq, k * 3, none⟩ = some (.int .i64 lo.f0.f0) ∧ w'.cell? ⟨gq, k * 3 + 1, none⟩ = some (.int .i64 lo.f0.f1)) (ds := [13]) #[false, false, false, false, false, false, false, false, false, false, false, false, false, false] (by kernel_rfl) rfl rfl ⟨hz6_, h1, h2⟩ (fun hHeld => ?_)
   generalize wr.drew = wd at B4 B6 R3 R6 RS Y3 Y6 R5 Y5 HI HB hHeld ⊢
   refine pure_y 0 (some 48) (bz 14 1) ?_
   refine pure_y 2 (some 50) (bz 14 5) ?_
   refine pure_y 3 (some 51) (bz 14 13) ?_
   refine pure_y 4 (some 52) (bz 14 29) ?_
   refine pure_y 6 (some 54) (bz 14 93) ?_
   refine take_ (i := 1) (N := some 49) (v := ?_) (a' := ?_) (bz 14 95) rfl rfl (by kernel_rfl) (fun _ _ _ h => h) (Or.inl ⟨by rfl, ?_⟩) hHeld ?_ ?_
   rotate_left; (rintro w' ⟨s0, s1, s2⟩; go_simp; with_reducible rfl); rotate_left; (simp only [Act.put, put_x, i64_w, i32_w]; rfl)
   refine take_ (i := 5) (N := some 53) (v := ?_) (a' := ?_) (bz 14 127) rfl rfl (by kernel_rfl) (fun _ _ _ h => h) (Or.inl ⟨by rfl, ?_⟩) hHeld ?_ ?_
   rotate_left; (rintro w' ⟨s0, s1, s2⟩; go_simp; with_reducible rfl); rotate_left; (simp only [Act.put, put_x, i64_w, i32_w]; rfl)
   refine pure_y 7 (some 55) (bz 14 255) ?_
   refine pure_y 8 (some 56) (bz 14 511) ?_
   refine take_ (i := 9) (N := some 57) (v := ?_) (a' := ?_) (bz 14 1023) rfl rfl (by kernel_rfl) (fun _ _ _ h => h) (Or.inl ⟨by rfl, ?_⟩) hHeld ?_ ?_
   rotate_left; (rintro w' ⟨s0, s1, s2⟩; go_simp; with_reducible rfl); rotate_left; (simp only [Act.put, put_x, i64_w, i32_w]; rfl)
   refine one_ (i := 10) (N := some 58) (bz 14 2047) rfl rfl (by kernel_rfl) (by decide) (fun K hK => ?_)
   refine goes_ Try.func48 (by kernel_rfl) rfl #[.pointer (some ⟨g, 0, none⟩), .agg #[.int .i64 lo.f0.f0, .int .i64 lo.f0.f1]] (by rfl) rfl rfl (by (try simp only [List.map_toArray, List.map_cons, List.map_nil]); first | done | rfl) ?_
   with_reducible refine (swarfkit_Feed_Tighter.calls g s lo.f0.f0 lo.f0.f1 a b f1 w _ HI.out HB.out HA.out).mono ?_
   rintro e u1 ⟨rfl, hi_, hb_, hk_⟩
   replace B4 := Aside0.mk (blk_kb B4.out hk_ (IsS90.ne_blk HI.out B4.out (by decide)).symm)
   replace B6 := Aside0.mk (blk_kb B6.out hk_ (IsS90.ne_blk HI.out B6.out (by decide)).symm)
   replace R3 := Aside0.mk (R_kb R3.out hk_ GNv.out)
   replace R6 := Aside0.mk (R_kb R6.out hk_ GNv.out)
   replace RS := Aside0.mk (R_kb RS.out hk_ GNv.out)
   replace Y3 := Aside0.mk (R_kb Y3.out hk_ GN.out.1)
   replace Y6 := Aside0.mk (R_kb Y6.out hk_ GN.out.1)
   replace R5 := Aside0.mk (S_kb R5.out hk_ GNv.out)
   replace Y5 := Aside0.mk (S_kb Y5.out hk_ GN.out.1)
   replace HI := Aside0.mk hi_
   replace HB := Aside0.mk hb_
   clear hi_ hb_ hk_
   refine ⟨_, rfl, ?_⟩
   refine hK.out _ _ ⟨(blk_cell B6.out 6).trans rfl, by have h_ := (r79_ton Y6.out k hlt).1; rw [GDM.out] at h_; exact h_, by have h_ := (r79_ton Y6.out k hlt).2.1; rw [GDM.out] at h_; exact h_⟩ (fun hHeld => ?_)
   clear hK K
   refine norm_ (a' := ?_) ?_ ?_; rotate_left; (show Act.put _ (some 58) _ = _; simp only [Act.put, put_x, i64_w, i32_w]; rfl)
   refine pure_y 11 (some 59) (bz 14 4095) ?_
   refine pure_y 12 (some 60) (bz 14 8191) ?_
   refine last_ (i := 13) (N := none) (bz 14 16383) rfl rfl (by kernel_rfl) (by decide) (fun K hK => ?_)
   obtain ⟨cg_, hg_⟩ := Kd.R_typed Y6.out gq rfl
   obtain ⟨t1, t2, t3, t4, t5⟩ := r79_ton Y6.out k hlt
   have T1 : u1.cell? ⟨gq, k * 3, none⟩ = some (.int .i64 ((acc ++ lo :: ml.drop (k + 1)).getD k z79).f0.f0) := t1
   have T3 : u1.frozen? ⟨gq, k * 3, none⟩ = false := t3
   have T2 : u1.cell? ⟨gq, k * 3 + 1, none⟩ = some (.int .i64 ((acc ++ lo :: ml.drop (k + 1)).getD k z79).f0.f1) := t2
   have Z5 := t5 a b
   rw [GDM.out, set_mid10 _ _ _ _ HLN.out] at Z5
   have ZZ := Aside0.mk Z5
   clear t1 t2 t3 t4 t5 Z5
   have T5 : (u1.setCell ⟨gq, k * 3, none⟩ (.int .i64 a)).cell? ⟨gq, k * 3 + 1, none⟩ = some (.int .i64 ((acc ++ lo :: ml.drop (k + 1)).getD k z79).f0.f1) := cell_next hg_ (by omega) T2
   have T6 : (u1.setCell ⟨gq, k * 3, none⟩ (.int .i64 a)).frozen? ⟨gq, k * 3 + 1, none⟩ = false := blk_frozen (blk_set hg_ (k * 3) (.int .i64 a)) (k * 3 + 1)
   refine skip_ (w1 := ?_) (by rfl) rfl ?_ ?_; rotate_left; (go_simp; rfl)
   clear T1 T2 T3 T5 T6
   have HGb := Aside0.mk hg_
   clear hg_
   refine hK.out _ _ ?_
   clear hK K
   refine done_ (by kernel_rfl) ?_
   clear hHeld h1 h2 hz6_
   replace B4 := Aside0.mk (blk_far B4.out (p := ⟨gq, k * 3, none⟩) (blk_ne_ B4.out HGb.out (by decide)) (.int .i64 a))
   replace B6 := Aside0.mk (blk_far B6.out (p := ⟨gq, k * 3, none⟩) (blk_ne_ B6.out HGb.out (by decide)) (.int .i64 a))
   replace R3 := Aside0.mk (Kd.R_far (p := ⟨gq, k * 3, none⟩) R3.out (fun k_ hk_ e_ => by have h1_ := GB.out; have e2_ : k_ = gq := e_; omega) (.int .i64 a))
   replace R6 := Aside0.mk (Kd.R_far (p := ⟨gq, k * 3, none⟩) R6.out (fun k_ hk_ e_ => by have h1_ := GB.out; have e2_ : k_ = gq := e_; omega) (.int .i64 a))
   replace RS := Aside0.mk (Kd.R_far (p := ⟨gq, k * 3, none⟩) RS.out (fun k_ hk_ e_ => by have h1_ := GB.out; have e2_ : k_ = gq := e_; omega) (.int .i64 a))
   replace R5 := Aside0.mk (Kd.S_far (p := ⟨gq, k * 3, none⟩) R5.out (fun k_ hk_ e_ => by have h1_ := GB.out; have e2_ : k_ = gq := e_; omega) (.int .i64 a))
   replace Y3 := Aside0.mk (Kd.R_set Y3.out HGb.out (by decide) (k * 3) (.int .i64 a))
   replace Y5 := Aside0.mk (Kd.S_set Y5.out HGb.out (by decide) (k * 3) (.int .i64 a))
   replace HI := Aside0.mk (IsS90.far HI.out (p := ⟨gq, k * 3, none⟩) (by have h1_ := GB.out; have h2_ := GN.out.1; show g ≠ gq; omega) (.int .i64 a))
   replace HB := Aside0.mk (below_set (g := gq) (j := k * 3) (v := .int .i64 a) HB.out (by have h1_ := GB.out; have h2_ := GN.out.2.2; omega))
   have HGn := Aside0.mk (blk_set HGb.out (k * 3) (.int .i64 a))
   clear HGb
   have HGb := HGn
   clear HGn
   replace B4 := Aside0.mk (blk_far B4.out (p := ⟨gq, k * 3 + 1, none⟩) (blk_ne_ B4.out HGb.out (by decide)) (.int .i64 b))
   replace B6 := Aside0.mk (blk_far B6.out (p := ⟨gq, k * 3 + 1, none⟩) (blk_ne_ B6.out HGb.out (by decide)) (.int .i64 b))
   replace R3 := Aside0.mk (Kd.R_far (p := ⟨gq, k * 3 + 1, none⟩) R3.out (fun k_ hk_ e_ => by have h1_ := GB.out; have e2_ : k_ = gq := e_; omega) (.int .i64 b))
   replace R6 := Aside0.mk (Kd.R_far (p := ⟨gq, k * 3 + 1, none⟩) R6.out (fun k_ hk_ e_ => by have h1_ := GB.out; have e2_ : k_ = gq := e_; omega) (.int .i64 b))
   replace RS := Aside0.mk (Kd.R_far (p := ⟨gq, k * 3 + 1, none⟩) RS.out (fun k_ hk_ e_ => by have h1_ := GB.out; have e2_ : k_ = gq := e_; omega) (.int .i64 b))
   replace R5 := Aside0.mk (Kd.S_far (p := ⟨gq, k * 3 + 1, none⟩) R5.out (fun k_ hk_ e_ => by have h1_ := GB.out; have e2_ : k_ = gq := e_; omega) (.int .i64 b))
   replace Y3 := Aside0.mk (Kd.R_set Y3.out HGb.out (by decide) (k * 3 + 1) (.int .i64 b))
   replace Y5 := Aside0.mk (Kd.S_set Y5.out HGb.out (by decide) (k * 3 + 1) (.int .i64 b))
   replace HI := Aside0.mk (IsS90.far HI.out (p := ⟨gq, k * 3 + 1, none⟩) (by have h1_ := GB.out; have h2_ := GN.out.1; show g ≠ gq; omega) (.int .i64 b))
   replace HB := Aside0.mk (below_set (g := gq) (j := k * 3 + 1) (v := .int .i64 b) HB.out (by have h1_ := GB.out; have h2_ := GN.out.2.2; omega))
   have HGn := Aside0.mk (blk_set HGb.out (k * 3 + 1) (.int .i64 b))
   clear HGb
   have HGb := HGn
   clear HGn
   replace Y6 := ZZ
   clear ZZ HGb GB GDM
   generalize hW_ : (u1.setCell ⟨gq, k * 3, none⟩ (.int .i64 a)).setCell ⟨gq, k * 3 + 1, none⟩ (.int .i64 b) = u4 at *
   clear hW_
   go_wp2
   go_roundg (ml.length - (k + 1))
   case measure => omega
   case rel => exact ⟨k + 1, f1, acc ++ [⟨⟨a, b⟩, lo.f1⟩], by omega, by omega, by go_num, ⟨by rw [List.length_append, HLN.out]; rfl⟩, ⟨⟨rs, HFF.out, by rw [List.append_assoc]; exact HAP.out⟩⟩, ⟨by rw [List.append_assoc]; exact Y6.out⟩, Y5, B4, B6, R3, R5, R6, RS, Y3, HI, HB⟩
  ·
   have : k = ml.length := by omega
   subst this
   obtain ⟨rest, hfe, hap⟩ := HF2.out
   rw [List.drop_length] at hfe
   simp only [tightA, Option.some.injEq, Prod.mk.injEq] at hfe
   obtain ⟨he1, he2⟩ := hfe
   subst he1; subst he2
   rw [List.append_nil] at hap
   subst hap
   have hy6 := Y6.out
   rw [List.drop_length, List.append_nil] at hy6
   replace Y6 := Aside0.mk hy6
   clear hy6 HF2
   have hz6_ := (blk_cell B6.out 6).trans rfl
   go_upto_region 9 with (fail)
   clear hz6_
   go_wp2
   generalize acc = lacc at *
   go_loopg [8] ms.length (fun gk v8 wr => ∃ (k : Nat) (s : Int) (acc : List S59), k ≤ ms.length ∧ ms.length - k ≤ gk ∧ v8 = .int .i64 k ∧ Aside0 (acc.length = k) ∧ Aside0 (∃ rest, tightS s (ms.drop k) = some (rest, s5) ∧ acc ++ rest = xs) ∧ Aside0 (Kd.S k59 59 wr N (fun _ => True) (.slice X5 ms.length e5) (acc ++ ms.drop k)) ∧ Aside0 (Kd.R k79 79 wr N (fun _ => True) (.slice X6 ml.length e6) lacc) ∧ Aside0 (wr.heap[g4]? = some (.cells #[.int .i64 mL, .int .i64 mU, .int .i64 mR, .slice M3 mh.length d3, .int .i64 mV, .slice M5 ms.length d5, .slice M6 ml.length d6] 26 (0, 0))) ∧ Aside0 (wr.heap[g6]? = some (.cells #[.int .i64 mL, .int .i64 mU, .int .i64 mR, .slice X3 mh.length e3, .int .i64 mV, .slice X5 ms.length e5, .slice X6 ml.length e6] 26 (0, 0))) ∧ Aside0 (Kd.R k85 85 wr Nv (fun k_ => k_ < N) (.slice M3 mh.length d3) mh) ∧ Aside0 (Kd.S k59 59 wr Nv (fun k_ => k_ < N) (.slice M5 ms.length d5) ms) ∧ Aside0 (Kd.R k79 79 wr Nv (fun k_ => k_ < N) (.slice M6 ml.length d6) ml) ∧ Aside0 (Kd.R (Kd.int .i64) 3 wr Nv (fun k_ => k_ < N) (.slice As st.length cs) st) ∧ Aside0 (Kd.R k85 85 wr N (fun _ => True) (.slice X3 mh.length e3) mh) ∧ Aside0 (IsS90 w wr g s) ∧ Aside0 (Below w.heap.size w wr))
   case atStart => exact ⟨0, s, [], by omega, by omega, rfl, ⟨rfl⟩, ⟨⟨xs, HTS.out, rfl⟩⟩, Y5, Y6, B4, B6, R3, R5, R6, RS, Y3, HI, HB⟩
   case round =>
    clear Y6 B4 B6 R3 R5 R6 RS Y3 HI HB Y5 HTS
    obtain ⟨k, s, acc, hk, hgk, rfl, HLN, HF2, Y5, Y6, B4, B6, R3, R5, R6, RS, Y3, HI, HB⟩ := hrel
    by_cases hlt : k < ms.length
    ·
     have hlz : (k : Int) < (ms.length : Int) := by omega
     have hdr := drop_cons_of ms k hlt z59
     obtain ⟨rest, hfe, hap⟩ := HF2.out
     rw [hdr] at hfe
     have hy5 := Y5.out
     rw [hdr] at hy5
     have hlen := HML.out _ (getD_mem10_ ms k z59 hlt)
     generalize ms.getD k z59 = sl at *
     simp only [tightS] at hfe
     obtain ⟨⟨a, b, f2⟩, ha, hfe1⟩ := Option.bind_eq_some_iff.1 hfe
     obtain ⟨⟨lv, f3⟩, hl, hfe3⟩ := Option.bind_eq_some_iff.1 hfe1
     obtain ⟨⟨rs, se⟩, hff, hee⟩ := Option.bind_eq_some_iff.1 hfe3
     simp only [Option.some.injEq, Prod.mk.injEq] at hee
     obtain ⟨he1, he2⟩ := hee
     subst he1; subst he2
     have HA := Aside0.mk ha
     have HLV_ := Aside0.mk hl
     have HFF := Aside0.mk hff
     have HAP := Aside0.mk hap
     replace Y5 := Aside0.mk hy5
     clear ha hl hff hap hfe hfe1 hfe3 HF2 hy5 hdr
     obtain ⟨gq, cq, eq, gb_, gl_, cl_, hg_⟩ := Kd.S_form Y5.out (by rw [List.length_append, List.length_cons]; omega)
     injection eq with eq en_ ec_
     subst eq
     clear ec_ en_
     have GQ := Aside0.mk gb_
     have GB := GQ
     clear hg_ gb_ gl_ cl_
     have hz5_ := (blk_cell B6.out 5).trans rfl
     have GDM : Aside0 ((acc ++ sl :: ms.drop (k + 1)).getD k z59 = sl) := ⟨gd_mid10 _ _ _ _ HLN.out⟩
     obtain ⟨h1, h2, _, _, _⟩ := s59_travel Y5.out k hlt
     rw [GDM.out] at h1 h2
     go_upto_region 12 with (fail)
     have hd_ := below_drew1 (Below.refl wr.heap.size wr)
     replace B4 := Aside0.mk (blk_below B4.out hd_)
     replace B6 := Aside0.mk (blk_below B6.out hd_)
     replace R3 := Aside0.mk (Kd.R_below R3.out hd_)
     replace R6 := Aside0.mk (Kd.R_below R6.out hd_)
     replace RS := Aside0.mk (Kd.R_below RS.out hd_)
     replace Y3 := Aside0.mk (Kd.R_below Y3.out hd_)
     replace Y6 := Aside0.mk (Kd.R_below Y6.out hd_)
     replace R5 := Aside0.mk (Kd.S_below R5.out hd_)
     replace Y5 := Aside0.mk (Kd.S_below Y5.out hd_)
     replace HI := Aside0.mk (IsS90.below HI.out hd_)
     replace HB := Aside0.mk (below_step HB.out hd_)
     clear hd_
     refine start_ (n := 14) (S := fun w' => w'.cell? ⟨g6, 5, none⟩ = some (.slice (some ⟨gq, 0, none⟩) ms.length e5) ∧ w'.cell? ⟨gq, k * 3, none⟩ = some (.int .i64 sl.f0.f0) ∧ w'.cell? ⟨gq, k * 3 + 1, none⟩ = some (.int .i64 sl.f0.f1)) (ds := [13]) #[false, false, false, false, false, false, false, false, false, false, false, false, false, false] (by kernel_rfl) rfl rfl ⟨hz5_, h1, h2⟩ (fun hHeld => ?_)
     generalize wr.drew = wd at B4 B6 R3 R6 RS Y3 Y6 R5 Y5 HI HB hHeld ⊢
     refine pure_y 0 (some 68) (bz 14 1) ?_
     refine pure_y 2 (some 70) (bz 14 5) ?_
     refine pure_y 3 (some 71) (bz 14 13) ?_
     refine pure_y 4 (some 72) (bz 14 29) ?_
     refine pure_y 6 (some 74) (bz 14 93) ?_
     refine take_ (i := 1) (N := some 69) (v := ?_) (a' := ?_) (bz 14 95) rfl rfl (by kernel_rfl) (fun _ _ _ h => h) (Or.inl ⟨by rfl, ?_⟩) hHeld ?_ ?_
     rotate_left; (rintro w' ⟨s0, s1, s2⟩; go_simp; with_reducible rfl); rotate_left; (simp only [Act.put, put_x, i64_w, i32_w]; rfl)
     refine take_ (i := 5) (N := some 73) (v := ?_) (a' := ?_) (bz 14 127) rfl rfl (by kernel_rfl) (fun _ _ _ h => h) (Or.inl ⟨by rfl, ?_⟩) hHeld ?_ ?_
     rotate_left; (rintro w' ⟨s0, s1, s2⟩; go_simp; with_reducible rfl); rotate_left; (simp only [Act.put, put_x, i64_w, i32_w]; rfl)
     refine pure_y 7 (some 75) (bz 14 255) ?_
     refine pure_y 8 (some 76) (bz 14 511) ?_
     refine take_ (i := 9) (N := some 77) (v := ?_) (a' := ?_) (bz 14 1023) rfl rfl (by kernel_rfl) (fun _ _ _ h => h) (Or.inl ⟨by rfl, ?_⟩) hHeld ?_ ?_
     rotate_left; (rintro w' ⟨s0, s1, s2⟩; go_simp; with_reducible rfl); rotate_left; (simp only [Act.put, put_x, i64_w, i32_w]; rfl)
     refine one_ (i := 10) (N := some 78) (bz 14 2047) rfl rfl (by kernel_rfl) (by decide) (fun K hK => ?_)
     refine goes_ Try.func48 (by kernel_rfl) rfl #[.pointer (some ⟨g, 0, none⟩), .agg #[.int .i64 sl.f0.f0, .int .i64 sl.f0.f1]] (by rfl) rfl rfl (by (try simp only [List.map_toArray, List.map_cons, List.map_nil]); first | done | rfl) ?_
     with_reducible refine (swarfkit_Feed_Tighter.calls g s sl.f0.f0 sl.f0.f1 a b f2 w _ HI.out HB.out HA.out).mono ?_
     rintro e u1 ⟨rfl, hi_, hb_, hk_⟩
     replace B4 := Aside0.mk (blk_kb B4.out hk_ (IsS90.ne_blk HI.out B4.out (by decide)).symm)
     replace B6 := Aside0.mk (blk_kb B6.out hk_ (IsS90.ne_blk HI.out B6.out (by decide)).symm)
     replace R3 := Aside0.mk (R_kb R3.out hk_ GNv.out)
     replace R6 := Aside0.mk (R_kb R6.out hk_ GNv.out)
     replace RS := Aside0.mk (R_kb RS.out hk_ GNv.out)
     replace Y3 := Aside0.mk (R_kb Y3.out hk_ GN.out.1)
     replace Y6 := Aside0.mk (R_kb Y6.out hk_ GN.out.1)
     replace R5 := Aside0.mk (S_kb R5.out hk_ GNv.out)
     replace Y5 := Aside0.mk (S_kb Y5.out hk_ GN.out.1)
     replace HI := Aside0.mk hi_
     replace HB := Aside0.mk hb_
     clear hi_ hb_ hk_
     refine ⟨_, rfl, ?_⟩
     refine hK.out _ _ ⟨(blk_cell B6.out 5).trans rfl, by have h_ := (s59_travel Y5.out k hlt).1; rw [GDM.out] at h_; exact h_, by have h_ := (s59_travel Y5.out k hlt).2.1; rw [GDM.out] at h_; exact h_⟩ (fun hHeld => ?_)
     clear hK K
     refine norm_ (a' := ?_) ?_ ?_; rotate_left; (show Act.put _ (some 78) _ = _; simp only [Act.put, put_x, i64_w, i32_w]; rfl)
     refine pure_y 11 (some 79) (bz 14 4095) ?_
     refine pure_y 12 (some 80) (bz 14 8191) ?_
     refine last_ (i := 13) (N := none) (bz 14 16383) rfl rfl (by kernel_rfl) (by decide) (fun K hK => ?_)
     obtain ⟨cg_, hg_⟩ := Kd.S_typed Y5.out gq rfl
     obtain ⟨t1, t2, t3, t4, t5⟩ := s59_travel Y5.out k hlt
     have T1 : u1.cell? ⟨gq, k * 3, none⟩ = some (.int .i64 ((acc ++ sl :: ms.drop (k + 1)).getD k z59).f0.f0) := t1
     have T3 : u1.frozen? ⟨gq, k * 3, none⟩ = false := t3
     have T2 : u1.cell? ⟨gq, k * 3 + 1, none⟩ = some (.int .i64 ((acc ++ sl :: ms.drop (k + 1)).getD k z59).f0.f1) := t2
     have Z5 := t5 a b
     rw [GDM.out, set_mid10 _ _ _ _ HLN.out] at Z5
     have ZZ := Aside0.mk Z5
     clear t1 t2 t3 t4 t5 Z5
     have T5 : (u1.setCell ⟨gq, k * 3, none⟩ (.int .i64 a)).cell? ⟨gq, k * 3 + 1, none⟩ = some (.int .i64 ((acc ++ sl :: ms.drop (k + 1)).getD k z59).f0.f1) := cell_next hg_ (by omega) T2
     have T6 : (u1.setCell ⟨gq, k * 3, none⟩ (.int .i64 a)).frozen? ⟨gq, k * 3 + 1, none⟩ = false := blk_frozen (blk_set hg_ (k * 3) (.int .i64 a)) (k * 3 + 1)
     refine skip_ (w1 := ?_) (by rfl) rfl ?_ ?_; rotate_left; (go_simp; rfl)
     clear T1 T2 T3 T5 T6
     have HGb := Aside0.mk hg_
     clear hg_
     refine hK.out _ _ ?_
     clear hK K
     refine done_ (by kernel_rfl) ?_
     clear hHeld h1 h2 hz5_
     replace B4 := Aside0.mk (blk_far B4.out (p := ⟨gq, k * 3, none⟩) (blk_ne_ B4.out HGb.out (by decide)) (.int .i64 a))
     replace B6 := Aside0.mk (blk_far B6.out (p := ⟨gq, k * 3, none⟩) (blk_ne_ B6.out HGb.out (by decide)) (.int .i64 a))
     replace R3 := Aside0.mk (Kd.R_far (p := ⟨gq, k * 3, none⟩) R3.out (fun k_ hk_ e_ => by have h1_ := GB.out; have e2_ : k_ = gq := e_; omega) (.int .i64 a))
     replace R6 := Aside0.mk (Kd.R_far (p := ⟨gq, k * 3, none⟩) R6.out (fun k_ hk_ e_ => by have h1_ := GB.out; have e2_ : k_ = gq := e_; omega) (.int .i64 a))
     replace RS := Aside0.mk (Kd.R_far (p := ⟨gq, k * 3, none⟩) RS.out (fun k_ hk_ e_ => by have h1_ := GB.out; have e2_ : k_ = gq := e_; omega) (.int .i64 a))
     replace R5 := Aside0.mk (Kd.S_far (p := ⟨gq, k * 3, none⟩) R5.out (fun k_ hk_ e_ => by have h1_ := GB.out; have e2_ : k_ = gq := e_; omega) (.int .i64 a))
     replace Y3 := Aside0.mk (Kd.R_set Y3.out HGb.out (by decide) (k * 3) (.int .i64 a))
     replace Y6 := Aside0.mk (Kd.R_set Y6.out HGb.out (by decide) (k * 3) (.int .i64 a))
     replace HI := Aside0.mk (IsS90.far HI.out (p := ⟨gq, k * 3, none⟩) (by have h1_ := GB.out; have h2_ := GN.out.1; show g ≠ gq; omega) (.int .i64 a))
     replace HB := Aside0.mk (below_set (g := gq) (j := k * 3) (v := .int .i64 a) HB.out (by have h1_ := GB.out; have h2_ := GN.out.2.2; omega))
     have HGn := Aside0.mk (blk_set HGb.out (k * 3) (.int .i64 a))
     clear HGb
     have HGb := HGn
     clear HGn
     replace B4 := Aside0.mk (blk_far B4.out (p := ⟨gq, k * 3 + 1, none⟩) (blk_ne_ B4.out HGb.out (by decide)) (.int .i64 b))
     replace B6 := Aside0.mk (blk_far B6.out (p := ⟨gq, k * 3 + 1, none⟩) (blk_ne_ B6.out HGb.out (by decide)) (.int .i64 b))
     replace R3 := Aside0.mk (Kd.R_far (p := ⟨gq, k * 3 + 1, none⟩) R3.out (fun k_ hk_ e_ => by have h1_ := GB.out; have e2_ : k_ = gq := e_; omega) (.int .i64 b))
     replace R6 := Aside0.mk (Kd.R_far (p := ⟨gq, k * 3 + 1, none⟩) R6.out (fun k_ hk_ e_ => by have h1_ := GB.out; have e2_ : k_ = gq := e_; omega) (.int .i64 b))
     replace RS := Aside0.mk (Kd.R_far (p := ⟨gq, k * 3 + 1, none⟩) RS.out (fun k_ hk_ e_ => by have h1_ := GB.out; have e2_ : k_ = gq := e_; omega) (.int .i64 b))
     replace R5 := Aside0.mk (Kd.S_far (p := ⟨gq, k * 3 + 1, none⟩) R5.out (fun k_ hk_ e_ => by have h1_ := GB.out; have e2_ : k_ = gq := e_; omega) (.int .i64 b))
     replace Y3 := Aside0.mk (Kd.R_set Y3.out HGb.out (by decide) (k * 3 + 1) (.int .i64 b))
     replace Y6 := Aside0.mk (Kd.R_set Y6.out HGb.out (by decide) (k * 3 + 1) (.int .i64 b))
     replace HI := Aside0.mk (IsS90.far HI.out (p := ⟨gq, k * 3 + 1, none⟩) (by have h1_ := GB.out; have h2_ := GN.out.1; show g ≠ gq; omega) (.int .i64 b))
     replace HB := Aside0.mk (below_set (g := gq) (j := k * 3 + 1) (v := .int .i64 b) HB.out (by have h1_ := GB.out; have h2_ := GN.out.2.2; omega))
     have HGn := Aside0.mk (blk_set HGb.out (k * 3 + 1) (.int .i64 b))
     clear HGb
     have HGb := HGn
     clear HGn
     replace Y5 := ZZ
     clear ZZ HGb GB GDM
     generalize hW_ : (u1.setCell ⟨gq, k * 3, none⟩ (.int .i64 a)).setCell ⟨gq, k * 3 + 1, none⟩ (.int .i64 b) = u4 at *
     clear hW_
     go_wp2
     go_loopg [9] sl.f1.length (fun gk v9 wr => ∃ (j : Nat) (s : Int) (jacc : List S62), j ≤ sl.f1.length ∧ sl.f1.length - j ≤ gk ∧ v9 = .int .i64 j ∧ Aside0 (jacc.length = j) ∧ Aside0 (∃ rest, tightL s (sl.f1.drop j) = some (rest, f3) ∧ jacc ++ rest = lv) ∧ Aside0 (Kd.S k59 59 wr N (fun _ => True) (.slice (some ⟨gq, 0, none⟩) ms.length e5) (acc ++ ⟨⟨a, b⟩, jacc ++ sl.f1.drop j⟩ :: ms.drop (k + 1))) ∧ Aside0 (Kd.R k79 79 wr N (fun _ => True) (.slice X6 ml.length e6) lacc) ∧ Aside0 (wr.heap[g4]? = some (.cells #[.int .i64 mL, .int .i64 mU, .int .i64 mR, .slice M3 mh.length d3, .int .i64 mV, .slice M5 ms.length d5, .slice M6 ml.length d6] 26 (0, 0))) ∧ Aside0 (wr.heap[g6]? = some (.cells #[.int .i64 mL, .int .i64 mU, .int .i64 mR, .slice X3 mh.length e3, .int .i64 mV, .slice (some ⟨gq, 0, none⟩) ms.length e5, .slice X6 ml.length e6] 26 (0, 0))) ∧ Aside0 (Kd.R k85 85 wr Nv (fun k_ => k_ < N) (.slice M3 mh.length d3) mh) ∧ Aside0 (Kd.S k59 59 wr Nv (fun k_ => k_ < N) (.slice M5 ms.length d5) ms) ∧ Aside0 (Kd.R k79 79 wr Nv (fun k_ => k_ < N) (.slice M6 ml.length d6) ml) ∧ Aside0 (Kd.R (Kd.int .i64) 3 wr Nv (fun k_ => k_ < N) (.slice As st.length cs) st) ∧ Aside0 (Kd.R k85 85 wr N (fun _ => True) (.slice X3 mh.length e3) mh) ∧ Aside0 (IsS90 w wr g s) ∧ Aside0 (Below w.heap.size w wr))
     case atStart => exact ⟨0, f2, [], by omega, by omega, rfl, ⟨rfl⟩, ⟨⟨lv, HLV_.out, rfl⟩⟩, Y5, Y6, B4, B6, R3, R5, R6, RS, Y3, HI, HB⟩
     case round =>
      clear Y6 B4 B6 R3 R5 R6 RS Y3 HI HB Y5 HLV_
      obtain ⟨j, s, jacc, hj, hgj, rfl, HLJ, HF2, Y5, Y6, B4, B6, R3, R5, R6, RS, Y3, HI, HB⟩ := hrel
      have GDM : ∀ z : S59, Aside0 ((acc ++ z :: ms.drop (k + 1)).getD k z59 = z) := fun z => ⟨gd_mid10 _ _ _ _ HLN.out⟩
      by_cases hjl : j < sl.f1.length
      ·
       have hjz : (j : Int) < (sl.f1.length : Int) := by omega
       have hdr := drop_cons_of sl.f1 j hjl z62
       obtain ⟨rest, hfe, hap⟩ := HF2.out
       rw [hdr] at hfe
       have hy5 := Y5.out
       rw [hdr] at hy5
       have hll : (jacc ++ sl.f1.getD j z62 :: sl.f1.drop (j + 1)).length = sl.f1.length := by rw [List.length_append, List.length_cons, List.length_drop, HLJ.out]; omega
       generalize sl.f1.getD j z62 = lc at *
       have HLL := Aside0.mk hll
       simp only [tightL] at hfe
       obtain ⟨⟨p1, p2, f4⟩, ha, hfe1⟩ := Option.bind_eq_some_iff.1 hfe
       obtain ⟨⟨rs, se⟩, hff, hee⟩ := Option.bind_eq_some_iff.1 hfe1
       simp only [Option.some.injEq, Prod.mk.injEq] at hee
       obtain ⟨he1, he2⟩ := hee
       subst he1; subst he2
       have HA := Aside0.mk ha
       have HFF := Aside0.mk hff
       have HAP2 := Aside0.mk hap
       replace Y5 := Aside0.mk hy5
       clear ha hff hap hfe hfe1 HF2 hy5 hdr hll
       obtain ⟨gl, cl, d1, d2, ⟨cd_, d3⟩, d4, d5, d6, d7, d8⟩ := s59_depth Y5.out k hlt j (by rw [(GDM _).out]; simp only; rw [HLL.out]; exact hjl)
       rw [(GDM _).out] at d1 d4 d5 d8
       simp only at d1 d4 d5 d8
       rw [HLL.out] at d1
       rw [gd_mid10 _ _ _ _ HLJ.out] at d4 d5 d8
       have GB := Aside0.mk d2
       clear d2 d3 d6 d7 d8
       have hz5_ := (blk_cell B6.out 5).trans rfl
       go_upto_region 16 with (fail)
       have hgqg : (⟨gq, k * 3 + 2, none⟩ : Addr).block ≠ g := by have h1_ := GQ.out; have h2_ := GN.out.1; show gq ≠ g; omega
       have D1 := Aside0.mk d1
       have hd_ := below_drew1 (Below.refl wr.heap.size wr)
       replace B4 := Aside0.mk (blk_below B4.out hd_)
       replace B6 := Aside0.mk (blk_below B6.out hd_)
       replace R3 := Aside0.mk (Kd.R_below R3.out hd_)
       replace R6 := Aside0.mk (Kd.R_below R6.out hd_)
       replace RS := Aside0.mk (Kd.R_below RS.out hd_)
       replace Y3 := Aside0.mk (Kd.R_below Y3.out hd_)
       replace Y6 := Aside0.mk (Kd.R_below Y6.out hd_)
       replace R5 := Aside0.mk (Kd.S_below R5.out hd_)
       replace Y5 := Aside0.mk (Kd.S_below Y5.out hd_)
       replace D1 := Aside0.mk ((hd_.cell (World.block_lt_of_cell? _ _ D1.out)).trans D1.out)
       replace HI := Aside0.mk (IsS90.below HI.out hd_)
       replace HB := Aside0.mk (below_step HB.out hd_)
       clear hd_
       refine start_ (n := 22) (S := fun w' => w'.cell? ⟨g6, 5, none⟩ = some (.slice (some ⟨gq, 0, none⟩) ms.length e5) ∧ w'.cell? ⟨gq, k * 3 + 2, none⟩ = some (.slice (some ⟨gl, 0, none⟩) sl.f1.length cl) ∧ w'.cell? ⟨gl, j * 3 + 1, none⟩ = some (.int .i64 lc.f1.f0) ∧ w'.cell? ⟨gl, j * 3 + 2, none⟩ = some (.int .i64 lc.f1.f1)) (ds := [21]) #[false, false, false, false, false, false, false, false, false, false, false, false, false, false, false, false, false, false, false, false, false, false] (by kernel_rfl) rfl rfl ⟨hz5_, d1, d4, d5⟩ (fun hHeld => ?_)
       generalize wr.drew = wd at B4 B6 R3 R6 RS Y3 Y6 R5 Y5 HI HB D1 hHeld ⊢
       refine pure_y 0 (some 92) (bz 22 1) ?_
       refine pure_y 2 (some 94) (bz 22 5) ?_
       refine pure_y 6 (some 98) (bz 22 69) ?_
       refine pure_y 7 (some 99) (bz 22 197) ?_
       refine pure_y 8 (some 100) (bz 22 453) ?_
       refine pure_y 10 (some 102) (bz 22 1477) ?_
       refine pure_y 14 (some 106) (bz 22 17861) ?_
       refine take_ (i := 1) (N := some 93) (v := ?_) (a' := ?_) (bz 22 17863) rfl rfl (by kernel_rfl) (fun _ _ _ h => h) (Or.inl ⟨by rfl, ?_⟩) hHeld ?_ ?_
       rotate_left; (rintro w' ⟨s0, s1, s2, s3⟩; go_simp; with_reducible rfl); rotate_left; (simp only [Act.put, put_x, i64_w, i32_w]; rfl)
       refine pure_y 3 (some 95) (bz 22 17871) ?_
       refine pure_y 4 (some 96) (bz 22 17887) ?_
       refine take_ (i := 5) (N := some 97) (v := ?_) (a' := ?_) (bz 22 17919) rfl rfl (by kernel_rfl) (fun _ _ _ h => h) (Or.inl ⟨by rfl, ?_⟩) hHeld ?_ ?_
       rotate_left; (rintro w' ⟨s0, s1, s2, s3⟩; go_simp; with_reducible rfl); rotate_left; (simp only [Act.put, put_x, i64_w, i32_w]; rfl)
       refine take_ (i := 9) (N := some 101) (v := ?_) (a' := ?_) (bz 22 18431) rfl rfl (by kernel_rfl) (fun _ _ _ h => h) (Or.inl ⟨by rfl, ?_⟩) hHeld ?_ ?_
       rotate_left; (rintro w' ⟨s0, s1, s2, s3⟩; go_simp; with_reducible rfl); rotate_left; (simp only [Act.put, put_x, i64_w, i32_w]; rfl)
       refine pure_y 11 (some 103) (bz 22 20479) ?_
       refine pure_y 12 (some 104) (bz 22 24575) ?_
       refine take_ (i := 13) (N := some 105) (v := ?_) (a' := ?_) (bz 22 32767) rfl rfl (by kernel_rfl) (fun _ _ _ h => h) (Or.inl ⟨by rfl, ?_⟩) hHeld ?_ ?_
       rotate_left; (rintro w' ⟨s0, s1, s2, s3⟩; go_simp; with_reducible rfl); rotate_left; (simp only [Act.put, put_x, i64_w, i32_w]; rfl)
       refine pure_y 15 (some 107) (bz 22 65535) ?_
       refine pure_y 16 (some 108) (bz 22 131071) ?_
       refine take_ (i := 17) (N := some 109) (v := ?_) (a' := ?_) (bz 22 262143) rfl rfl (by kernel_rfl) (fun _ _ _ h => h) (Or.inl ⟨by rfl, ?_⟩) hHeld ?_ ?_
       rotate_left; (rintro w' ⟨s0, s1, s2, s3⟩; go_simp; with_reducible rfl); rotate_left; (simp only [Act.put, put_x, i64_w, i32_w]; rfl)
       refine one_ (i := 18) (N := some 110) (bz 22 524287) rfl rfl (by kernel_rfl) (by decide) (fun K hK => ?_)
       refine goes_ Try.func48 (by kernel_rfl) rfl #[.pointer (some ⟨g, 0, none⟩), .agg #[.int .i64 lc.f1.f0, .int .i64 lc.f1.f1]] (by rfl) rfl rfl (by (try simp only [List.map_toArray, List.map_cons, List.map_nil]); first | done | rfl) ?_
       with_reducible refine (swarfkit_Feed_Tighter.calls g s lc.f1.f0 lc.f1.f1 p1 p2 f4 w _ HI.out HB.out HA.out).mono ?_
       rintro e u5 ⟨rfl, hi_, hb_, hk_⟩
       replace B4 := Aside0.mk (blk_kb B4.out hk_ (IsS90.ne_blk HI.out B4.out (by decide)).symm)
       replace B6 := Aside0.mk (blk_kb B6.out hk_ (IsS90.ne_blk HI.out B6.out (by decide)).symm)
       replace R3 := Aside0.mk (R_kb R3.out hk_ GNv.out)
       replace R6 := Aside0.mk (R_kb R6.out hk_ GNv.out)
       replace RS := Aside0.mk (R_kb RS.out hk_ GNv.out)
       replace Y3 := Aside0.mk (R_kb Y3.out hk_ GN.out.1)
       replace Y6 := Aside0.mk (R_kb Y6.out hk_ GN.out.1)
       replace R5 := Aside0.mk (S_kb R5.out hk_ GNv.out)
       replace Y5 := Aside0.mk (S_kb Y5.out hk_ GN.out.1)
       replace D1 := Aside0.mk (keep_cell hk_ D1.out hgqg)
       replace HI := Aside0.mk hi_
       replace HB := Aside0.mk hb_
       obtain ⟨gl2, cl2, t1, t2, ⟨cd_, t3⟩, t4, t5, t6, t7, t8⟩ := s59_depth Y5.out k hlt j (by rw [(GDM _).out]; simp only; rw [HLL.out]; exact hjl)
       rw [(GDM _).out] at t1 t4 t5 t8
       simp only at t1 t4 t5 t8
       rw [HLL.out] at t1
       rw [gd_mid10 _ _ _ _ HLJ.out] at t4 t5 t8
       obtain rfl := slice_inj (D1.out.symm.trans t1)
       have D4 := Aside0.mk t4
       have D5 := Aside0.mk t5
       clear t1 t2 t3 t4 t5 t6 t7 t8 hi_ hb_ hk_
       refine ⟨_, rfl, ?_⟩
       refine hK.out _ _ ⟨(blk_cell B6.out 5).trans rfl, D1.out, D4.out, D5.out⟩ (fun hHeld => ?_)
       clear hK K
       refine norm_ (a' := ?_) ?_ ?_; rotate_left; (show Act.put _ (some 110) _ = _; simp only [Act.put, put_x, i64_w, i32_w]; rfl)
       refine pure_y 19 (some 111) (bz 22 1048575) ?_
       refine pure_y 20 (some 112) (bz 22 2097151) ?_
       refine last_ (i := 21) (N := none) (bz 22 4194303) rfl rfl (by kernel_rfl) (by decide) (fun K hK => ?_)
       obtain ⟨gl3, cl3, t1, t2, ⟨cd_, t3⟩, t4, t5, t6, t7, t8⟩ := s59_depth Y5.out k hlt j (by rw [(GDM _).out]; simp only; rw [HLL.out]; exact hjl)
       rw [(GDM _).out] at t1 t4 t5 t8
       simp only at t1 t4 t5 t8
       rw [HLL.out] at t1
       rw [gd_mid10 _ _ _ _ HLJ.out] at t4 t5 t8
       obtain rfl := slice_inj (D1.out.symm.trans t1)
       have T1 : u5.cell? ⟨gl, j * 3 + 1, none⟩ = some (.int .i64 lc.f1.f0) := t4
       have T3 : u5.frozen? ⟨gl, j * 3 + 1, none⟩ = false := t6
       have T5 : (u5.setCell ⟨gl, j * 3 + 1, none⟩ (.int .i64 p1)).cell? ⟨gl, j * 3 + 2, none⟩ = some (.int .i64 lc.f1.f1) := cell_next t3 (by omega) t5
       have T6 : (u5.setCell ⟨gl, j * 3 + 1, none⟩ (.int .i64 p1)).frozen? ⟨gl, j * 3 + 2, none⟩ = false := blk_frozen (blk_set t3 (j * 3 + 1) (.int .i64 p1)) (j * 3 + 2)
       have Z5 := t8 p1 p2
       rw [set_mid10 _ _ _ _ HLN.out, set_mid10 _ _ _ _ HLJ.out] at Z5
       have ZZ := Aside0.mk Z5
       have HGb := Aside0.mk t3
       clear t1 t2 t3 t4 t5 t6 t7 t8 Z5
       refine skip_ (w1 := ?_) (by rfl) rfl ?_ ?_; rotate_left; (go_simp; rfl)
       clear T1 T3 T5 T6
       refine hK.out _ _ ?_
       clear hK K
       refine done_ (by kernel_rfl) ?_
       clear hHeld hz5_ d1 d4 d5
       replace B4 := Aside0.mk (blk_far B4.out (p := ⟨gl, j * 3 + 1, none⟩) (blk_ne_ B4.out HGb.out (by decide)) (.int .i64 p1))
       replace B6 := Aside0.mk (blk_far B6.out (p := ⟨gl, j * 3 + 1, none⟩) (blk_ne_ B6.out HGb.out (by decide)) (.int .i64 p1))
       replace R3 := Aside0.mk (Kd.R_far (p := ⟨gl, j * 3 + 1, none⟩) R3.out (fun k_ hk_ e_ => by have h1_ := GB.out; have e2_ : k_ = gl := e_; omega) (.int .i64 p1))
       replace R6 := Aside0.mk (Kd.R_far (p := ⟨gl, j * 3 + 1, none⟩) R6.out (fun k_ hk_ e_ => by have h1_ := GB.out; have e2_ : k_ = gl := e_; omega) (.int .i64 p1))
       replace RS := Aside0.mk (Kd.R_far (p := ⟨gl, j * 3 + 1, none⟩) RS.out (fun k_ hk_ e_ => by have h1_ := GB.out; have e2_ : k_ = gl := e_; omega) (.int .i64 p1))
       replace R5 := Aside0.mk (Kd.S_far (p := ⟨gl, j * 3 + 1, none⟩) R5.out (fun k_ hk_ e_ => by have h1_ := GB.out; have e2_ : k_ = gl := e_; omega) (.int .i64 p1))
       replace Y3 := Aside0.mk (Kd.R_set Y3.out HGb.out (by decide) (j * 3 + 1) (.int .i64 p1))
       replace Y6 := Aside0.mk (Kd.R_set Y6.out HGb.out (by decide) (j * 3 + 1) (.int .i64 p1))
       replace HI := Aside0.mk (IsS90.far HI.out (p := ⟨gl, j * 3 + 1, none⟩) (by have h1_ := GB.out; have h2_ := GN.out.1; show g ≠ gl; omega) (.int .i64 p1))
       replace HB := Aside0.mk (below_set (g := gl) (j := j * 3 + 1) (v := .int .i64 p1) HB.out (by have h1_ := GB.out; have h2_ := GN.out.2.2; omega))
       have HGn := Aside0.mk (blk_set HGb.out (j * 3 + 1) (.int .i64 p1))
       clear HGb
       have HGb := HGn
       clear HGn
       replace B4 := Aside0.mk (blk_far B4.out (p := ⟨gl, j * 3 + 2, none⟩) (blk_ne_ B4.out HGb.out (by decide)) (.int .i64 p2))
       replace B6 := Aside0.mk (blk_far B6.out (p := ⟨gl, j * 3 + 2, none⟩) (blk_ne_ B6.out HGb.out (by decide)) (.int .i64 p2))
       replace R3 := Aside0.mk (Kd.R_far (p := ⟨gl, j * 3 + 2, none⟩) R3.out (fun k_ hk_ e_ => by have h1_ := GB.out; have e2_ : k_ = gl := e_; omega) (.int .i64 p2))
       replace R6 := Aside0.mk (Kd.R_far (p := ⟨gl, j * 3 + 2, none⟩) R6.out (fun k_ hk_ e_ => by have h1_ := GB.out; have e2_ : k_ = gl := e_; omega) (.int .i64 p2))
       replace RS := Aside0.mk (Kd.R_far (p := ⟨gl, j * 3 + 2, none⟩) RS.out (fun k_ hk_ e_ => by have h1_ := GB.out; have e2_ : k_ = gl := e_; omega) (.int .i64 p2))
       replace R5 := Aside0.mk (Kd.S_far (p := ⟨gl, j * 3 + 2, none⟩) R5.out (fun k_ hk_ e_ => by have h1_ := GB.out; have e2_ : k_ = gl := e_; omega) (.int .i64 p2))
       replace Y3 := Aside0.mk (Kd.R_set Y3.out HGb.out (by decide) (j * 3 + 2) (.int .i64 p2))
       replace Y6 := Aside0.mk (Kd.R_set Y6.out HGb.out (by decide) (j * 3 + 2) (.int .i64 p2))
       replace HI := Aside0.mk (IsS90.far HI.out (p := ⟨gl, j * 3 + 2, none⟩) (by have h1_ := GB.out; have h2_ := GN.out.1; show g ≠ gl; omega) (.int .i64 p2))
       replace HB := Aside0.mk (below_set (g := gl) (j := j * 3 + 2) (v := .int .i64 p2) HB.out (by have h1_ := GB.out; have h2_ := GN.out.2.2; omega))
       have HGn := Aside0.mk (blk_set HGb.out (j * 3 + 2) (.int .i64 p2))
       clear HGb
       have HGb := HGn
       clear HGn
       replace Y5 := ZZ
       clear ZZ HGb GB GDM D1 D4 D5 hgqg
       generalize hW_ : (u5.setCell ⟨gl, j * 3 + 1, none⟩ (.int .i64 p1)).setCell ⟨gl, j * 3 + 2, none⟩ (.int .i64 p2) = u9 at *
       clear hW_
       go_wp2
       go_roundg (sl.f1.length - (j + 1))
       case measure => omega
       case rel => exact ⟨j + 1, f4, jacc ++ [⟨lc.f0, ⟨p1, p2⟩⟩], by omega, by omega, by go_num, ⟨by rw [List.length_append, HLJ.out]; rfl⟩, ⟨⟨rs, HFF.out, by rw [List.append_assoc]; exact HAP2.out⟩⟩, ⟨by rw [List.append_assoc]; exact Y5.out⟩, Y6, B4, B6, R3, R5, R6, RS, Y3, HI, HB⟩
      ·
       have : j = sl.f1.length := by omega
       subst this
       obtain ⟨rest, hfe, hap⟩ := HF2.out
       rw [List.drop_length] at hfe
       simp only [tightL, Option.some.injEq, Prod.mk.injEq] at hfe
       obtain ⟨he1, he2⟩ := hfe
       subst he1; subst he2
       rw [List.append_nil] at hap
       subst hap
       have hy5 := Y5.out
       rw [List.drop_length, List.append_nil] at hy5
       obtain ⟨AL_, cL_, d1⟩ := s59_levels hy5 k hlt
       rw [(GDM _).out] at d1
       simp only at d1
       rw [HLJ.out] at d1
       replace Y5 := Aside0.mk hy5
       clear hy5 HF2 GDM
       have hz5_ := (blk_cell B6.out 5).trans rfl
       go_wp2
       go_roundg (ms.length - (k + 1))
       case measure => omega
       case rel => exact ⟨k + 1, s, acc ++ [⟨⟨a, b⟩, jacc⟩], by omega, by omega, by go_num, ⟨by rw [List.length_append, HLN.out]; rfl⟩, ⟨⟨rs, HFF.out, by rw [List.append_assoc]; exact HAP.out⟩⟩, ⟨by rw [List.append_assoc]; exact Y5.out⟩, Y6, B4, B6, R3, R5, R6, RS, Y3, HI, HB⟩
    ·
     have : k = ms.length := by omega
     subst this
     obtain ⟨rest, hfe, hap⟩ := HF2.out
     rw [List.drop_length] at hfe
     simp only [tightS, Option.some.injEq, Prod.mk.injEq] at hfe
     obtain ⟨he1, he2⟩ := hfe
     subst he1; subst he2
     rw [List.append_nil] at hap
     subst hap
     have hy5 := Y5.out
     rw [List.drop_length, List.append_nil] at hy5
     replace Y5 := Aside0.mk hy5
     clear hy5 HF2
     have hz5_ := (blk_cell B6.out 5).trans rfl
     go_upto_region 17 with (fail)
     clear hz5_
     have hl := HXL.out
     rw [← hl] at Y5 B6
     have hl2 := HXA.out
     rw [← hl2] at Y6 B6
     have MX := Aside0.mk (show (⟨mL, mU, mR, M3, d3, mh, mV, M5, d5, ms, M6, d6, ml⟩ : VoyV).Ok wr from ⟨(Kd.R_reads' R3.out).2.2, (Kd.R_reads' R3.out).2.1, (Kd.S_reads' R5.out).2.2, (Kd.S_reads' R5.out).2.1, (Kd.R_reads' R6.out).2.2, (Kd.R_reads' R6.out).2.1⟩)
     have XX := Aside0.mk (show (⟨mL, mU, mR, X3, e3, mh, mV, X5, e5, acc, X6, e6, lacc⟩ : VoyV).Ok wr from ⟨(Kd.R_reads' Y3.out).2.2, (Kd.R_reads' Y3.out).2.1, (Kd.S_reads' Y5.out).2.2, (Kd.S_reads' Y5.out).2.1, (Kd.R_reads' Y6.out).2.2, (Kd.R_reads' Y6.out).2.1⟩)
     have RSC := Aside0.mk (Kd.R_reads' RS.out).2.2
     have hcs := (Kd.R_reads' RS.out).2.1
     clear R3 R5 R6 RS Y3 Y5 Y6 hl hl2 HI
     have hz0_ := (blk_cell B4.out 0).trans rfl
     have hz1_ := (blk_cell B4.out 1).trans rfl
     have hz2_ := (blk_cell B4.out 2).trans rfl
     have hz3_ := (blk_cell B4.out 3).trans rfl
     have hz4_ := (blk_cell B4.out 4).trans rfl
     have hz5_ := (blk_cell B4.out 5).trans rfl
     have hz6_ := (blk_cell B4.out 6).trans rfl
     go_wp2_with (fail)
     refine (ship_Drafts.calls mL mU mR M3 d3 mh mV M5 d5 ms M6 d6 ml As cs st pa pb pc pd 0 wr MX.out.h MX.out.hc MX.out.s MX.out.sc MX.out.l MX.out.lc RSC.out hcs HD.out).mono ?_
     rintro e z1 ⟨rfl, hb_⟩
     replace B4 := Aside0.mk (blk_below B4.out hb_)
     replace B6 := Aside0.mk (blk_below B6.out hb_)
     replace RSC := Aside0.mk (Kd.C_below RSC.out hb_)
     replace HB := Aside0.mk (below_step HB.out hb_)
     replace MX := Aside0.mk (MX.out.below hb_)
     replace XX := Aside0.mk (XX.out.below hb_)
     clear hb_ hz0_ hz1_ hz2_ hz3_ hz4_ hz5_ hz6_
     go_upto_region 18 with (fail)
     obtain ⟨g10, hg_⟩ : ∃ b, b = z1.heap.size := ⟨_, rfl⟩
     obtain ⟨g11, hgq_⟩ : ∃ b, b = z1.heap.size + 1 := ⟨_, rfl⟩
     have B10 := Aside0.mk (blk_below (blk_new z1 (.cells #[.int .i64 pa, .int .i64 pb] 56 (0, 0))) (below_alloc (Below.refl _ _) (.cells #[.int .i64 pc, .int .i64 pd] 56 (0, 0))))
     have B11 := Aside0.mk (show ((z1.alloc (.cells #[.int .i64 pa, .int .i64 pb] 56 (0, 0))).alloc (.cells #[.int .i64 pc, .int .i64 pd] 56 (0, 0))).heap[z1.heap.size + 1]? = some (.cells #[.int .i64 pc, .int .i64 pd] 56 (0, 0)) from by have h_ := blk_new (z1.alloc (.cells #[.int .i64 pa, .int .i64 pb] 56 (0, 0))) (.cells #[.int .i64 pc, .int .i64 pd] 56 (0, 0)); rw [show (z1.alloc (.cells #[.int .i64 pa, .int .i64 pb] 56 (0, 0))).heap.size = z1.heap.size + 1 by simp] at h_; exact h_)
     have hbw : Below z1.heap.size z1 ((z1.alloc (.cells #[.int .i64 pa, .int .i64 pb] 56 (0, 0))).alloc (.cells #[.int .i64 pc, .int .i64 pd] 56 (0, 0))) := below_alloc (below_alloc (Below.refl _ _) _) _
     have hgs_ : w.heap.size ≤ g10 ∧ w.heap.size ≤ g11 := by rw [hg_, hgq_]; have := HB.out.size; omega
     generalize hw_ : (z1.alloc (.cells #[.int .i64 pa, .int .i64 pb] 56 (0, 0))).alloc (.cells #[.int .i64 pc, .int .i64 pd] 56 (0, 0)) = z2 at *
     rw [← hgq_, ← hg_]
     rw [← hgq_] at B11
     rw [← hg_] at B10
     replace B4 := Aside0.mk (blk_below B4.out hbw)
     replace B6 := Aside0.mk (blk_below B6.out hbw)
     replace RSC := Aside0.mk (Kd.C_below RSC.out hbw)
     replace HB := Aside0.mk (below_step HB.out hbw)
     replace MX := Aside0.mk (MX.out.below hbw)
     replace XX := Aside0.mk (XX.out.below hbw)
     have GEg10 : Aside0 (w.heap.size ≤ g10) := ⟨hgs_.1⟩
     have GEg11 : Aside0 (w.heap.size ≤ g11) := ⟨hgs_.2⟩
     clear hbw hw_ hg_ hgq_ hgs_
     have hz0_ := (blk_cell B6.out 0).trans rfl
     have hz1_ := (blk_cell B6.out 1).trans rfl
     have hz2_ := (blk_cell B6.out 2).trans rfl
     have hz3_ := (blk_cell B6.out 3).trans rfl
     have hz4_ := (blk_cell B6.out 4).trans rfl
     have hz5_ := (blk_cell B6.out 5).trans rfl
     have hz6_ := (blk_cell B6.out 6).trans rfl
     go_wp2_with (fail)
     refine (ship_Drafts.calls mL mU mR X3 e3 mh mV X5 e5 acc X6 e6 lacc As cs st qa qb qc qd 0 z2 XX.out.h XX.out.hc XX.out.s XX.out.sc XX.out.l XX.out.lc RSC.out hcs HD2.out).mono ?_
     rintro e z3 ⟨rfl, hb_⟩
     replace B4 := Aside0.mk (blk_below B4.out hb_)
     replace B6 := Aside0.mk (blk_below B6.out hb_)
     replace B10 := Aside0.mk (blk_below B10.out hb_)
     replace B11 := Aside0.mk (blk_below B11.out hb_)
     replace RSC := Aside0.mk (Kd.C_below RSC.out hb_)
     replace HB := Aside0.mk (below_step HB.out hb_)
     replace MX := Aside0.mk (MX.out.below hb_)
     replace XX := Aside0.mk (XX.out.below hb_)
     clear hb_ hz0_ hz1_ hz2_ hz3_ hz4_ hz5_ hz6_
     go_upto_region 19 with (fail)
     obtain ⟨g13, hg_⟩ : ∃ b, b = z3.heap.size := ⟨_, rfl⟩
     obtain ⟨g14, hgq_⟩ : ∃ b, b = z3.heap.size + 1 := ⟨_, rfl⟩
     have B13 := Aside0.mk (blk_below (blk_new z3 (.cells #[.int .i64 qa, .int .i64 qb] 56 (0, 0))) (below_alloc (Below.refl _ _) (.cells #[.int .i64 qc, .int .i64 qd] 56 (0, 0))))
     have B14 := Aside0.mk (show ((z3.alloc (.cells #[.int .i64 qa, .int .i64 qb] 56 (0, 0))).alloc (.cells #[.int .i64 qc, .int .i64 qd] 56 (0, 0))).heap[z3.heap.size + 1]? = some (.cells #[.int .i64 qc, .int .i64 qd] 56 (0, 0)) from by have h_ := blk_new (z3.alloc (.cells #[.int .i64 qa, .int .i64 qb] 56 (0, 0))) (.cells #[.int .i64 qc, .int .i64 qd] 56 (0, 0)); rw [show (z3.alloc (.cells #[.int .i64 qa, .int .i64 qb] 56 (0, 0))).heap.size = z3.heap.size + 1 by simp] at h_; exact h_)
     have hbw : Below z3.heap.size z3 ((z3.alloc (.cells #[.int .i64 qa, .int .i64 qb] 56 (0, 0))).alloc (.cells #[.int .i64 qc, .int .i64 qd] 56 (0, 0))) := below_alloc (below_alloc (Below.refl _ _) _) _
     have hgs_ : w.heap.size ≤ g13 ∧ w.heap.size ≤ g14 := by rw [hg_, hgq_]; have := HB.out.size; omega
     generalize hw_ : (z3.alloc (.cells #[.int .i64 qa, .int .i64 qb] 56 (0, 0))).alloc (.cells #[.int .i64 qc, .int .i64 qd] 56 (0, 0)) = z4 at *
     rw [← hgq_, ← hg_]
     rw [← hgq_] at B14
     rw [← hg_] at B13
     replace B4 := Aside0.mk (blk_below B4.out hbw)
     replace B6 := Aside0.mk (blk_below B6.out hbw)
     replace B10 := Aside0.mk (blk_below B10.out hbw)
     replace B11 := Aside0.mk (blk_below B11.out hbw)
     replace RSC := Aside0.mk (Kd.C_below RSC.out hbw)
     replace HB := Aside0.mk (below_step HB.out hbw)
     replace MX := Aside0.mk (MX.out.below hbw)
     replace XX := Aside0.mk (XX.out.below hbw)
     have GEg13 : Aside0 (w.heap.size ≤ g13) := ⟨hgs_.1⟩
     have GEg14 : Aside0 (w.heap.size ≤ g14) := ⟨hgs_.2⟩
     clear hbw hw_ hg_ hgq_ hgs_
     have hz0_ := (blk_cell B4.out 0).trans rfl
     have hz1_ := (blk_cell B4.out 1).trans rfl
     have hz2_ := (blk_cell B4.out 2).trans rfl
     have hz3_ := (blk_cell B4.out 3).trans rfl
     have hz4_ := (blk_cell B4.out 4).trans rfl
     have hz5_ := (blk_cell B4.out 5).trans rfl
     have hz6_ := (blk_cell B4.out 6).trans rfl
     go_wp2_with (fail)
     refine (ship_Level.calls kl mL mU mR M3 d3 mh mV M5 d5 ms M6 d6 ml As cs st al y z 0 z4 MX.out.h MX.out.hc MX.out.s MX.out.sc MX.out.l MX.out.lc RSC.out hcs HLV.out).mono ?_
     rintro e z5 ⟨rfl, hb_⟩
     replace B4 := Aside0.mk (blk_below B4.out hb_)
     replace B6 := Aside0.mk (blk_below B6.out hb_)
     replace B10 := Aside0.mk (blk_below B10.out hb_)
     replace B11 := Aside0.mk (blk_below B11.out hb_)
     replace B13 := Aside0.mk (blk_below B13.out hb_)
     replace B14 := Aside0.mk (blk_below B14.out hb_)
     replace RSC := Aside0.mk (Kd.C_below RSC.out hb_)
     replace HB := Aside0.mk (below_step HB.out hb_)
     replace MX := Aside0.mk (MX.out.below hb_)
     replace XX := Aside0.mk (XX.out.below hb_)
     clear hb_ hz0_ hz1_ hz2_ hz3_ hz4_ hz5_ hz6_
     go_upto_region 20 with (fail)
     obtain ⟨g17, hg_⟩ : ∃ b, b = z5.heap.size := ⟨_, rfl⟩
     have B17 := Aside0.mk (blk_new z5 (.cells #[.int .i64 y, .int .i64 z] 56 (0, 0)))
     have hbw : Below z5.heap.size z5 (z5.alloc (.cells #[.int .i64 y, .int .i64 z] 56 (0, 0))) := below_alloc (Below.refl _ _) _
     have hgs_ : w.heap.size ≤ g17 := by rw [hg_]; exact HB.out.size
     generalize hw_ : z5.alloc (.cells #[.int .i64 y, .int .i64 z] 56 (0, 0)) = z6 at *
     rw [← hg_] at B17 ⊢
     replace B4 := Aside0.mk (blk_below B4.out hbw)
     replace B6 := Aside0.mk (blk_below B6.out hbw)
     replace B10 := Aside0.mk (blk_below B10.out hbw)
     replace B11 := Aside0.mk (blk_below B11.out hbw)
     replace B13 := Aside0.mk (blk_below B13.out hbw)
     replace B14 := Aside0.mk (blk_below B14.out hbw)
     replace RSC := Aside0.mk (Kd.C_below RSC.out hbw)
     replace HB := Aside0.mk (below_step HB.out hbw)
     replace MX := Aside0.mk (MX.out.below hbw)
     replace XX := Aside0.mk (XX.out.below hbw)
     have GEg17 : Aside0 (w.heap.size ≤ g17) := ⟨hgs_⟩
     clear hbw hw_ hg_ hgs_
     have hz0_ := (blk_cell B6.out 0).trans rfl
     have hz1_ := (blk_cell B6.out 1).trans rfl
     have hz2_ := (blk_cell B6.out 2).trans rfl
     have hz3_ := (blk_cell B6.out 3).trans rfl
     have hz4_ := (blk_cell B6.out 4).trans rfl
     have hz5_ := (blk_cell B6.out 5).trans rfl
     have hz6_ := (blk_cell B6.out 6).trans rfl
     go_wp2_with (fail)
     refine (ship_Level.calls kl2 mL mU mR X3 e3 mh mV X5 e5 acc X6 e6 lacc As cs st al2 p r 0 z6 XX.out.h XX.out.hc XX.out.s XX.out.sc XX.out.l XX.out.lc RSC.out hcs HLV2.out).mono ?_
     rintro e z7 ⟨rfl, hb_⟩
     replace B4 := Aside0.mk (blk_below B4.out hb_)
     replace B6 := Aside0.mk (blk_below B6.out hb_)
     replace B10 := Aside0.mk (blk_below B10.out hb_)
     replace B11 := Aside0.mk (blk_below B11.out hb_)
     replace B13 := Aside0.mk (blk_below B13.out hb_)
     replace B14 := Aside0.mk (blk_below B14.out hb_)
     replace B17 := Aside0.mk (blk_below B17.out hb_)
     replace RSC := Aside0.mk (Kd.C_below RSC.out hb_)
     replace HB := Aside0.mk (below_step HB.out hb_)
     replace MX := Aside0.mk (MX.out.below hb_)
     replace XX := Aside0.mk (XX.out.below hb_)
     clear hb_ hz0_ hz1_ hz2_ hz3_ hz4_ hz5_ hz6_
     go_upto_region 21 with (fail)
     obtain ⟨g20, hg_⟩ : ∃ b, b = z7.heap.size := ⟨_, rfl⟩
     have B20 := Aside0.mk (blk_new z7 (.cells #[.int .i64 p, .int .i64 r] 56 (0, 0)))
     have hbw : Below z7.heap.size z7 (z7.alloc (.cells #[.int .i64 p, .int .i64 r] 56 (0, 0))) := below_alloc (Below.refl _ _) _
     have hgs_ : w.heap.size ≤ g20 := by rw [hg_]; exact HB.out.size
     generalize hw_ : z7.alloc (.cells #[.int .i64 p, .int .i64 r] 56 (0, 0)) = z8 at *
     rw [← hg_] at B20 ⊢
     replace B4 := Aside0.mk (blk_below B4.out hbw)
     replace B6 := Aside0.mk (blk_below B6.out hbw)
     replace B10 := Aside0.mk (blk_below B10.out hbw)
     replace B11 := Aside0.mk (blk_below B11.out hbw)
     replace B13 := Aside0.mk (blk_below B13.out hbw)
     replace B14 := Aside0.mk (blk_below B14.out hbw)
     replace B17 := Aside0.mk (blk_below B17.out hbw)
     replace RSC := Aside0.mk (Kd.C_below RSC.out hbw)
     replace HB := Aside0.mk (below_step HB.out hbw)
     replace MX := Aside0.mk (MX.out.below hbw)
     replace XX := Aside0.mk (XX.out.below hbw)
     have GEg20 : Aside0 (w.heap.size ≤ g20) := ⟨hgs_⟩
     clear hbw hw_ hg_ hgs_
     have hz0_ := (blk_cell B4.out 0).trans rfl
     have hz1_ := (blk_cell B4.out 1).trans rfl
     have hz2_ := (blk_cell B4.out 2).trans rfl
     have hz3_ := (blk_cell B4.out 3).trans rfl
     have hz4_ := (blk_cell B4.out 4).trans rfl
     have hz5_ := (blk_cell B4.out 5).trans rfl
     have hz6_ := (blk_cell B4.out 6).trans rfl
     go_wp2_with (fail)
     refine (ship_Sail.calls mL mU mR M3 d3 mh mV M5 d5 ms M6 d6 ml As cs st vd ov 0 z8 MX.out.h MX.out.hc MX.out.s MX.out.sc MX.out.l MX.out.lc RSC.out hcs HSL.out).mono ?_
     rintro e z9 ⟨vo_, rfl, ho_, hb_⟩
     replace B4 := Aside0.mk (blk_below B4.out hb_)
     replace B6 := Aside0.mk (blk_below B6.out hb_)
     replace B10 := Aside0.mk (blk_below B10.out hb_)
     replace B11 := Aside0.mk (blk_below B11.out hb_)
     replace B13 := Aside0.mk (blk_below B13.out hb_)
     replace B14 := Aside0.mk (blk_below B14.out hb_)
     replace B17 := Aside0.mk (blk_below B17.out hb_)
     replace B20 := Aside0.mk (blk_below B20.out hb_)
     replace RSC := Aside0.mk (Kd.C_below RSC.out hb_)
     replace HB := Aside0.mk (below_step HB.out hb_)
     replace MX := Aside0.mk (MX.out.below hb_)
     replace XX := Aside0.mk (XX.out.below hb_)
     obtain ⟨Ao, co, rfl⟩ := Kd.R_slice ho_
     have OV1 := Aside0.mk (Kd.R_reads' ho_).2.2
     have hOV1 := (Kd.R_reads' ho_).2.1
     clear ho_ hb_ hz0_ hz1_ hz2_ hz3_ hz4_ hz5_ hz6_
     go_upto_region 22 with (fail)
     have hz0_ := (blk_cell B6.out 0).trans rfl
     have hz1_ := (blk_cell B6.out 1).trans rfl
     have hz2_ := (blk_cell B6.out 2).trans rfl
     have hz3_ := (blk_cell B6.out 3).trans rfl
     have hz4_ := (blk_cell B6.out 4).trans rfl
     have hz5_ := (blk_cell B6.out 5).trans rfl
     have hz6_ := (blk_cell B6.out 6).trans rfl
     go_wp2_with (fail)
     refine (ship_Sail.calls mL mU mR X3 e3 mh mV X5 e5 acc X6 e6 lacc As cs st vd2 ov2 0 z9 XX.out.h XX.out.hc XX.out.s XX.out.sc XX.out.l XX.out.lc RSC.out hcs HSL2.out).mono ?_
     rintro e z10 ⟨vo_, rfl, ho_, hb_⟩
     replace B4 := Aside0.mk (blk_below B4.out hb_)
     replace B6 := Aside0.mk (blk_below B6.out hb_)
     replace B10 := Aside0.mk (blk_below B10.out hb_)
     replace B11 := Aside0.mk (blk_below B11.out hb_)
     replace B13 := Aside0.mk (blk_below B13.out hb_)
     replace B14 := Aside0.mk (blk_below B14.out hb_)
     replace B17 := Aside0.mk (blk_below B17.out hb_)
     replace B20 := Aside0.mk (blk_below B20.out hb_)
     replace RSC := Aside0.mk (Kd.C_below RSC.out hb_)
     replace OV1 := Aside0.mk (Kd.C_below OV1.out hb_)
     replace HB := Aside0.mk (below_step HB.out hb_)
     replace MX := Aside0.mk (MX.out.below hb_)
     replace XX := Aside0.mk (XX.out.below hb_)
     obtain ⟨Ap, cp, rfl⟩ := Kd.R_slice ho_
     have OV2 := Aside0.mk (Kd.R_reads' ho_).2.2
     have hOV2 := (Kd.R_reads' ho_).2.1
     clear ho_ hb_ hz0_ hz1_ hz2_ hz3_ hz4_ hz5_ hz6_
     go_upto_region 23 with (fail)
     clear MX XX RSC B4 B6
     have hll : ¬ (ov2.length : Int) < (ov.length : Int) := by have := HLE.out; omega
     obtain ⟨hal, hvd⟩ := And.intro HAL.out HVD.out
     rcases hal with rfl | ⟨rfl, rfl⟩ <;> rcases hvd with rfl | ⟨rfl, rfl⟩ | ⟨rfl, rfl⟩
     all_goals
      have hp0_ := (blk_cell B13.out 0).trans rfl
      have hp1_ := (blk_cell B13.out 1).trans rfl
      have hp2_ := (blk_cell B10.out 0).trans rfl
      have hp3_ := (blk_cell B10.out 1).trans rfl
      go_wp2_with (fail)
      refine (swarfkit_Part.calls qa qb pa pb true z10 HP1.out).mono ?_
      rintro e z11 ⟨rfl, hb_⟩
      replace B10 := Aside0.mk (blk_below B10.out hb_)
      replace B11 := Aside0.mk (blk_below B11.out hb_)
      replace B13 := Aside0.mk (blk_below B13.out hb_)
      replace B14 := Aside0.mk (blk_below B14.out hb_)
      replace B17 := Aside0.mk (blk_below B17.out hb_)
      replace B20 := Aside0.mk (blk_below B20.out hb_)
      replace OV1 := Aside0.mk (Kd.C_below OV1.out hb_)
      replace OV2 := Aside0.mk (Kd.C_below OV2.out hb_)
      replace HB := Aside0.mk (below_step HB.out hb_)
      clear hb_ hp0_ hp1_ hp2_ hp3_
      have hp0_ := (blk_cell B14.out 0).trans rfl
      have hp1_ := (blk_cell B14.out 1).trans rfl
      have hp2_ := (blk_cell B11.out 0).trans rfl
      have hp3_ := (blk_cell B11.out 1).trans rfl
      go_wp2_with (fail)
      refine (swarfkit_Part.calls qc qd pc pd true z11 HP2.out).mono ?_
      rintro e z12 ⟨rfl, hb_⟩
      replace B10 := Aside0.mk (blk_below B10.out hb_)
      replace B11 := Aside0.mk (blk_below B11.out hb_)
      replace B13 := Aside0.mk (blk_below B13.out hb_)
      replace B14 := Aside0.mk (blk_below B14.out hb_)
      replace B17 := Aside0.mk (blk_below B17.out hb_)
      replace B20 := Aside0.mk (blk_below B20.out hb_)
      replace OV1 := Aside0.mk (Kd.C_below OV1.out hb_)
      replace OV2 := Aside0.mk (Kd.C_below OV2.out hb_)
      replace HB := Aside0.mk (below_step HB.out hb_)
      clear hb_ hp0_ hp1_ hp2_ hp3_
      have hp0_ := (blk_cell B20.out 0).trans rfl
      have hp1_ := (blk_cell B20.out 1).trans rfl
      have hp2_ := (blk_cell B17.out 0).trans rfl
      have hp3_ := (blk_cell B17.out 1).trans rfl
      go_wp2_with (fail)
      refine (swarfkit_Part.calls p r y z true z12 HP3.out).mono ?_
      rintro e z13 ⟨rfl, hb_⟩
      replace B10 := Aside0.mk (blk_below B10.out hb_)
      replace B11 := Aside0.mk (blk_below B11.out hb_)
      replace B13 := Aside0.mk (blk_below B13.out hb_)
      replace B14 := Aside0.mk (blk_below B14.out hb_)
      replace B17 := Aside0.mk (blk_below B17.out hb_)
      replace B20 := Aside0.mk (blk_below B20.out hb_)
      replace OV1 := Aside0.mk (Kd.C_below OV1.out hb_)
      replace OV2 := Aside0.mk (Kd.C_below OV2.out hb_)
      replace HB := Aside0.mk (below_step HB.out hb_)
      clear hb_ hp0_ hp1_ hp2_ hp3_
      go_wp2
      go_loopg [28] ov.length (fun gk v28 wr => ∃ k : Nat, k ≤ ov.length ∧ ov.length - k ≤ gk ∧ v28 = .int .i64 k ∧ Aside0 (Kd.C k56 wr Ao ov.length ov) ∧ Aside0 (Kd.C k56 wr Ap ov2.length ov2) ∧ Aside0 (Below w.heap.size w wr))
      case atStart => exact ⟨0, by omega, by omega, rfl, OV1, OV2, HB⟩
      case round =>
       clear OV1 OV2 HB B10 B11 B13 B14 B17 B20
       obtain ⟨k, hk, hgk, rfl, OV1, OV2, HB⟩ := hrel
       have hol := HOB.out
       have hle := HLE.out
       by_cases hlt : k < ov.length
       ·
        have hlz : (k : Int) < (ov.length : Int) := by omega
        have hlz2 : (k : Int) < (ov2.length : Int) := by omega
        obtain ⟨ad1, e1_, h1, h2⟩ := at_T56 OV1.out (k : Int) (by omega) hlz
        obtain ⟨ad2, e2_, h3, h4⟩ := at_T56 OV2.out (k : Int) (by omega) hlz2
        cases e1_
        cases e2_
        rw [Int.toNat_natCast] at h1 h2 h3 h4
        go_upto_region 28 with (fail)
        have hd_ := below_drew1 (Below.refl wr.heap.size wr)
        replace OV1 := Aside0.mk (Kd.C_below OV1.out hd_)
        replace OV2 := Aside0.mk (Kd.C_below OV2.out hd_)
        replace HB := Aside0.mk (below_step HB.out hd_)
        clear hd_
        refine start_ (n := 10) (S := fun w' => w'.cell? (ad1.add (k * 2)) = some (.int .i64 (rd_T56 ov (k : Int)).f0) ∧ w'.cell? ⟨(ad1.add (k * 2)).block, (ad1.add (k * 2)).off + 1, none⟩ = some (.int .i64 (rd_T56 ov (k : Int)).f1) ∧ w'.cell? (ad2.add (k * 2)) = some (.int .i64 (rd_T56 ov2 (k : Int)).f0) ∧ w'.cell? ⟨(ad2.add (k * 2)).block, (ad2.add (k * 2)).off + 1, none⟩ = some (.int .i64 (rd_T56 ov2 (k : Int)).f1)) (ds := []) #[false, false, false, false, false, false, false, false, false, false] (by kernel_rfl) rfl rfl ⟨h1, h2, h3, h4⟩ (fun hHeld => ?_)
        generalize wr.drew = wd at OV1 OV2 HB hHeld ⊢
        refine pure_y 0 (some 224) (bz 10 1) ?_
        refine pure_y 1 (some 225) (bz 10 3) ?_
        refine pure_y 2 (some 226) (bz 10 7) ?_
        refine pure_y 4 (some 228) (bz 10 23) ?_
        refine pure_y 5 (some 229) (bz 10 55) ?_
        refine pure_y 6 (some 230) (bz 10 119) ?_
        refine take_ (i := 3) (N := some 227) (v := ?_) (a' := ?_) (bz 10 127) rfl rfl (by kernel_rfl) (fun _ _ _ h => h) (Or.inl ⟨by rfl, ?_⟩) hHeld ?_ ?_
        rotate_left; (rintro w' ⟨s0, s1, s2, s3⟩; go_simp; with_reducible rfl); rotate_left; (simp only [Act.put, put_x, i64_w, i32_w]; rfl)
        refine take_ (i := 7) (N := some 231) (v := ?_) (a' := ?_) (bz 10 255) rfl rfl (by kernel_rfl) (fun _ _ _ h => h) (Or.inl ⟨by rfl, ?_⟩) hHeld ?_ ?_
        rotate_left; (rintro w' ⟨s0, s1, s2, s3⟩; go_simp; with_reducible rfl); rotate_left; (simp only [Act.put, put_x, i64_w, i32_w]; rfl)
        refine one_ (i := 8) (N := some 232) (bz 10 511) rfl rfl (by kernel_rfl) (by decide) (fun K hK => ?_)
        refine goes_ Try.func49 (by kernel_rfl) rfl #[.agg #[.int .i64 (rd_T56 ov2 (k : Int)).f0, .int .i64 (rd_T56 ov2 (k : Int)).f1], .agg #[.int .i64 (rd_T56 ov (k : Int)).f0, .int .i64 (rd_T56 ov (k : Int)).f1]] (by rfl) rfl rfl (by (try simp only [List.map_toArray, List.map_cons, List.map_nil]); first | done | rfl) ?_
        with_reducible refine (swarfkit_Part.calls (rd_T56 ov2 (k : Int)).f0 (rd_T56 ov2 (k : Int)).f1 (rd_T56 ov (k : Int)).f0 (rd_T56 ov (k : Int)).f1 true _ (HPT.out k hlt)).mono ?_
        rintro e v1_ ⟨rfl, hb_⟩
        replace OV1 := Aside0.mk (Kd.C_below OV1.out hb_)
        replace OV2 := Aside0.mk (Kd.C_below OV2.out hb_)
        replace HB := Aside0.mk (below_step HB.out hb_)
        obtain ⟨ad1', e1_, g1_, g2_⟩ := at_T56 OV1.out (k : Int) (by omega) hlz
        obtain ⟨ad2', e2_, g3_, g4_⟩ := at_T56 OV2.out (k : Int) (by omega) hlz2
        cases e1_
        cases e2_
        rw [Int.toNat_natCast] at g1_ g2_ g3_ g4_
        clear hb_
        refine ⟨_, rfl, ?_⟩
        refine hK.out _ _ ⟨g1_, g2_, g3_, g4_⟩ (fun hHeld => ?_)
        clear hK K
        refine norm_ (a' := ?_) ?_ ?_; rotate_left; (show Act.put _ (some 232) _ = _; simp only [Act.put, put_x, i64_w, i32_w]; rfl)
        refine pure_y 9 (some 233) (bz 10 1023) ?_
        refine done_ (by kernel_rfl) ?_
        clear hHeld h1 h2 h3 h4 g1_ g2_ g3_ g4_
        go_wp2
        go_roundg (ov.length - (k + 1))
        case measure => omega
        case rel => exact ⟨k + 1, by omega, by omega, by go_num, OV1, OV2, HB⟩
       ·
        have : k = ov.length := by omega
        subst this
        go_wp2_with (fail)
        refine (swarflaw07_awake.calls ka true _ HAW.out).mono ?_
        rintro e z4 ⟨rfl, hb_⟩
        replace HB := Aside0.mk (below_step HB.out hb_)
        clear hb_
        go_wp2
        go_ret
        exact ⟨rfl, HB.out⟩
theorem tightA_ok {T : Int} (hT : T ≤ 1000) : ∀ (l : List S79) (s : Int), (∀ x, x ∈ l → LotV T x) → ∃ m s', tightA s l = some (m, s') ∧ NarA l m
  | [], s, _ => ⟨[], s, rfl, rfl, fun i => by simp [z79, z56]⟩
  | x :: l, s, h => by
    obtain ⟨h0, h1, h2, h3, h4⟩ := h x (by simp)
    obtain ⟨a, b, s1, e1, a1, a2, a3⟩ := tighter_ok s x.f0.f0 x.f0.f1 h1 h0 (by omega)
    obtain ⟨m, s2, e2, hl, hm⟩ := tightA_ok hT l s1 (fun y hy => h y (List.mem_cons_of_mem _ hy))
    refine ⟨⟨⟨a, b⟩, x.f1⟩ :: m, s2, ?_, by simp [hl], fun i => ?_⟩
    · simp only [tightA]
      refine Option.bind_eq_some_iff.2 ⟨_, e1, ?_⟩
      exact Option.bind_eq_some_iff.2 ⟨_, e2, rfl⟩
    · cases i with
      | zero => exact ⟨a1, a2, a3, rfl⟩
      | succ i => simpa using hm i
theorem tightL_ok : ∀ (l : List S62) (s : Int), (∀ x, x ∈ l → 0 ≤ x.f1.f0 ∧ x.f1.f0 ≤ x.f1.f1 ∧ x.f1.f1 ≤ 10000) → ∃ m s', tightL s l = some (m, s') ∧ NarL l m
  | [], s, _ => ⟨[], s, rfl, trivial⟩
  | x :: l, s, h => by
    obtain ⟨h0, h1, h2⟩ := h x (by simp)
    obtain ⟨a, b, s1, e1, a1, a2, a3⟩ := tighter_ok s x.f1.f0 x.f1.f1 h1 h0 (by omega)
    obtain ⟨m, s2, e2, hm⟩ := tightL_ok l s1 (fun y hy => h y (List.mem_cons_of_mem _ hy))
    refine ⟨⟨x.f0, ⟨a, b⟩⟩ :: m, s2, ?_, ⟨rfl, a1, a2, a3⟩, hm⟩
    simp only [tightL]
    refine Option.bind_eq_some_iff.2 ⟨_, e1, ?_⟩
    exact Option.bind_eq_some_iff.2 ⟨_, e2, rfl⟩
theorem tightS_ok {T : Int} (hT : T ≤ 1000) : ∀ (ss : List S59) (s : Int), (∀ x, x ∈ ss → SillV T x) → ∃ xs s', tightS s ss = some (xs, s') ∧ NarS ss xs
  | [], s, _ => ⟨[], s, rfl, trivial⟩
  | x :: ss, s, h => by
    obtain ⟨h1, h2, h3, h4, h5, fr, hl⟩ := h x (by simp)
    obtain ⟨a, b, s1, e1, a1, a2, a3⟩ := tighter_ok s x.f0.f0 x.f0.f1 h2 h1 (by omega)
    obtain ⟨lv, s3, e3, hd⟩ := tightL_ok x.f1 s1 (levs_mem hl hT)
    obtain ⟨xs, s4, e4, hs⟩ := tightS_ok hT ss s3 (fun y hy => h y (List.mem_cons_of_mem _ hy))
    refine ⟨⟨⟨a, b⟩, lv⟩ :: xs, s4, ?_, ⟨a1, a2, a3, hd⟩, hs⟩
    simp only [tightS]
    refine Option.bind_eq_some_iff.2 ⟨_, e1, ?_⟩
    refine Option.bind_eq_some_iff.2 ⟨_, e3, ?_⟩
    exact Option.bind_eq_some_iff.2 ⟨_, e4, rfl⟩
theorem lotV_nar {T : Int} {l m : List S79} (h : NarA l m) (hl : ∀ x, x ∈ l → LotV T x) : ∀ x, x ∈ m → LotV T x := by
  intro x hx
  obtain ⟨i, hi, rfl⟩ := List.getElem_of_mem hx
  obtain ⟨h1, h2, h3, h4⟩ := h.2 i
  obtain ⟨c1, c2, c3, c4, c5⟩ := hl _ (getD_mem l i z79 (by have := h.1; omega))
  rw [getD_get m i z79 hi] at h1 h2 h3 h4
  exact ⟨by omega, h2, by omega, by omega, by omega⟩
theorem better_all (A1 : Option Addr) (c1 : Nat) (l1 : List Int) (w : World) (hr1 : Kd.C (Kd.int .i64) w A1 l1.length l1) (hc1 : l1.length ≤ c1) (hb8 : l1.length * 8 ≤ 140737488351232) :
    Calls Try.prog 10 #[.slice A1 l1.length c1] w fun e w' => e = .returned (.bool true) ∧ Below w.heap.size w w' := by
  have e0 : swarfkit_FeedOf.f l1 = some (feedAll l1) := by unfold swarfkit_FeedOf.f; rw [if_pos (by omega)]
  obtain ⟨T, f1, e1, hT⟩ := either_ok (feedAll l1) [4, 30] (by simp) (show 2 ≤ 1000 by decide)
  have hTb : 1 ≤ T ∧ T ≤ 1000 := by
    rcases List.mem_cons.1 hT with rfl | hT
    · omega
    · rw [List.mem_singleton.1 hT]; omega
  obtain ⟨⟨L, U, R, holds, V, sills, lots, f2⟩, e2, hv⟩ := voyageOf_res f1 3 4 5 T (by decide) (by decide) (by decide) (by decide) hTb.1 hTb.2
  obtain ⟨⟨s, f3⟩, e3, hs⟩ := stowageOf_res hv (by decide) (by decide) hTb.2 f2
  replace hs : StowOK holds lots s := hs
  replace hv : VoyOK 3 4 5 T L U R holds V sills lots := hv
  have hV := hv.leaves; have hU := hv.under
  obtain ⟨xl, f4, e4, hA⟩ := tightA_ok hTb.2 lots f3 hv.lo
  obtain ⟨xs, f5, e5, hS⟩ := tightS_ok hTb.2 sills f4 hv.si
  have hlen := narS_len hS
  have hsn := hv.sn
  have hx : VoyOK 3 4 5 T L U R holds V xs xl := ⟨hv.light, hv.under, hv.trim, hv.leaves, hv.hn, hv.ho, by omega, sillV_nar sills xs hS hv.si, by have := hv.ln; have := hA.1; omega, lotV_nar hA hv.lo⟩
  have hsl' : s.length = xl.length := by rw [hA.1]; exact hs.len
  obtain ⟨q, x, t⟩ := told hv (by decide) (by decide) (by decide) hTb.2 hs.len hs.rg
  obtain ⟨q', x', t'⟩ := told hx (by decide) (by decide) (by decide) hTb.2 hsl' hs.rg
  have hh : ∀ i, 0 ≤ (holds.getD i z85).f1 ∧ 0 ≤ (holds.getD i z85).f2 := fun i => by
    by_cases hi : i < holds.length
    · obtain ⟨_, _, a3, _, a5, _⟩ := hv.ho _ (getD_mem holds i z85 hi); exact ⟨a3, a5⟩
    · rw [List.getD, List.getElem?_eq_none (by omega)]; exact ⟨Int.le_refl 0, Int.le_refl 0⟩
  have hq := ldL_nar hA holds hh s 0 (q0 L) (q0 L) ⟨Int.le_refl _, Int.le_refl _, Int.le_refl _, Int.le_refl _⟩
  rw [← t.qe, ← t'.qe] at hq
  have hap := apL_nar hA holds s 0 (0, 0) (0, 0) ⟨Int.le_refl _, Int.le_refl _⟩
  rw [← t.xe, ← t'.xe] at hap
  have hrm : roomOK holds lots s := hs.room
  have hrm' : roomOK holds xl s := fun h hh_ => Int.le_trans (used_nar hA h s 0) (hrm h hh_)
  have s1 := t.sail hrm
  have s2 := t'.sail hrm'
  have late : (wayL U V sills q false).length ≤ (wayL U V xs q' false).length ∧ ∀ i, i < (wayL U V sills q false).length → (wayL U V xs q' false).getD i 0 ≤ (wayL U V sills q false).getD i 0 :=
    sailL_le _ _ V V _ _ (better_late sills xs hS) (sillsOK_of hv.si false) (sillsOK_of hx.si false) hV.1 (Int.le_refl _) (by simp only [Bool.false_eq_true, if_false]; omega)
  have soon : (wayL U V xs q' true).length ≤ (wayL U V sills q true).length ∧ ∀ i, i < (wayL U V xs q' true).length → (wayL U V sills q true).getD i 0 ≤ (wayL U V xs q' true).getD i 0 :=
    sailL_le _ _ V V _ _ (better_early sills xs hS) (sillsOK_of hx.si true) (sillsOK_of hv.si true) hV.1 (Int.le_refl _) (by simp only [if_true]; omega)
  have hle := t.le; have hle' := t'.le; have htop' := t'.top; have htop := t.top
  rw [hlen] at s2 htop'
  obtain ⟨kl, hkl⟩ := (t.level hrm).rounds
  obtain ⟨kl2, hkl2⟩ := (t'.level hrm').rounds
  obtain ⟨kv, e2⟩ := e2.rounds
  obtain ⟨ks, e3⟩ := e3.rounds
  obtain ⟨ka, hka⟩ := awake_ev.rounds
  generalize wayL U V sills q true = so at *
  generalize wayL U V sills q false = la at *
  generalize wayL U V xs q' true = so2 at *
  generalize wayL U V xs q' false = la2 at *
  have ol := over_len so la
  have ol2 := over_len so2 la2
  refine better_walk A1 c1 l1 w hr1 hc1 e0 e1 e2 e3 (copy_ok hv (by decide) (by decide) (by decide)) e4 e5 (t.drafts hrm) (t'.drafts hrm') hkl hkl2 s1 s2 (part_ok hq.1 hq.2.2.1) (part_ok hq.2.1 hq.2.2.2) (part_ok hap.1 hap.2) ?_ ?_ (by omega) (by omega) ?_ hka (fun y hy => by obtain ⟨_, _, _, _, a5, _⟩ := hv.si y hy; omega) hlen hA.1
  · by_cases c : max x.2 (-x.1) ≤ 1000 * R
    · exact .inr ⟨decide_eq_true c, decide_eq_true (by omega)⟩
    · exact .inl (decide_eq_false c)
  · unfold verdictE
    by_cases c1 : la.length = sills.length
    · have c2 : la2.length = sills.length := by omega
      exact .inr (.inl ⟨if_pos c1, if_pos c2⟩)
    · by_cases c2 : so.length < sills.length
      · have c3 : ¬ la2.length = sills.length := by omega
        have c4 : so2.length < sills.length := by omega
        exact .inr (.inr ⟨by rw [if_neg c1, if_pos c2], by rw [if_neg c3, if_pos c4]⟩)
      · exact .inl (by rw [if_neg c1, if_neg c2])
  · intro i hi
    have hi' : i < la.length := by omega
    rw [rd56, rd56, over_getD _ _ _ hi', over_getD _ _ _ (by omega)]
    exact part_ok (soon.2 i (by omega)) (late.2 i hi')
end Go.Proofs.Ytodmemndaaiolaa.PC7
namespace Go.Proofs.YtodmemndaaiolaaW.PrintWords
open Go.ChangeShapes Go.WideShapes
theorem sized_ints {H : Type} {enc : TypeId × Value → H} {P : Program} {W : World} {base : Nat} {spare : Nat → Bool} {held : Bool} {t e : TypeId} {k : IntKind} {a : Option Addr} {len cap : Nat} {d : DataW H} {ps : List MemPlace} {ts : List TypeId} {ds : List (DataW H)} {j : Nat}
    (hsz : (DataW.weightsEach P ts ds).all (· ≤ reachBytes) = true) (ht : ts[j]? = some t) (hd : ds[j]? = some d) (hu : P.underlying t = some (.slice e)) (he : P.underlying e = some (.int k)) (hc : P.cellsOf e = 1) {B : Nat} (hB : P.bytesOf e = B)
    (h : DataW.Trod enc P W base spare held t (.slice a len cap) d ps) : len * B ≤ 140737488351232 := by
  obtain ⟨fuel, hf⟩ := h
  rcases open_ints hu he hc hf with ⟨hcs, _⟩ | ⟨x, l, c, zs, hcs, _, hl, _, hz, hx, _, _⟩
  · simp [Value.cells] at hcs
    obtain ⟨rfl, rfl, rfl⟩ := hcs
    simp
  · simp [Value.cells] at hcs
    obtain ⟨rfl, rfl, rfl⟩ := hcs
    obtain ⟨hx, _⟩ := Prod.mk.inj hx
    subst hx
    have z := sized_slice hsz ht hd hu
    rw [hB] at z
    have hl2 : len ≤ zs.length := by
      rw [hz]
      split
      · exact hl
      · exact Nat.le_refl _
    have h1 : (lits (H := H) k (zs.take len)).length + (lits (H := H) k (zs.drop len)).length = zs.length := by
      simp [lits]
      omega
    rw [h1] at z
    exact Nat.le_trans (Nat.mul_le_mul_right _ hl2) z
end Go.Proofs.YtodmemndaaiolaaW.PrintWords
namespace Go.Proofs.Ytodmemndaaiolaa.PC7
open Go.RowKit Go.Proofs.YtodmemndaaiolaaW.PrintWords Go.Proofs.YtodmemndaaiolaaW.PrintLast Go.Proofs.YtodmemndaaiolaaW.PrintMore
theorem rowOf_ShipBetter (a0 : Option Addr) (len0 cap0 : Nat) (z0 : List Int) (w : World) (w0 : (a0 = none ∧ len0 = 0 ∧ cap0 = 0 ∧ z0 = []) ∨ ∃ x, a0 = some x ∧ len0 ≤ cap0 ∧ cap0 ≤ maxLen ∧ z0.length = cap0 ∧ (∀ i, i < z0.length → w.cell? (x.add i) = some (.int .i64 (z0.getD i 0))) ∧ ∀ n ∈ z0, (Lit.int .i64 n).wf = true) (y0 : len0 * 8 ≤ 140737488351232) :
    Calls Try.prog 10 #[.slice a0 len0 cap0] w fun e w' => e = .returned (.bool true) ∧ Below w.heap.size w w' := by
  obtain ⟨l0, rfl, hr0, hm0, hw0, hc0⟩ := ReadsInt.ofRowC w0
  exact PC7.better_all _ _ l0 w (Kd.C_of_reads (d := (0 : Int)) (h1 := fun _ => rfl) hr0) hc0 y0
end Go.Proofs.Ytodmemndaaiolaa.PC7
namespace Go.Proofs.Ytodmemndaaiolaa.shipBetter
open Go.ChangeShapes Go.WideShapes Go.ChangeAt Go.RowKit
open Go.ChangeMaps (open_string shut_string)
set_option linter.unusedVariables false
theorem own : ownKnob Try.prog.godebug = none := by kernel_rfl
theorem laidOut : laidOutB Try.prog = true := by kernel_rfl
def IsRow (k : IntKind) (w : World) (a : Option Addr) (len cap : Nat) (zs : List Int) : Prop :=
  (a = none ∧ len = 0 ∧ cap = 0 ∧ zs = []) ∨
  ∃ x, a = some x ∧ len ≤ cap ∧ cap ≤ maxLen ∧ zs.length = cap ∧ (∀ i, i < zs.length → w.cell? (x.add i) = some (.int k (zs.getD i 0))) ∧ ∀ n ∈ zs, (Lit.int k n).wf = true
set_option maxRecDepth 100000 in
theorem lifted (os : Os) (started : os.Started) (H : Type) (enc : TypeId × Value → H) :
    ReturnsInHanded {} Try.checked os 10 .any (Rows.shipBetterSpec.pre6 enc Try.prog Try.f10 Rows.shipBetterRow.domain false) (Rows.shipBetterSpec.post enc Try.prog Try.f10 false true false false) := by
  refine returnsInHanded_of_change_sized (C := Try.checked) own started (by kernel_rfl) Try.func10
    (ChangeSpec.witness6 (enc := enc) (C := Try.checked) false ⟨#[], #[.slice none 0 0], []⟩ 8 (by kernel_rfl) (by kernel_rfl) (by kernel_rfl) (by kernel_rfl)) ?_
  intro W base args ds gs before hval0 hW hcnd hsz0 _
  have hsz : (DataW.weightsEach Try.prog (Try.f10.params.toList ++ Rows.shipBetterSpec.plain.varTypes Try.prog) (ds ++ gs)).all (· ≤ reachBytes) = true := hsz0
  have hval : ∀ (j : Nat) t v, Try.f10.params[j]? = some t → args[j]? = some v → Value.okWide Try.prog W .any base t v := hval0
  have hW' := hW
  obtain ⟨p, q, hA0, hV, rfl, hfz, hnd⟩ := hW
  have hA : DataW.TrodAll enc Try.prog W 0 (fun _ => true) true Try.f10.params.toList args.toList ds p := hA0
  rw [Try.params10] at hA hval hsz
  obtain ⟨v0, vs0, d0, ds0, p0, q0, hargs, rfl, rfl, h0, r0⟩ := trodAll_cons hA
  obtain ⟨rfl, rfl, rfl⟩ := trodAll_nil r0
  obtain rfl : args = #[v0] := by cases args; simp_all
  obtain ⟨rfl, rfl⟩ := trodVars_none hV
  obtain ⟨a0, len0, cap0, rfl⟩ := okWide_slice Try.underlying27 (hval 0 27 v0 rfl rfl)
  have k0 := h0
  have lt0 : ∀ x ∈ p0, x.block < W.heap.size := by obtain ⟨m, hm⟩ := k0; exact DataW.trod_lt m _ _ _ hm
  obtain ⟨z0, w0⟩ : ∃ zs, IsRow .i64 W a0 len0 cap0 zs := by
    obtain ⟨fuel, hf⟩ := h0
    rcases open_ints Try.underlying27 Try.underlying3 (by kernel_rfl) hf with ⟨hcs, _⟩ | ⟨x, l, c, zs, hcs, _, hl, hm, hz, _, hcell, hwz⟩
    · simp [Value.cells] at hcs
      obtain ⟨rfl, rfl, rfl⟩ := hcs
      exact ⟨[], .inl ⟨rfl, rfl, rfl, rfl⟩⟩
    · simp [Value.cells] at hcs
      obtain ⟨rfl, rfl, rfl⟩ := hcs
      exact ⟨zs, .inr ⟨_, rfl, hl, hm, by simpa using hz, hcell, hwz⟩⟩
  have y0 : len0 * 8 ≤ 140737488351232 := Go.Proofs.YtodmemndaaiolaaW.PrintWords.sized_ints hsz (j := 0) (t := 27) rfl rfl Try.underlying27 Try.underlying3 (by kernel_rfl) (by kernel_rfl) h0
  clear hA0 hval0 hsz0 hsz
  refine (PC7.rowOf_ShipBetter a0 len0 cap0 z0 W w0 y0).mono fun e W' ⟨he, bel⟩ => ?_
  subst he
  exact ⟨_, rfl, _, _, _, [], _, [], hW', trodAll_mk1 (shut_bool Try.underlying4 _), (trodAll_cons_mk (Below.trod laidOut (by kernel_rfl) (of_decide_eq_true (by kernel_rfl)) k0 bel lt0) trodAll_mk0), rfl, bel.frame _, fun h => by cases h⟩
theorem over : Rows.shipBetterRow.holds Try.pinned (OpenSpec.ofChange Rows.shipBetterSpec) :=
  OpenClaim.holds_of_wide 10 Try.f10 rfl rfl rfl rfl rfl rfl rfl ⟨rfl, rfl, rfl, rfl, rfl⟩ rfl rfl rfl rfl rfl (by kernel_rfl) Try.func10 (by kernel_rfl)
    (of_decide_eq_true (by kernel_rfl)) (by unfold Func.isWrapper; first | (rw [if_pos (by decide +kernel)]; kernel_rfl) | (rw [if_neg (by decide +kernel)]; exact ⟨rfl, rfl⟩))
    (fun os started H enc _ => lifted os started H enc)
theorem proved : Rows.ShipBetterSaid := over
#print axioms proved
end Go.Proofs.Ytodmemndaaiolaa.shipBetter
namespace Go.Proofs.Ytodmemndaaiolaa
theorem shipBetter_holds : Rows.ShipBetterSaid := shipBetter.proved
end Go.Proofs.Ytodmemndaaiolaa
