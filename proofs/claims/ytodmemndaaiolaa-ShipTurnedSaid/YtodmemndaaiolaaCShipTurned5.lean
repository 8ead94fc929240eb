/- bow and stern change places -/
import Derived.Test.YtodmemndaaiolaaCShipTurned2
import Derived.Test.YtodmemndaaiolaaCShipTurned3
import Derived.Outline
import Derived.RegionTactic
import Derived.BigRegion
import Derived.ChangeAlike
import Derived.Deep.DeepCutAuto
import Derived.Deep.CutRange
import Derived.Test.YtodmemndaaiolaaCShipTurned4
import Derived.Test.YtodmemndaaiolaaCShipTurned1
import Derived.SizedLaws
import Derived.ChangeSlices
import Derived.Test.YtodmemndaaiolaaRows
import Derived.WalkKit
import Derived.ProofKit
import Derived.OpenShut
import Derived.ShutString
import Derived.ChangeOld
import Derived.Below
namespace Go.Proofs.Ytodmemndaaiolaa.PC7
set_option linter.unusedVariables false
set_option linter.unusedSimpArgs false
open Go.RowKit Go.Proofs.YtodmemndaaiolaaW.PrintWords Go.Proofs.YtodmemndaaiolaaW.PrintLast Go.Proofs.YtodmemndaaiolaaW.PrintMore
def copyOK (holds : List S85) (sills : List S59) (lots : List S79) : Prop := holds.length ≤ 100000 ∧ lots.length ≤ 100000 ∧ lensOK sills
instance (holds : List S85) (sills : List S59) (lots : List S79) : Decidable (copyOK holds sills lots) := by unfold copyOK; infer_instance
def swarfkit_CopyVoyage.f (a0_0 : Int) (a0_1 : Int) (a0_2 : Int) (l0_3 : List (S85)) (a0_4 : Int) (l0_5 : List (S59)) (l0_6 : List (S79)) : Option (Int × Int × Int × (List (S85)) × Int × (List (S59)) × (List (S79))) :=
 if copyOK l0_3 l0_5 l0_6 then some (a0_0, a0_1, a0_2, l0_3, a0_4, l0_5, l0_6) else none
set_option maxHeartbeats 8000000 in
set_option maxRecDepth 100000 in
theorem copy_calls (x : VoyV) (w : World) (hx : x.Ok w) (hn : copyOK x.holds x.sills x.lots) :
  Calls Try.prog 20 #[.agg #[.int .i64 x.light, .int .i64 x.under, .int .i64 x.trim, .slice x.A3 x.holds.length x.c3, .int .i64 x.leaves, .slice x.A5 x.sills.length x.c5, .slice x.A6 x.lots.length x.c6]] w fun e w' => ∃ v3_ v5_ v6_ : Value, e = .returned (.agg #[.int .i64 x.light, .int .i64 x.under, .int .i64 x.trim, v3_, .int .i64 x.leaves, v5_, v6_]) ∧ Kd.R k85 85 w' w.heap.size (fun _ => True) v3_ x.holds ∧ Kd.S k59 59 w' w.heap.size (fun _ => True) v5_ x.sills ∧ Kd.R k79 79 w' w.heap.size (fun _ => True) v6_ x.lots ∧ Below w.heap.size w w' := by
 have hu26 := Try.underlying26
 have hu23 := Try.underlying23
 have hu59 := Try.underlying59
 obtain ⟨hn1, hn2, hn3⟩ := hn
 have HX := Aside0.mk hx
 have HL := Aside0.mk (SailLens.of hn3)
 have hsl : x.sills.length ≤ 100000 := HL.out.s
 have hcc5 := hx.sc
 obtain ⟨A5, hA5⟩ : ∃ A5, A5 = x.A5 := ⟨_, rfl⟩
 have hs5 := hx.s
 rw [← hA5] at hs5 ⊢
 have HS5 := Aside0.mk hs5
 clear hx hA5 hs5 hn3
 go_enter Try.func20, Try.ntmps20
 go_upto_region 2 with (first
  | ((with_reducible refine gate_dst (N := 1) rfl ?_); refine box_event ?hg (N := 1) ?hd (cs := #[.int .i64 x.light, .int .i64 x.under, .int .i64 x.trim, .slice x.A3 x.holds.length x.c3, .int .i64 x.leaves, .slice A5 x.sills.length x.c5, .slice x.A6 x.lots.length x.c6]) (t := 26) ?hr ?_; (case hd => rfl); (case hg => rfl); (case hr => first | (go_simp; done) | (go_simp; rfl)); intro gb hg w2 hbox hb; have BK := Aside0.mk hbox; have GEb : Aside0 (w.heap.size ≤ gb) := ⟨by rw [hg]; exact Nat.le_refl _⟩; have HB := Aside0.mk hb; have hz3_ := (blk_cell BK.out 3).trans rfl; have hz5_ := (blk_cell BK.out 5).trans rfl; have hz6_ := (blk_cell BK.out 6).trans rfl; clear hg hbox hb)
  | ((with_reducible refine gate_dst (N := 2) rfl ?_); refine box_event ?hg (N := 2) ?hd (cs := #[.int .i64 0, .int .i64 0, .int .i64 0, .slice none 0 0, .int .i64 0, .slice none 0 0, .slice none 0 0]) (t := 26) ?hr ?_; (case hd => rfl); (case hg => rfl); (case hr => first | (go_simp; done) | (go_simp; rfl)); intro ge hg w3 hbox hb; have BE := Aside0.mk hbox; have NBE : Aside0 (gb ≠ ge) := ⟨by have := blk_lt BK.out; omega⟩; replace BK := Aside0.mk (blk_below BK.out hb); have GEe : Aside0 (w.heap.size ≤ ge) := ⟨by rw [hg]; exact HB.out.size⟩; replace HB := Aside0.mk (below_step HB.out hb); clear hz3_ hz5_ hz6_; have hz3_ := (blk_cell BK.out 3).trans rfl; have hz5_ := (blk_cell BK.out 5).trans rfl; have hz6_ := (blk_cell BK.out 6).trans rfl; clear hg hbox hb))
 have hd_ := below_drew1 (Below.refl w3.heap.size w3)
 replace BK := Aside0.mk (blk_drew BK.out)
 replace BE := Aside0.mk (blk_drew BE.out)
 replace HB := Aside0.mk (below_step HB.out hd_)
 clear hd_
 refine start_ (n := 14) (S := fun w' => w'.cell? ⟨gb, 3, none⟩ = some (.slice x.A3 x.holds.length x.c3) ∧ w'.cell? ⟨gb, 6, none⟩ = some (.slice x.A6 x.lots.length x.c6)) (ds := [9, 11, 13]) #[false, false, false, false, false, false, false, false, false, false, false, false, false, false] (by kernel_rfl) rfl rfl ⟨hz3_, hz6_⟩ (fun hHeld => ?_)
 generalize w3.drew = wd at BK BE HB hHeld ⊢
 refine pure_y 1 (some 8) (bz 14 2) ?_
 refine pure_y 5 (some 12) (bz 14 34) ?_
 refine take_ (i := 2) (N := some 9) (v := ?_) (a' := ?_) (bz 14 38) rfl rfl (by kernel_rfl) (fun _ _ _ h => h) (Or.inl ⟨by rfl, ?_⟩) hHeld ?_ ?_
 rotate_left; (rintro w' ⟨s0, s1⟩; go_simp; with_reducible rfl); rotate_left; (simp only [Act.put, put_x, i64_w, i32_w]; rfl)
 refine take_ (i := 6) (N := some 13) (v := ?_) (a' := ?_) (bz 14 102) rfl rfl (by kernel_rfl) (fun _ _ _ h => h) (Or.inl ⟨by rfl, ?_⟩) hHeld ?_ ?_
 rotate_left; (rintro w' ⟨s0, s1⟩; go_simp; with_reducible rfl); rotate_left; (simp only [Act.put, put_x, i64_w, i32_w]; rfl)
 refine join_ (σ := Value × Value × Value) 6 (bz 14 383) (fun s_ => [(7, s_.1), (10, s_.2.1), (11, s_.2.2), (15, .pointer (some ⟨gb, 3, none⟩))]) (fun s_ w' => (w'.cell? ⟨gb, 3, none⟩ = some (.slice x.A3 x.holds.length x.c3) ∧ w'.cell? ⟨gb, 6, none⟩ = some (.slice x.A6 x.lots.length x.c6)) ∧ Aside0 (Kd.R k85 85 w' wd.heap.size (fun _ => True) s_.2.1 x.holds) ∧ Aside0 (Kd.R k79 79 w' wd.heap.size (fun _ => True) s_.2.2 []) ∧ Aside0 (Below wd.heap.size wd w')) ?_ ?_
 rotate_left
 ·
  intro hCont
  refine two_ (i := 0) (j := 4) (Ni := some 7) (Nj := some 11) (bz 14 103) #[false, true, true, false, true, true, true, false, false, false, false, false, false, false] rfl rfl rfl rfl (by kernel_rfl) (by decide) (by decide) (fun K hK => ?_) (fun K hK => ?_)
  ·
   skip
   have HBd := Aside0.mk (Below.refl wd.heap.size wd)
   refine Kd.R_lit_step k85 _ 85 ?hg (N := 7) ?hd (xs := ([] : List S85)) (inner := []) (ok := fun _ => True) (okp := fun _ => True) ?hr ?hp (fun _ hk => hk) trivial (Below.refl _ _) (Nat.le_refl _) (by simp) ?_; (case hd => rfl); (case hg => rfl); (case hr => first | (go_simp; done) | (go_simp; rfl)); (case hp => exact (Reps.none _ _))
   intro v7 wq0 ho_ hb_ hg_ hnew_
   clear hg_ hnew_
   have R7 := Aside0.mk (Kd.R_lower ho_ HBd.out.size)
   replace HBd := Aside0.mk (below_step HBd.out hb_)
   clear ho_ hb_
   refine hK.out _ _ ⟨(HBd.out.cell (blk_lt BK.out)).trans ((blk_cell BK.out 3).trans rfl), (HBd.out.cell (blk_lt BK.out)).trans ((blk_cell BK.out 6).trans rfl)⟩ (fun hHeld => ?_)
   clear hK K
   refine norm_ (a' := ?_) ?_ ?_; rotate_left; (show Act.put _ (some 7) _ = _; simp only [Act.put, put_x, i64_w, i32_w]; rfl)
   refine two_ (i := 3) (j := 4) (Ni := some 10) (Nj := some 11) (bz 14 111) #[true, true, true, false, true, true, true, false, false, false, false, false, false, false] rfl rfl rfl rfl (by kernel_rfl) (by decide) (by decide) (fun K hK => ?_) (fun K hK => ?_)
   ·
    skip
    refine Kd.R_append_rows_step k85 (w0 := wd) wd.heap.size (by rfl) (.tmp 7) (.tmp 9) 22 85 (.agg #[(.int .i64 0), (.int .i64 0), (.int .i64 0)]) 24 rfl Try.underlying22 info85 rfl (by decide) (by omega) v7 [] x.holds x.A3 _ x.c3 (fun _ => True) (fun _ => False) rfl rfl ?aO ?aR (fun _ _ h => h) (fun _ h => h.elim) ?aF ?aB ?aS ?aL ?_
    (case aR => exact (Kd.C_below (Kd.C_below HX.out.h HB.out) HBd.out))
    (case aB => exact HBd.out)
    (case aF => exact (fun _ _ => trivial))
    (case aO => exact R7.out)
    (case aS => exact HBd.out.size)
    (case aL => simp only [List.length_nil]; omega)
    intro v10 wq1 ho_ hb_ hg_ hat_
    rw [List.nil_append] at ho_
    have R10 := Aside0.mk ho_
    replace HBd := Aside0.mk hb_
    clear ho_ hb_ hg_ hat_ R7
    refine hK.out _ _ ⟨(HBd.out.cell (blk_lt BK.out)).trans ((blk_cell BK.out 3).trans rfl), (HBd.out.cell (blk_lt BK.out)).trans ((blk_cell BK.out 6).trans rfl)⟩ (fun hHeld => ?_)
    clear hK K
    refine norm_ (a' := ?_) ?_ ?_; rotate_left; (show Act.put _ (some 10) _ = _; simp only [Act.put, put_x, i64_w, i32_w]; rfl)
    refine pure_y 8 (some 15) (bz 14 367) ?_
    refine one_ (i := 4) (N := some 11) (bz 14 383) rfl rfl (by kernel_rfl) (by decide) (fun K hK => ?_)
    refine Kd.R_lit_step k79 _ 79 ?hg (N := 11) ?hd (xs := ([] : List S79)) (inner := []) (ok := fun _ => True) (okp := fun _ => True) ?hr ?hp (fun _ hk => hk) trivial (Below.refl _ _) (Nat.le_refl _) (by simp) ?_; (case hd => rfl); (case hg => rfl); (case hr => first | (go_simp; done) | (go_simp; rfl)); (case hp => exact (Reps.none _ _))
    intro v11 wq2 ho_ hb_ hg_ hnew_
    clear hg_ hnew_
    have R11 := Aside0.mk (Kd.R_lower ho_ HBd.out.size)
    replace R10 := Aside0.mk (Kd.R_below R10.out hb_)
    replace HBd := Aside0.mk (below_step HBd.out hb_)
    clear ho_ hb_
    refine hK.out _ _ ⟨(HBd.out.cell (blk_lt BK.out)).trans ((blk_cell BK.out 3).trans rfl), (HBd.out.cell (blk_lt BK.out)).trans ((blk_cell BK.out 6).trans rfl)⟩ (fun hHeld => ?_)
    clear hK K
    refine norm_ (a' := ?_) ?_ ?_; rotate_left; (show Act.put _ (some 11) _ = _; simp only [Act.put, put_x, i64_w, i32_w]; rfl)
    exact norm_ (by simp only [putAll, Act.put, put_x]) (hCont (v7, v10, v11) _ ⟨hHeld, R10, R11, HBd⟩)
   ·
    skip
    refine Kd.R_lit_step k79 _ 79 ?hg (N := 11) ?hd (xs := ([] : List S79)) (inner := []) (ok := fun _ => True) (okp := fun _ => True) ?hr ?hp (fun _ hk => hk) trivial (Below.refl _ _) (Nat.le_refl _) (by simp) ?_; (case hd => rfl); (case hg => rfl); (case hr => first | (go_simp; done) | (go_simp; rfl)); (case hp => exact (Reps.none _ _))
    intro v11 wq1 ho_ hb_ hg_ hnew_
    clear hg_ hnew_
    have R11 := Aside0.mk (Kd.R_lower ho_ HBd.out.size)
    replace R7 := Aside0.mk (Kd.R_below R7.out hb_)
    replace HBd := Aside0.mk (below_step HBd.out hb_)
    clear ho_ hb_
    refine hK.out _ _ ⟨(HBd.out.cell (blk_lt BK.out)).trans ((blk_cell BK.out 3).trans rfl), (HBd.out.cell (blk_lt BK.out)).trans ((blk_cell BK.out 6).trans rfl)⟩ (fun hHeld => ?_)
    clear hK K
    refine norm_ (a' := ?_) ?_ ?_; rotate_left; (show Act.put _ (some 11) _ = _; simp only [Act.put, put_x, i64_w, i32_w]; rfl)
    refine one_ (i := 3) (N := some 10) (bz 14 127) rfl rfl (by kernel_rfl) (by decide) (fun K hK => ?_)
    refine Kd.R_append_rows_step k85 (w0 := wd) wd.heap.size (by rfl) (.tmp 7) (.tmp 9) 22 85 (.agg #[(.int .i64 0), (.int .i64 0), (.int .i64 0)]) 24 rfl Try.underlying22 info85 rfl (by decide) (by omega) v7 [] x.holds x.A3 _ x.c3 (fun _ => True) (fun _ => False) rfl rfl ?aO ?aR (fun _ _ h => h) (fun _ h => h.elim) ?aF ?aB ?aS ?aL ?_
    (case aR => exact (Kd.C_below (Kd.C_below HX.out.h HB.out) HBd.out))
    (case aB => exact HBd.out)
    (case aF => exact (fun _ _ => trivial))
    (case aO => exact R7.out)
    (case aS => exact HBd.out.size)
    (case aL => simp only [List.length_nil]; omega)
    intro v10 wq2 ho_ hb_ hg_ hat_
    rw [List.nil_append] at ho_
    have R10 := Aside0.mk ho_
    replace R11 := Aside0.mk (Kd.R_over' R11.out (Kd.R_typed R7.out) (by decide) hg_)
    replace HBd := Aside0.mk hb_
    clear ho_ hb_ hg_ hat_ R7
    refine hK.out _ _ ⟨(HBd.out.cell (blk_lt BK.out)).trans ((blk_cell BK.out 3).trans rfl), (HBd.out.cell (blk_lt BK.out)).trans ((blk_cell BK.out 6).trans rfl)⟩ (fun hHeld => ?_)
    clear hK K
    refine norm_ (a' := ?_) ?_ ?_; rotate_left; (show Act.put _ (some 10) _ = _; simp only [Act.put, put_x, i64_w, i32_w]; rfl)
    refine pure_y 8 (some 15) (bz 14 383) ?_
    exact norm_ (by simp only [putAll, Act.put, put_x]) (hCont (v7, v10, v11) _ ⟨hHeld, R10, R11, HBd⟩)
  ·
   skip
   have HBd := Aside0.mk (Below.refl wd.heap.size wd)
   refine Kd.R_lit_step k79 _ 79 ?hg (N := 11) ?hd (xs := ([] : List S79)) (inner := []) (ok := fun _ => True) (okp := fun _ => True) ?hr ?hp (fun _ hk => hk) trivial (Below.refl _ _) (Nat.le_refl _) (by simp) ?_; (case hd => rfl); (case hg => rfl); (case hr => first | (go_simp; done) | (go_simp; rfl)); (case hp => exact (Reps.none _ _))
   intro v11 wq0 ho_ hb_ hg_ hnew_
   clear hg_ hnew_
   have R11 := Aside0.mk (Kd.R_lower ho_ HBd.out.size)
   replace HBd := Aside0.mk (below_step HBd.out hb_)
   clear ho_ hb_
   refine hK.out _ _ ⟨(HBd.out.cell (blk_lt BK.out)).trans ((blk_cell BK.out 3).trans rfl), (HBd.out.cell (blk_lt BK.out)).trans ((blk_cell BK.out 6).trans rfl)⟩ (fun hHeld => ?_)
   clear hK K
   refine norm_ (a' := ?_) ?_ ?_; rotate_left; (show Act.put _ (some 11) _ = _; simp only [Act.put, put_x, i64_w, i32_w]; rfl)
   refine one_ (i := 0) (N := some 7) (bz 14 119) rfl rfl (by kernel_rfl) (by decide) (fun K hK => ?_)
   refine Kd.R_lit_step k85 _ 85 ?hg (N := 7) ?hd (xs := ([] : List S85)) (inner := []) (ok := fun _ => True) (okp := fun _ => True) ?hr ?hp (fun _ hk => hk) trivial (Below.refl _ _) (Nat.le_refl _) (by simp) ?_; (case hd => rfl); (case hg => rfl); (case hr => first | (go_simp; done) | (go_simp; rfl)); (case hp => exact (Reps.none _ _))
   intro v7 wq1 ho_ hb_ hg_ hnew_
   clear hg_ hnew_
   have R7 := Aside0.mk (Kd.R_lower ho_ HBd.out.size)
   replace R11 := Aside0.mk (Kd.R_below R11.out hb_)
   replace HBd := Aside0.mk (below_step HBd.out hb_)
   clear ho_ hb_
   refine hK.out _ _ ⟨(HBd.out.cell (blk_lt BK.out)).trans ((blk_cell BK.out 3).trans rfl), (HBd.out.cell (blk_lt BK.out)).trans ((blk_cell BK.out 6).trans rfl)⟩ (fun hHeld => ?_)
   clear hK K
   refine norm_ (a' := ?_) ?_ ?_; rotate_left; (show Act.put _ (some 7) _ = _; simp only [Act.put, put_x, i64_w, i32_w]; rfl)
   refine one_ (i := 3) (N := some 10) (bz 14 127) rfl rfl (by kernel_rfl) (by decide) (fun K hK => ?_)
   refine Kd.R_append_rows_step k85 (w0 := wd) wd.heap.size (by rfl) (.tmp 7) (.tmp 9) 22 85 (.agg #[(.int .i64 0), (.int .i64 0), (.int .i64 0)]) 24 rfl Try.underlying22 info85 rfl (by decide) (by omega) v7 [] x.holds x.A3 _ x.c3 (fun _ => True) (fun _ => False) rfl rfl ?aO ?aR (fun _ _ h => h) (fun _ h => h.elim) ?aF ?aB ?aS ?aL ?_
   (case aR => exact (Kd.C_below (Kd.C_below HX.out.h HB.out) HBd.out))
   (case aB => exact HBd.out)
   (case aF => exact (fun _ _ => trivial))
   (case aO => exact R7.out)
   (case aS => exact HBd.out.size)
   (case aL => simp only [List.length_nil]; omega)
   intro v10 wq2 ho_ hb_ hg_ hat_
   rw [List.nil_append] at ho_
   have R10 := Aside0.mk ho_
   replace R11 := Aside0.mk (Kd.R_over' R11.out (Kd.R_typed R7.out) (by decide) hg_)
   replace HBd := Aside0.mk hb_
   clear ho_ hb_ hg_ hat_ R7
   refine hK.out _ _ ⟨(HBd.out.cell (blk_lt BK.out)).trans ((blk_cell BK.out 3).trans rfl), (HBd.out.cell (blk_lt BK.out)).trans ((blk_cell BK.out 6).trans rfl)⟩ (fun hHeld => ?_)
   clear hK K
   refine norm_ (a' := ?_) ?_ ?_; rotate_left; (show Act.put _ (some 10) _ = _; simp only [Act.put, put_x, i64_w, i32_w]; rfl)
   refine pure_y 8 (some 15) (bz 14 383) ?_
   exact norm_ (by simp only [putAll, Act.put, put_x]) (hCont (v7, v10, v11) _ ⟨hHeld, R10, R11, HBd⟩)
 rintro ⟨v7, v10, v11⟩ wj ⟨hHeld, R10, R11, HBd⟩
 obtain ⟨A10, c10, hv10_⟩ := Kd.R_slice R10.out
 dsimp only at R10 R11 hv10_ ⊢
 subst hv10_
 refine norm_ (a' := ?_) ?_ ?_
 rotate_left
 ·
  simp only [putAll, Act.put, put_x]
  rfl
 refine one_ (i := 7) (N := some 14) (bz 14 511) rfl rfl (by kernel_rfl) (by decide) (fun K hK => ?_)
 refine Kd.R_append_rows_step k79 (w0 := wd) wd.heap.size (by rfl) (.tmp 11) (.tmp 13) 24 79 (.agg #[(.int .i64 0), (.int .i64 0), (.int .i64 0)]) 24 rfl Try.underlying24 info79 rfl (by decide) (by omega) v11 [] x.lots x.A6 _ x.c6 (fun _ => True) (fun _ => False) rfl rfl ?aO ?aR (fun _ _ h => h) (fun _ h => h.elim) ?aF ?aB ?aS ?aL ?_
 (case aR => exact (Kd.C_below (Kd.C_below HX.out.l HB.out) HBd.out))
 (case aB => exact HBd.out)
 (case aF => exact (fun _ _ => trivial))
 (case aO => exact R11.out)
 (case aS => exact HBd.out.size)
 (case aL => simp only [List.length_nil]; omega)
 intro v14 w4 ho_ hb_ hg_ hat_
 rw [List.nil_append] at ho_
 obtain ⟨A14, c14, rfl⟩ := Kd.R_slice ho_
 have R14 := Aside0.mk ho_
 replace R10 := Aside0.mk (Kd.R_over' R10.out (Kd.R_typed R11.out) (by decide) hg_)
 have BK4 := Aside0.mk (blk_below BK.out hb_)
 have BE4 := Aside0.mk (blk_below BE.out hb_)
 replace HBd := Aside0.mk hb_
 clear ho_ hb_ hg_ hat_ R11
 refine hK.out _ _ ⟨(HBd.out.cell (blk_lt BK.out)).trans ((blk_cell BK.out 3).trans rfl), (HBd.out.cell (blk_lt BK.out)).trans ((blk_cell BK.out 6).trans rfl)⟩ (fun hHeld => ?_)
 clear hK K
 refine norm_ (a' := ?_) ?_ ?_; rotate_left; (show Act.put _ (some 14) _ = _; simp only [Act.put, put_x, i64_w, i32_w]; rfl)
 refine last_ (i := 9) (N := none) (bz 14 1023) rfl rfl (by kernel_rfl) (by decide) (fun K hK => ?_)
 have hy0_ := (blk_cell BK4.out 3).trans rfl
 have hf_ := blk_frozen BK4.out
 refine skip_ (w1 := ?_) (by rfl) rfl ?_ ?_; rotate_left; (go_simp; rfl)
 clear hy0_ hf_
 refine hK.out _ _ ?_
 clear hK K
 refine pure_y 10 (some 16) (bz 14 2047) ?_
 refine last_ (i := 11) (N := none) (bz 14 4095) rfl rfl (by kernel_rfl) (by decide) (fun K hK => ?_)
 have BK5 := Aside0.mk (blk_put (cs' := #[.int .i64 x.light, .int .i64 x.under, .int .i64 x.trim, .slice A10 x.holds.length c10, .int .i64 x.leaves, .slice A5 x.sills.length x.c5, .slice x.A6 x.lots.length x.c6]) BK4.out 3 (.slice A10 x.holds.length c10) rfl)
 have hy0_ := (blk_cell BK5.out 6).trans rfl
 have hf_ := blk_frozen BK5.out
 refine skip_ (w1 := ?_) (by rfl) rfl ?_ ?_; rotate_left; (go_simp; rfl)
 clear hy0_ hf_
 refine hK.out _ _ ?_
 clear hK K
 refine pure_y 12 (some 17) (bz 14 8191) ?_
 refine last_ (i := 13) (N := none) (bz 14 16383) rfl rfl (by kernel_rfl) (by decide) (fun K hK => ?_)
 have BK6 := Aside0.mk (blk_put (cs' := #[.int .i64 x.light, .int .i64 x.under, .int .i64 x.trim, .slice A10 x.holds.length c10, .int .i64 x.leaves, .slice A5 x.sills.length x.c5, .slice A14 x.lots.length c14]) BK5.out 6 (.slice A14 x.lots.length c14) rfl)
 have hy0_ := (blk_cell BK6.out 5).trans rfl
 have hf_ := blk_frozen BK6.out
 refine skip_ (w1 := ?_) (by rfl) rfl ?_ ?_; rotate_left; (go_simp; rfl)
 clear hy0_ hf_
 refine hK.out _ _ ?_
 clear hK K
 refine done_ (by kernel_rfl) ?_
 clear hHeld hz3_ hz5_ hz6_
 have BK7 := Aside0.mk (blk_put (cs' := #[.int .i64 x.light, .int .i64 x.under, .int .i64 x.trim, .slice A10 x.holds.length c10, .int .i64 x.leaves, .slice none 0 0, .slice A14 x.lots.length c14]) BK6.out 5 (.slice none 0 0) rfl)
 have BE7 := Aside0.mk (blk_far (blk_far (blk_far BE4.out (p := ⟨gb, 3, none⟩) NBE.out.symm (.slice A10 x.holds.length c10)) (p := ⟨gb, 6, none⟩) NBE.out.symm (.slice A14 x.lots.length c14)) (p := ⟨gb, 5, none⟩) NBE.out.symm (.slice none 0 0))
 have HB7 := Aside0.mk (below_set (below_set (below_set (below_step HB.out HBd.out) GEb.out (j := 3) (v := (.slice A10 x.holds.length c10))) GEb.out (j := 6) (v := (.slice A14 x.lots.length c14))) GEb.out (j := 5) (v := .slice none 0 0))
 replace R10 := Aside0.mk (Kd.R_set (Kd.R_set (Kd.R_set R10.out BK4.out (by decide) 3 (.slice A10 x.holds.length c10)) BK5.out (by decide) 6 (.slice A14 x.lots.length c14)) BK6.out (by decide) 5 (.slice none 0 0))
 replace R14 := Aside0.mk (Kd.R_set (Kd.R_set (Kd.R_set R14.out BK4.out (by decide) 3 (.slice A10 x.holds.length c10)) BK5.out (by decide) 6 (.slice A14 x.lots.length c14)) BK6.out (by decide) 5 (.slice none 0 0))
 replace R10 := Aside0.mk (Kd.R_lower R10.out HB.out.size)
 replace R14 := Aside0.mk (Kd.R_lower R14.out HB.out.size)
 generalize hW_ : ((w4.setCell ⟨gb, 3, none⟩ (.slice A10 x.holds.length c10)).setCell ⟨gb, 6, none⟩ (.slice A14 x.lots.length c14)).setCell ⟨gb, 5, none⟩ (.slice none 0 0) = w5 at *
 clear hW_ BK4 BK5 BK6 BE4 HBd BK BE HB
 go_wp2
 go_loopg [4] x.sills.length (fun gk v4 wr => ∃ k : Nat, k ≤ x.sills.length ∧ x.sills.length - k ≤ gk ∧ v4 = .int .i64 k ∧ Aside0 (∃ v5, wr.heap[gb]? = some (.cells #[.int .i64 x.light, .int .i64 x.under, .int .i64 x.trim, .slice A10 x.holds.length c10, .int .i64 x.leaves, v5, .slice A14 x.lots.length c14] 26 (0, 0)) ∧ Kd.S k59 59 wr w.heap.size (fun _ => True) v5 (x.sills.take k)) ∧ Aside0 (wr.heap[ge]? = some (.cells #[.int .i64 0, .int .i64 0, .int .i64 0, .slice none 0 0, .int .i64 0, .slice none 0 0, .slice none 0 0] 26 (0, 0))) ∧ Aside0 (Kd.R k85 85 wr w.heap.size (fun _ => True) (.slice A10 x.holds.length c10) x.holds) ∧ Aside0 (Kd.R k79 79 wr w.heap.size (fun _ => True) (.slice A14 x.lots.length c14) x.lots) ∧ Aside0 (Below w.heap.size w wr))
 case atStart => exact ⟨0, by omega, by omega, rfl, ⟨⟨_, BK7.out, Kd.S_nil _ _ _ _ _⟩⟩, BE7, R10, R14, HB7⟩
 case round =>
  clear BK7 BE7 R10 R14 HB7
  obtain ⟨k, hk, hgk, rfl, HI, BE, R10, R14, HB⟩ := hrel
  obtain ⟨v5, hbk, hs5⟩ := HI.out
  obtain ⟨Av, cv, hv5_⟩ := Kd.S_slice hs5
  rw [List.length_take, Nat.min_eq_left hk] at hv5_
  subst hv5_
  have BK := Aside0.mk hbk
  have HO := Aside0.mk hs5
  clear hbk hs5 HI
  by_cases hlt : k < x.sills.length
  ·
   have hlz : (k : Int) < (x.sills.length : Int) := by omega
   obtain ⟨ads, A2, c2, e, h0, h1, h2, l2, g2⟩ := at_T59 HS5.out (k : Int) (by omega) hlz
   cases e
   rw [Int.toNat_natCast] at h0 h1 h2
   have hlen := HL.out.l k hlt
   have htk : Aside0 (x.sills.take (k + 1) = x.sills.take k ++ [rd_T59 x.sills (k : Int)]) := ⟨by
    rw [List.take_succ_eq_append_getElem hlt]
    have : rd_T59 x.sills (k : Int) = x.sills[k] := by simp [rd_T59, List.getD, hlt]
    rw [this]⟩
   have htl : (x.sills.take k).length = k := by rw [List.length_take]; omega
   have HTL := Aside0.mk htl
   have hrd : x.sills.getD k z59 = rd_T59 x.sills (k : Int) := rfl
   rw [hrd] at hlen
   clear hrd htl
   generalize rd_T59 x.sills (k : Int) = sl at *
   have LT0 := Aside0.mk (World.block_lt_of_cell? w _ h0)
   have LT1 := Aside0.mk (World.block_lt_of_cell? w _ h1)
   have LT2 := Aside0.mk (World.block_lt_of_cell? w _ h2)
   have E0 := Aside0.mk h0
   have E1 := Aside0.mk h1
   have E2 := Aside0.mk h2
   have G2 := Aside0.mk g2
   clear g2
   replace h0 := (HB.out.cell LT0.out).trans h0
   replace h1 := (HB.out.cell LT1.out).trans h1
   replace h2 := (HB.out.cell LT2.out).trans h2
   have hz5_ := (blk_cell BK.out 5).trans rfl
   go_upto_region 6 with (fail)
   have hd_ := below_drew1 (Below.refl wr.heap.size wr)
   replace BK := Aside0.mk (blk_drew BK.out)
   replace BE := Aside0.mk (blk_drew BE.out)
   replace HO := Aside0.mk (Kd.S_drew HO.out)
   replace R10 := Aside0.mk (Kd.R_drew R10.out)
   replace R14 := Aside0.mk (Kd.R_drew R14.out)
   replace HB := Aside0.mk (below_step HB.out hd_)
   clear hd_
   refine start_ (n := 19) (S := fun w' => w'.cell? ⟨gb, 5, none⟩ = some (.slice Av k cv) ∧ w'.cell? (ads.add (k * 3)) = some (.int .i64 sl.f0.f0) ∧ w'.cell? ⟨(ads.add (k * 3)).block, (ads.add (k * 3)).off + 1, none⟩ = some (.int .i64 sl.f0.f1) ∧ w'.cell? ⟨(ads.add (k * 3)).block, (ads.add (k * 3)).off + 2, none⟩ = some (.slice A2 sl.f1.length c2)) (ds := [16, 18]) #[false, false, false, false, false, false, false, false, false, false, false, false, false, false, false, false, false, false, false] (by kernel_rfl) rfl rfl ⟨hz5_, h0, h1, h2⟩ (fun hHeld => ?_)
   generalize wr.drew = wd at BK BE HO R10 R14 HB hHeld ⊢
   refine pure_y 0 (some 24) (bz 19 1) ?_
   refine pure_y 2 (some 26) (bz 19 5) ?_
   refine pure_y 3 (some 27) (bz 19 13) ?_
   refine pure_y 4 (some 28) (bz 19 29) ?_
   refine pure_y 5 (some 29) (bz 19 61) ?_
   refine pure_y 8 (some 32) (bz 19 317) ?_
   refine pure_y 9 (some 33) (bz 19 829) ?_
   refine pure_y 10 (some 34) (bz 19 1853) ?_
   refine pure_y 11 (some 35) (bz 19 3901) ?_
   refine take_ (i := 1) (N := some 25) (v := ?_) (a' := ?_) (bz 19 3903) rfl rfl (by kernel_rfl) (fun _ _ _ h => h) (Or.inl ⟨by rfl, ?_⟩) hHeld ?_ ?_
   rotate_left; (rintro w' ⟨s0, s1, s2, s3⟩; go_simp; with_reducible rfl); rotate_left; (simp only [Act.put, put_x, i64_w, i32_w]; rfl)
   refine take_ (i := 6) (N := some 30) (v := ?_) (a' := ?_) (bz 19 3967) rfl rfl (by kernel_rfl) (fun _ _ _ h => h) (Or.inl ⟨by rfl, ?_⟩) hHeld ?_ ?_
   rotate_left; (rintro w' ⟨s0, s1, s2, s3⟩; go_simp; with_reducible rfl); rotate_left; (simp only [Act.put, put_x, i64_w, i32_w]; rfl)
   refine take_ (i := 12) (N := some 36) (v := ?_) (a' := ?_) (bz 19 8063) rfl rfl (by kernel_rfl) (fun _ _ _ h => h) (Or.inl ⟨by rfl, ?_⟩) hHeld ?_ ?_
   rotate_left; (rintro w' ⟨s0, s1, s2, s3⟩; go_simp; with_reducible rfl); rotate_left; (simp only [Act.put, put_x, i64_w, i32_w]; rfl)
   refine one_ (i := 7) (N := some 31) (bz 19 8191) rfl rfl (by kernel_rfl) (by decide) (fun K hK => ?_)
   refine Kd.R_lit_step k62 _ 62 ?hg (N := 31) ?hd (xs := ([] : List S62)) (inner := []) (ok := fun _ => True) (okp := fun _ => True) ?hr ?hp (fun _ hk => hk) trivial (Below.refl _ _) (Nat.le_refl _) (by simp) ?_; (case hd => rfl); (case hg => rfl); (case hr => first | (go_simp; done) | (go_simp; rfl)); (case hp => exact (Reps.none _ _))
   intro v31 w6 ho_ hb_ hg_ hnew_
   clear hg_ hnew_
   have R31 := Aside0.mk ho_
   have HBd := Aside0.mk hb_
   clear ho_ hb_
   refine hK.out _ _ ⟨(HBd.out.cell (blk_lt BK.out)).trans ((blk_cell BK.out 5).trans rfl), (HBd.out.cell (Nat.lt_of_lt_of_le LT0.out HB.out.size)).trans ((HB.out.cell LT0.out).trans E0.out), (HBd.out.cell (Nat.lt_of_lt_of_le LT1.out HB.out.size)).trans ((HB.out.cell LT1.out).trans E1.out), (HBd.out.cell (Nat.lt_of_lt_of_le LT2.out HB.out.size)).trans ((HB.out.cell LT2.out).trans E2.out)⟩ (fun hHeld => ?_)
   clear hK K
   refine norm_ (a' := ?_) ?_ ?_; rotate_left; (show Act.put _ (some 31) _ = _; simp only [Act.put, put_x, i64_w, i32_w]; rfl)
   refine one_ (i := 13) (N := some 37) (bz 19 16383) rfl rfl (by kernel_rfl) (by decide) (fun K hK => ?_)
   refine Kd.R_append_rows_step k62 (w0 := wd) wd.heap.size (by rfl) (.tmp 31) (.tmp 36) 57 62 (.agg #[(.int .i64 0), (.int .i64 0), (.int .i64 0)]) 24 rfl Try.underlying57 info62 rfl (by decide) (by omega) v31 [] sl.f1 A2 _ c2 (fun _ => True) (fun _ => False) rfl rfl ?aO ?aR (fun _ _ h => h) (fun _ h => h.elim) ?aF ?aB ?aS ?aL ?_
   (case aR => exact (Kd.C_below (Kd.C_below G2.out HB.out) HBd.out))
   (case aB => exact HBd.out)
   (case aF => exact (fun _ _ => trivial))
   (case aO => exact R31.out)
   (case aS => exact HBd.out.size)
   (case aL => simp only [List.length_nil]; omega)
   intro v37 w7 ho_ hb_ hg_ hat_
   rw [List.nil_append] at ho_
   obtain ⟨A37, c37, rfl⟩ := Kd.R_slice ho_
   have R37 := Aside0.mk ho_
   replace HBd := Aside0.mk hb_
   clear ho_ hb_ hg_ hat_ R31
   refine hK.out _ _ ⟨(HBd.out.cell (blk_lt BK.out)).trans ((blk_cell BK.out 5).trans rfl), (HBd.out.cell (Nat.lt_of_lt_of_le LT0.out HB.out.size)).trans ((HB.out.cell LT0.out).trans E0.out), (HBd.out.cell (Nat.lt_of_lt_of_le LT1.out HB.out.size)).trans ((HB.out.cell LT1.out).trans E1.out), (HBd.out.cell (Nat.lt_of_lt_of_le LT2.out HB.out.size)).trans ((HB.out.cell LT2.out).trans E2.out)⟩ (fun hHeld => ?_)
   clear hK K
   refine norm_ (a' := ?_) ?_ ?_; rotate_left; (show Act.put _ (some 37) _ = _; simp only [Act.put, put_x, i64_w, i32_w]; rfl)
   refine pure_y 14 (some 38) (bz 19 32767) ?_
   refine one_ (i := 15) (N := some 39) (bz 19 65535) rfl rfl (by kernel_rfl) (by decide) (fun K hK => ?_)
   refine value_ (w1 := ?_) (v := ?_) (by rfl) rfl ?_ ?_
   rotate_left 2
   ·
    (go_simp; constructor <;> rfl)
   refine hK.out _ _ ⟨((below_alloc HBd.out _).cell (blk_lt BK.out)).trans ((blk_cell BK.out 5).trans rfl), ((below_alloc HBd.out _).cell (Nat.lt_of_lt_of_le LT0.out HB.out.size)).trans ((HB.out.cell LT0.out).trans E0.out), ((below_alloc HBd.out _).cell (Nat.lt_of_lt_of_le LT1.out HB.out.size)).trans ((HB.out.cell LT1.out).trans E1.out), ((below_alloc HBd.out _).cell (Nat.lt_of_lt_of_le LT2.out HB.out.size)).trans ((HB.out.cell LT2.out).trans E2.out)⟩ (fun hHeld => ?_)
   clear hK K
   refine norm_ (a' := ?_) ?_ ?_; rotate_left; (show Act.put _ (some 39) _ = _; simp only [Act.put, put_x, i64_w, i32_w]; rfl)
   refine last_ (i := 16) (N := some 40) (bz 19 131071) rfl rfl (by kernel_rfl) (by decide) (fun K hK => ?_)
   refine Kd.S_append_step k59 (w0 := w) w.heap.size (by rfl) (.tmp 25) (.tmp 39) 23 59 (.agg #[(.int .i64 0), (.int .i64 0), (.slice none 0 0)]) 40 rfl Try.underlying23 info59 rfl (by decide) (by omega) (.slice Av k cv) (x.sills.take k) sl [.int .i64 sl.f0.f0, .int .i64 sl.f0.f1, .slice A37 sl.f1.length c37] (fun _ => True) (fun k_ => wd.heap.size ≤ k_) rfl rfl ?aP ?aK ?aF ?aO ?aB ?aS ?aL ?_
   (case aP => exact k59_mkM _ _ _ sl (Kd.R_mono (Kd.R_bound (Kd.R_lower (Kd.R_mono (Kd.R_bound R37.out) (fun _ hk => hk.2.1)) HB.out.size)) (fun _ hk => hk.1)))
   (case aK => exact (fun k_ hk => ⟨trivial, fun he => by have := Kd.S_lt HO.out k_ he.symm; omega⟩))
   (case aF => exact (fun _ _ => trivial))
   (case aO => exact Kd.S_mono (Kd.S_old HO.out HBd.out) (fun _ hk => ⟨trivial, by have := hk.2; omega⟩))
   (case aB => exact below_step HB.out HBd.out)
   (case aS => exact Nat.le_trans HB.out.size HBd.out.size)
   (case aL => have := HTL.out; omega)
   intro v40 w8 ho_ hb_ hg_ hat_
   obtain ⟨A40, c40, hv40_⟩ := Kd.S_slice ho_
   rw [List.length_append, HTL.out, List.length_singleton] at hv40_
   subst hv40_
   have HO2 := Aside0.mk ho_
   have BK2 := Aside0.mk (blk_grown (blk_below BK.out HBd.out) hg_ (Kd.S_ne HO.out BK.out (by decide)))
   have BE2 := Aside0.mk (blk_grown (blk_below BE.out HBd.out) hg_ (Kd.S_ne HO.out BE.out (by decide)))
   have T_ := Aside0.mk (fun k_ he => (Kd.S_typed HO.out k_ he).imp fun _ hc => blk_below hc HBd.out)
   replace R10 := Aside0.mk (Kd.R_over' (Kd.R_below R10.out HBd.out) T_.out (by decide) hg_)
   replace R14 := Aside0.mk (Kd.R_over' (Kd.R_below R14.out HBd.out) T_.out (by decide) hg_)
   have HB2 := Aside0.mk hb_
   clear ho_ hb_ hg_ hat_ T_ R37
   refine hK.out _ _ ?_
   clear hK K
   refine norm_ (a' := ?_) ?_ ?_; rotate_left; (show Act.put _ (some 40) _ = _; simp only [Act.put, put_x, i64_w, i32_w]; rfl)
   refine pure_y 17 (some 41) (bz 19 262143) ?_
   refine last_ (i := 18) (N := none) (bz 19 524287) rfl rfl (by kernel_rfl) (by decide) (fun K hK => ?_)
   have hy0_ := (blk_cell BK2.out 5).trans rfl
   have hf_ := blk_frozen BK2.out
   refine skip_ (w1 := ?_) (by rfl) rfl ?_ ?_; rotate_left; (go_simp; rfl)
   clear hy0_ hf_
   refine hK.out _ _ ?_
   clear hK K
   refine done_ (by kernel_rfl) ?_
   clear hHeld hz5_ h0 h1 h2
   have BK3 := Aside0.mk (blk_put (cs' := #[.int .i64 x.light, .int .i64 x.under, .int .i64 x.trim, .slice A10 x.holds.length c10, .int .i64 x.leaves, .slice A40 (k + 1) c40, .slice A14 x.lots.length c14]) BK2.out 5 (.slice A40 (k + 1) c40) rfl)
   have BE3 := Aside0.mk (blk_far BE2.out (p := ⟨gb, 5, none⟩) NBE.out.symm (.slice A40 (k + 1) c40))
   have HB3 := Aside0.mk (below_set HB2.out GEb.out (j := 5) (v := (.slice A40 (k + 1) c40)))
   have HO3 := Aside0.mk (Kd.S_set HO2.out BK2.out (by decide) 5 (.slice A40 (k + 1) c40))
   replace R10 := Aside0.mk (Kd.R_set R10.out BK2.out (by decide) 5 (.slice A40 (k + 1) c40))
   replace R14 := Aside0.mk (Kd.R_set R14.out BK2.out (by decide) 5 (.slice A40 (k + 1) c40))
   generalize hW_ : w8.setCell ⟨gb, 5, none⟩ (.slice A40 (k + 1) c40) = w9 at *
   clear hW_ BK BE HO HB BK2 BE2 HB2 HO2 HBd
   go_wp2
   go_roundg (x.sills.length - (k + 1))
   case measure => omega
   case rel => exact ⟨k + 1, by omega, by omega, by go_num, ⟨⟨_, BK3.out, by rw [htk.out]; exact HO3.out⟩⟩, BE3, R10, R14, HB3⟩
  ·
   have : k = x.sills.length := by omega
   subst this
   have HOe := HO.out
   rw [List.take_length] at HOe
   have HO2 := Aside0.mk HOe
   clear HOe HO
   have hz0_ := (blk_cell BK.out 0).trans rfl
   have hz1_ := (blk_cell BK.out 1).trans rfl
   have hz2_ := (blk_cell BK.out 2).trans rfl
   have hz3_ := (blk_cell BK.out 3).trans rfl
   have hz4_ := (blk_cell BK.out 4).trans rfl
   have hz5_ := (blk_cell BK.out 5).trans rfl
   have hz6_ := (blk_cell BK.out 6).trans rfl
   have hy0_ := (blk_cell BE.out 0).trans rfl
   have hy1_ := (blk_cell BE.out 1).trans rfl
   have hy2_ := (blk_cell BE.out 2).trans rfl
   have hy3_ := (blk_cell BE.out 3).trans rfl
   have hy4_ := (blk_cell BE.out 4).trans rfl
   have hy5_ := (blk_cell BE.out 5).trans rfl
   have hy6_ := (blk_cell BE.out 6).trans rfl
   have hf_ := blk_frozen BE.out
   go_wp2
   have BR := BE
   have BR0 := BR
   replace BR := Aside0.mk (blk_put (cs' := #[.int .i64 x.light, .int .i64 0, .int .i64 0, .slice none 0 0, .int .i64 0, .slice none 0 0, .slice none 0 0]) BR.out 0 (.int .i64 x.light) rfl)
   have BR1 := BR
   replace BR := Aside0.mk (blk_put (cs' := #[.int .i64 x.light, .int .i64 x.under, .int .i64 0, .slice none 0 0, .int .i64 0, .slice none 0 0, .slice none 0 0]) BR.out 1 (.int .i64 x.under) rfl)
   have BR2 := BR
   replace BR := Aside0.mk (blk_put (cs' := #[.int .i64 x.light, .int .i64 x.under, .int .i64 x.trim, .slice none 0 0, .int .i64 0, .slice none 0 0, .slice none 0 0]) BR.out 2 (.int .i64 x.trim) rfl)
   have BR3 := BR
   replace BR := Aside0.mk (blk_put (cs' := #[.int .i64 x.light, .int .i64 x.under, .int .i64 x.trim, .slice A10 x.holds.length c10, .int .i64 0, .slice none 0 0, .slice none 0 0]) BR.out 3 (.slice A10 x.holds.length c10) rfl)
   have BR4 := BR
   replace BR := Aside0.mk (blk_put (cs' := #[.int .i64 x.light, .int .i64 x.under, .int .i64 x.trim, .slice A10 x.holds.length c10, .int .i64 x.leaves, .slice none 0 0, .slice none 0 0]) BR.out 4 (.int .i64 x.leaves) rfl)
   have BR5 := BR
   replace BR := Aside0.mk (blk_put (cs' := #[.int .i64 x.light, .int .i64 x.under, .int .i64 x.trim, .slice A10 x.holds.length c10, .int .i64 x.leaves, .slice Av x.sills.length cv, .slice none 0 0]) BR.out 5 (.slice Av x.sills.length cv) rfl)
   have BR6 := BR
   replace BR := Aside0.mk (blk_put (cs' := #[.int .i64 x.light, .int .i64 x.under, .int .i64 x.trim, .slice A10 x.holds.length c10, .int .i64 x.leaves, .slice Av x.sills.length cv, .slice A14 x.lots.length c14]) BR.out 6 (.slice A14 x.lots.length c14) rfl)
   have HBe := Aside0.mk (show Below w.heap.size w (((((((wr.setCell ⟨ge, 0, none⟩ (.int .i64 x.light)).setCell ⟨ge, 1, none⟩ (.int .i64 x.under)).setCell ⟨ge, 2, none⟩ (.int .i64 x.trim)).setCell ⟨ge, 3, none⟩ (.slice A10 x.holds.length c10)).setCell ⟨ge, 4, none⟩ (.int .i64 x.leaves)).setCell ⟨ge, 5, none⟩ (.slice Av x.sills.length cv)).setCell ⟨ge, 6, none⟩ (.slice A14 x.lots.length c14)) from below_set (below_set (below_set (below_set (below_set (below_set (below_set (HB.out) GEe.out) GEe.out) GEe.out) GEe.out) GEe.out) GEe.out) GEe.out)
   have HOe := Aside0.mk (Kd.S_set (Kd.S_set (Kd.S_set (Kd.S_set (Kd.S_set (Kd.S_set (Kd.S_set HO2.out BR0.out (by decide) 0 (.int .i64 x.light)) BR1.out (by decide) 1 (.int .i64 x.under)) BR2.out (by decide) 2 (.int .i64 x.trim)) BR3.out (by decide) 3 (.slice A10 x.holds.length c10)) BR4.out (by decide) 4 (.int .i64 x.leaves)) BR5.out (by decide) 5 (.slice Av x.sills.length cv)) BR6.out (by decide) 6 (.slice A14 x.lots.length c14))
   have R10e := Aside0.mk (Kd.R_set (Kd.R_set (Kd.R_set (Kd.R_set (Kd.R_set (Kd.R_set (Kd.R_set R10.out BR0.out (by decide) 0 (.int .i64 x.light)) BR1.out (by decide) 1 (.int .i64 x.under)) BR2.out (by decide) 2 (.int .i64 x.trim)) BR3.out (by decide) 3 (.slice A10 x.holds.length c10)) BR4.out (by decide) 4 (.int .i64 x.leaves)) BR5.out (by decide) 5 (.slice Av x.sills.length cv)) BR6.out (by decide) 6 (.slice A14 x.lots.length c14))
   have R14e := Aside0.mk (Kd.R_set (Kd.R_set (Kd.R_set (Kd.R_set (Kd.R_set (Kd.R_set (Kd.R_set R14.out BR0.out (by decide) 0 (.int .i64 x.light)) BR1.out (by decide) 1 (.int .i64 x.under)) BR2.out (by decide) 2 (.int .i64 x.trim)) BR3.out (by decide) 3 (.slice A10 x.holds.length c10)) BR4.out (by decide) 4 (.int .i64 x.leaves)) BR5.out (by decide) 5 (.slice Av x.sills.length cv)) BR6.out (by decide) 6 (.slice A14 x.lots.length c14))
   clear hf_ BR0 BR1 BR2 BR3 BR4 BR5 BR6 BE HB HO2 R10 R14 BK hz0_ hz1_ hz2_ hz3_ hz4_ hz5_ hz6_ hy0_ hy1_ hy2_ hy3_ hy4_ hy5_ hy6_
   generalize hW_ : ((((((wr.setCell ⟨ge, 0, none⟩ (.int .i64 x.light)).setCell ⟨ge, 1, none⟩ (.int .i64 x.under)).setCell ⟨ge, 2, none⟩ (.int .i64 x.trim)).setCell ⟨ge, 3, none⟩ (.slice A10 x.holds.length c10)).setCell ⟨ge, 4, none⟩ (.int .i64 x.leaves)).setCell ⟨ge, 5, none⟩ (.slice Av x.sills.length cv)).setCell ⟨ge, 6, none⟩ (.slice A14 x.lots.length c14) = we at *
   clear hW_
   have hr0_ := (blk_cell BR.out 0).trans rfl
   have hr1_ := (blk_cell BR.out 1).trans rfl
   have hr2_ := (blk_cell BR.out 2).trans rfl
   have hr3_ := (blk_cell BR.out 3).trans rfl
   have hr4_ := (blk_cell BR.out 4).trans rfl
   have hr5_ := (blk_cell BR.out 5).trans rfl
   have hr6_ := (blk_cell BR.out 6).trans rfl
   exact bodyPost_ret (results_single (r := .cell 2 26) rfl (.cell ge 26 #[.int .i64 x.light, .int .i64 x.under, .int .i64 x.trim, .slice A10 x.holds.length c10, .int .i64 x.leaves, .slice Av x.sills.length cv, .slice A14 x.lots.length c14] (0, 0) _ rfl BR.out hu26 rfl (by kernel_rfl) .nil)) rfl ⟨_, _, _, rfl, R10e.out, HOe.out, R14e.out, HBe.out⟩
theorem swarfkit_CopyVoyage.calls (a0_0 : Int) (a0_1 : Int) (a0_2 : Int) (A0_3 : Option Addr) (c0_3 : Nat) (l0_3 : List (S85)) (a0_4 : Int) (A0_5 : Option Addr) (c0_5 : Nat) (l0_5 : List (S59)) (A0_6 : Option Addr) (c0_6 : Nat) (l0_6 : List (S79)) (r1 : Int) (r2 : Int) (r3 : Int) (r4 : List (S85)) (r5 : Int) (r6 : List (S59)) (r7 : List (S79)) (w : World) (hr0_3 : Kd.C k85 w A0_3 l0_3.length l0_3) (hc0_3 : l0_3.length ≤ c0_3) (hr0_5 : Kd.C k59 w A0_5 l0_5.length l0_5) (hc0_5 : l0_5.length ≤ c0_5) (hr0_6 : Kd.C k79 w A0_6 l0_6.length l0_6) (hc0_6 : l0_6.length ≤ c0_6) (h : swarfkit_CopyVoyage.f a0_0 a0_1 a0_2 l0_3 a0_4 l0_5 l0_6 = some (r1, r2, r3, r4, r5, r6, r7)) :
  Calls Try.prog 20 #[.agg #[.int .i64 a0_0, .int .i64 a0_1, .int .i64 a0_2, .slice A0_3 l0_3.length c0_3, .int .i64 a0_4, .slice A0_5 l0_5.length c0_5, .slice A0_6 l0_6.length c0_6]] w fun e w' => ∃ v3_ v5_ v6_ : Value, e = .returned (.agg #[.int .i64 r1, .int .i64 r2, .int .i64 r3, v3_, .int .i64 r5, v5_, v6_]) ∧ Kd.R k85 85 w' w.heap.size (fun _ => True) v3_ r4 ∧ Kd.S k59 59 w' w.heap.size (fun _ => True) v5_ r6 ∧ Kd.R k79 79 w' w.heap.size (fun _ => True) v6_ r7 ∧ Below w.heap.size w w' := by
 unfold swarfkit_CopyVoyage.f at h
 by_cases hn : copyOK l0_3 l0_5 l0_6
 ·
  rw [if_pos hn] at h
  simp only [Option.some.injEq, Prod.mk.injEq] at h
  obtain ⟨rfl, rfl, rfl, rfl, rfl, rfl, rfl⟩ := h
  exact copy_calls ⟨_, _, _, A0_3, c0_3, _, _, A0_5, c0_5, _, A0_6, c0_6, _⟩ w ⟨hr0_3, hc0_3, hr0_5, hc0_5, hr0_6, hc0_6⟩ hn
 ·
  rw [if_neg hn] at h; cases h
theorem bestOf_from (good : List Int → Bool) (worth : List Int → Int) : ∀ (L : List (List Int)) (b : List Int × Int), bestOf good worth L b = b ∨ ∃ t, t ∈ L ∧ good t = true ∧ bestOf good worth L b = (t, worth t)
  | [], b => .inl rfl
  | u :: L, b => by
    obtain ⟨c, hc⟩ : ∃ c, c = (if good u = true then (if b.2 < worth u then (u, worth u) else b) else b) := ⟨_, rfl⟩
    have e : bestOf good worth (u :: L) b = bestOf good worth L c := by rw [hc]; rfl
    rw [e]
    rcases bestOf_from good worth L c with h | ⟨t, h1, h2, h3⟩
    · rw [h]
      by_cases hg : good u = true
      · rw [if_pos hg] at hc
        by_cases hw : b.2 < worth u
        · rw [if_pos hw] at hc; exact .inr ⟨u, List.mem_cons_self .., hg, hc⟩
        · rw [if_neg hw] at hc; exact .inl hc
      · rw [if_neg hg] at hc; exact .inl hc
    · exact .inr ⟨t, List.mem_cons_of_mem _ h1, h2, h3⟩
theorem VoyOK.mono {H S L' H' S' L2 : Nat} {T T' L U R V : Int} {holds : List S85} {sills : List S59} {lots : List S79} (h : VoyOK H S L' T L U R holds V sills lots) (h1 : H ≤ H') (h2 : S ≤ S') (h3 : L' ≤ L2) (h4 : T ≤ T') : VoyOK H' S' L2 T' L U R holds V sills lots :=
  ⟨h.light, h.under, h.trim, h.leaves, ⟨h.hn.1, Nat.le_trans h.hn.2 h1⟩, fun x hx => by obtain ⟨a, b, c⟩ := h.ho x hx; exact ⟨a, by omega, c⟩, Nat.le_trans h.sn h2,
    fun x hx => by
      obtain ⟨a, b, c, d, e, fr, hl⟩ := h.si x hx
      exact ⟨a, b, c, d, e, fr, fun i hi => by obtain ⟨p, q, r, s, t⟩ := hl.bd i hi; exact ⟨p, q, r, s, by omega⟩, hl.up, hl.zero, hl.first, hl.lim⟩,
    Nat.le_trans h.ln h3, fun x hx => by obtain ⟨a, b, c, d⟩ := h.lo x hx; exact ⟨a, b, by omega, d⟩⟩
structure HoldsLE (a b : List S85) : Prop where
  len : a.length ≤ b.length
  eq : ∀ g : Nat, g < a.length → (b.getD g z85).f1 = (a.getD g z85).f1 ∧ (b.getD g z85).f2 = (a.getD g z85).f2 ∧ (a.getD g z85).f0 ≤ (b.getD g z85).f0
  more : ∀ g : Nat, a.length ≤ g → g < b.length → 0 ≤ (b.getD g z85).f0
theorem copy_ok {H S L' : Nat} {T L U R V : Int} {holds : List S85} {sills : List S59} {lots : List S79} (h : VoyOK H S L' T L U R holds V sills lots) (hH : H ≤ 100) (hS : S ≤ 100) (hL : L' ≤ 100) : swarfkit_CopyVoyage.f L U R holds V sills lots = some (L, U, R, holds, V, sills, lots) := by
  unfold swarfkit_CopyVoyage.f
  have h1 := h.hn; have h2 := h.sn; have h3 := h.ln
  rw [if_pos ⟨by omega, by omega, by omega, fun x hx => by obtain ⟨_, _, _, _, a5, _⟩ := h.si x hx; omega⟩]
end Go.Proofs.Ytodmemndaaiolaa.PC7
namespace Go.Proofs.Ytodmemndaaiolaa.PC7
open Go.RowKit Go.Proofs.YtodmemndaaiolaaW.PrintWords Go.Proofs.YtodmemndaaiolaaW.PrintLast Go.Proofs.YtodmemndaaiolaaW.PrintMore
attribute [local go_sem] max2_int min2_int max_two min_two max_three min_three max_four min_four
set_option linter.unusedVariables false
set_option linter.unusedSimpArgs false
def swarfkit_Feed_In.f (s0_0 : Int) (a1_0 : Int) (a1_1 : Int) : Option (Int × Int) := (swarfkit_Feed_Between.f s0_0 a1_0 a1_1).bind fun bt1050 => ((swarfkit_Feed_Between.f bt1050.2 a1_0 a1_1).bind fun bt1052 => ((swarfkit_Feed_Either.f bt1052.2 (([a1_0, a1_1, bt1050.1, bt1052.1] : List Int))).bind fun bt1057 => (some (bt1057.1, bt1057.2))))
end Go.Proofs.Ytodmemndaaiolaa.PC7
namespace Go.Proofs.Ytodmemndaaiolaa.PC7
set_option linter.unusedVariables false
set_option linter.unusedSimpArgs false
open Go.RowKit Go.Proofs.YtodmemndaaiolaaW.PrintWords Go.Proofs.YtodmemndaaiolaaW.PrintLast Go.Proofs.YtodmemndaaiolaaW.PrintMore
def feedL (s : Int) : List S56 → Option (List Int × Int)
 | [] => some ([], s)
 | x :: r => (swarfkit_Feed_In.f s x.f0 x.f1).bind fun a => (feedL a.2 r).bind fun b => some (a.1 :: b.1, b.2)
def factS (s : Int) : List S59 → Option (List Int × List (List Int) × Int)
 | [] => some ([], [], s)
 | x :: r => (swarfkit_Feed_In.f s x.f0.f0 x.f0.f1).bind fun a => (feedL a.2 (x.f1.map (·.f1))).bind fun l => (factS l.2 r).bind fun b => some (a.1 :: b.1, l.1 :: b.2.1, b.2.2)
theorem R_kb {α : Type} {d : Kd α} {e base g : Nat} {ok : Nat → Prop} {W W' : World} {v : Value} {xs : List α} (h : d.R e W base ok v xs) (hk : KeepBut W W' g none) (hg : g < base) : d.R e W' base ok v xs :=
 Kd.R_mono (Kd.R_step (Kd.R_bound h) (fun k hk' hlt => hk.2 k hlt (by have := hk'.2.1; omega) (by simp))) (fun _ h => h.1)
theorem S_kb {α : Type} {d : Kd α} {e base g : Nat} {ok : Nat → Prop} {W W' : World} {v : Value} {xs : List α} (h : d.S e W base ok v xs) (hk : KeepBut W W' g none) (hg : g < base) : d.S e W' base ok v xs :=
 Kd.S_mono (Kd.S_step (Kd.S_bound h) (fun k hk' hlt => hk.2 k hlt (by have := hk'.2.1; omega) (by simp))) (fun _ h => h.1)
theorem blk_kb {w w' : World} {g b : Nat} {o : Obj} (h : w.heap[b]? = some o) (hk : KeepBut w w' g none) (hne : b ≠ g) : w'.heap[b]? = some o := (hk.2 b (blk_lt h) hne (by simp)).trans h
end Go.Proofs.Ytodmemndaaiolaa.PC7
namespace Go.Proofs.Ytodmemndaaiolaa.PC7
set_option linter.unusedVariables false
open Go.RowKit Go.Proofs.YtodmemndaaiolaaW.PrintWords Go.Proofs.YtodmemndaaiolaaW.PrintLast Go.Proofs.YtodmemndaaiolaaW.PrintMore
def feedX (s x : Int) : Int := Go.bits .xor .u64 s (IntKind.u64.wrap (IntKind.u64.wrap x * 15485907386658061715))
def feedAll (l : List Int) : Int := l.foldl (fun s x => feedN (feedX s x)) 88172645463325252
def swarfkit_FeedOf.f (l0 : List Int) : Option (Int) := if l0.length ≤ 140737488351232 then some (feedAll l0) else none
structure FeedNew (w0 w W : World) (g : Nat) (x : Int) : Prop where
 is : IsS90 w0 W g x
 be : Below w0.heap.size w0 W
 bw : Below w.heap.size w W
 ge : w.heap.size ≤ g
theorem FeedNew.next {w0 w W : World} {g : Nat} {x : Int} (h : FeedNew w0 w W g x) (y : Int) : FeedNew w0 w (W.setCell ⟨g, 0, none⟩ (.int .u64 y)) g y :=
 ⟨h.is.set_0 y, below_set h.be h.is.ge, below_set h.bw h.ge, h.ge⟩
theorem FeedNew.drew {w0 w W : World} {g : Nat} {x : Int} (h : FeedNew w0 w W g x) : FeedNew w0 w W.drew g x := ⟨h.is.drew, h.be.drew, h.bw.drew, h.ge⟩
theorem below_next {w0 w w1 w2 : World} {g : Nat} (hb : Below w.heap.size w w1) (h1 : Below w0.heap.size w0 w1) (h2 : Below w0.heap.size w0 w2) (hk : KeepBut w1 w2 g none) (hg : w.heap.size ≤ g) : Below w.heap.size w w2 :=
 ⟨(h2.os.trans h1.os.symm).trans hb.os, (h2.tape.trans h1.tape.symm).trans hb.tape, (h2.output.trans h1.output.symm).trans hb.output, Nat.le_trans hb.size hk.1,
  fun k hlt => (hk.2 k (Nat.lt_of_lt_of_le hlt hb.size) (by omega) (by simp)).trans (hb.block k hlt)⟩
theorem feedAll_step (l : List Int) (i : Nat) (h : i < l.length) : feedAll (l.take (i + 1)) = feedN (feedX (feedAll (l.take i)) (rd l (i : Int))) := by
 unfold feedAll
 rw [List.take_succ_eq_append_getElem h, List.foldl_append]
 simp [rd, List.getD, h]
set_option maxHeartbeats 4000000 in
set_option maxRecDepth 100000 in
theorem swarfkit_FeedOf.calls (A0 : Option Addr) (c0 : Nat) (l0 : List Int) (r : Int) (w0 w : World) (hB : Below w0.heap.size w0 w) (hr0 : Kd.C (Kd.int .i64) w0 A0 l0.length l0) (hc0 : l0.length ≤ c0) (h : swarfkit_FeedOf.f l0 = some r) :
  Calls Try.prog 16 #[.slice A0 l0.length c0] w fun e w' => ∃ g_ : Nat, e = .returned (.pointer (some ⟨g_, 0, none⟩)) ∧ IsS90 w0 w' g_ r ∧ Below w0.heap.size w0 w' ∧ Below w.heap.size w w' := by
 simp only [swarfkit_FeedOf.f] at h
 by_cases hl : l0.length ≤ 140737488351232
 case neg => rw [if_neg hl] at h; cases h
 rw [if_pos hl] at h
 obtain rfl := Option.some.inj h
 clear h
 have hu90 := Try.underlying90
 have HB := Aside0.mk hB
 have HR0 := Aside0.mk hr0
 clear hB hr0
 go_enter Try.func16, Try.ntmps16
 go_wp2
 have F := Aside0.mk (FeedNew.mk (IsS90.new w0 w (88172645463325252) HB.out) (below_alloc HB.out _) (below_alloc (Below.refl _ _) _) (Nat.le_refl _))
 go_loopw [4] (fun i wr => ∃ k : Nat, k ≤ l0.length ∧ i = .int .i64 k ∧ Aside0 (FeedNew w0 w wr w.heap.size (feedAll (l0.take k)))) (fun i _ => l0.length - (intOf i).toNat)
 case atStart => exact ⟨0, Nat.zero_le _, rfl, F⟩
 case round =>
  clear F
  obtain ⟨k, hk, rfl, F⟩ := hrel
  have hcell := (blk_cell F.out.is.1 0).trans rfl
  have hfree := blk_frozen F.out.is.1 0
  by_cases hlt : k < l0.length
  ·
   have hlz : (k : Int) < (l0.length : Int) := by omega
   obtain ⟨ad, e, hx⟩ := Kd.at_int HR0.out (k : Int) (by omega) hlz
   cases e
   rw [Int.toNat_natCast] at hx
   replace hx := (F.out.be.cell (World.block_lt_of_cell? w0 _ hx)).trans hx
   have HF := Aside0.mk (feedAll_step l0 k hlt)
   generalize feedAll (l0.take k) = s at *
   generalize rd l0 (k : Int) = x at *
   go_wp2
   go_region
   clear hcell hfree hx
   have F1 := Aside0.mk (F.out.next (feedX s x)).drew
   generalize hx1 : bits BinOp.xor IntKind.u64 s (IntKind.u64.wrap (IntKind.u64.wrap x * 15485907386658061715)) = x1
   have hy1 : feedX s x = x1 := hx1
   rw [hy1] at F1 HF
   generalize hw1 : (wr.setCell ⟨w.heap.size, 0, none⟩ (.int .u64 x1)).drew = w1
   rw [hw1] at F1
   clear hx1 hw1 hy1 F
   have HC := Aside0.mk (swarfkit_Feed_next.calls w.heap.size x1 (feedM (feedN x1)) (feedN x1) w0 w1 F1.out.is F1.out.be rfl)
   go_wp2_with (go_at_call 53; refine HC.out.mono ?_; rintro e w2 ⟨rfl, hI2, hB2, hK2⟩; have F2 := Aside0.mk (FeedNew.mk hI2 hB2 (below_next F1.out.bw F1.out.be hB2 hK2 F1.out.ge) F1.out.ge); clear hI2 hB2 hK2 HC)
   go_roundw
   case rel => exact ⟨k + 1, by omega, by go_num, by rw [HF.out]; exact F2⟩
   case measure => simp [intOf]; omega
  ·
   have : k = l0.length := by omega
   subst this
   go_wp2
   go_ret
   rw [List.take_length] at F
   exact ⟨_, rfl, F.out.is, F.out.be, F.out.bw⟩
end Go.Proofs.Ytodmemndaaiolaa.PC7
namespace Go.Proofs.Ytodmemndaaiolaa.PC7
open Go.RowKit Go.Proofs.YtodmemndaaiolaaW.PrintWords Go.Proofs.YtodmemndaaiolaaW.PrintLast Go.Proofs.YtodmemndaaiolaaW.PrintMore
attribute [local go_sem] max2_int min2_int max_two min_two max_three min_three max_four min_four
set_option linter.unusedVariables false
set_option linter.unusedSimpArgs false
attribute [local go_sem high] eqA56
set_option maxHeartbeats 8000000 in
set_option maxRecDepth 100000 in
theorem swarflaw07_awake.calls (k : Nat)  (r : Bool) (w : World) (h : swarflaw07_awake.f k  = some r) :
  Calls Try.prog 15 #[] w fun e w' => e = .returned (.bool r) ∧ Below w.heap.size w w' := by
 have hrt := Aside0.mk (awake_true h)
 have hu56 := Try.underlying56
 have HB := Aside0.mk (Below.refl w.heap.size w)
 have H : ((swarflaw07_voyage.f).bind fun bt198 => ((ship_Drafts.f bt198.1 bt198.2.1 bt198.2.2.1 bt198.2.2.2.1 bt198.2.2.2.2.1 bt198.2.2.2.2.2.1 bt198.2.2.2.2.2.2 (([0, 1, (-1)] : List Int))).bind fun bt214 => ((swarflaw07_voyage.f).bind fun bt221 => ((ship_Sail.f bt221.1 bt221.2.1 bt221.2.2.1 bt221.2.2.2.1 bt221.2.2.2.2.1 bt221.2.2.2.2.2.1 bt221.2.2.2.2.2.2 (([0, 1, (-1)] : List Int))).bind fun bt237 => ((swarflaw07_voyage.f).bind fun bt242 => ((ship_Best.f bt242.1 bt242.2.1 bt242.2.2.1 bt242.2.2.2.1 bt242.2.2.2.2.1 bt242.2.2.2.2.2.1 bt242.2.2.2.2.2.2).bind fun bt255 => (if bt214.2.2.2.2 = 0 then (if bt237.2.2 = 0 then (if bt255.2.2 = 0 then ((swarflaw07_rng.f 1290000 1340000).bind fun bt260 => (if (bt214.1 == bt260.1 && (bt214.2.1 == bt260.2)) = true then ((swarflaw07_rng.f 1260000 1310000).bind fun bt262 => (if (bt214.2.2.1 == bt262.1 && (bt214.2.2.2.1 == bt262.2)) = true then (if bt237.1 = 1 then (if bt255.2.1 = 95 then ((swarfkit_EqualInts.f k bt255.1 (([0, (-1), 1] : List Int))).bind fun t267 => (if t267 = true then ((swarflaw07_rng.f 90 100).bind fun bt268 => ((swarflaw07_rng.f 240 250).bind fun bt270 => ((swarfkit_EqualRanges.f k bt237.2.1 (([(⟨bt268.1, bt268.2⟩ : S56), (⟨bt270.1, bt270.2⟩ : S56)] : List (S56)))).bind fun t275 => (some t275)))) else (some false))) else (some false)) else (some false)) else (some false))) else (some false))) else (some false)) else (some false)) else (some false)))))))) = some r := h
 clear h
 replace H := Option.bind_eq_some_iff.mp H
 obtain ⟨⟨t198, t199, t200, t201, t204, t205, t208⟩, A10, H⟩ := H
 try dsimp only at H
 have A1 := Aside0.mk A10
 clear A10
 obtain ⟨y211, hy211⟩ : ∃ y_ : List Int, y_ = (([0, 1, (-1)] : List Int)) := ⟨_, rfl⟩
 replace H : ((ship_Drafts.f t198 t199 t200 t201 t204 t205 t208 y211).bind fun bt214 => ((swarflaw07_voyage.f).bind fun bt221 => ((ship_Sail.f bt221.1 bt221.2.1 bt221.2.2.1 bt221.2.2.2.1 bt221.2.2.2.2.1 bt221.2.2.2.2.2.1 bt221.2.2.2.2.2.2 (([0, 1, (-1)] : List Int))).bind fun bt237 => ((swarflaw07_voyage.f).bind fun bt242 => ((ship_Best.f bt242.1 bt242.2.1 bt242.2.2.1 bt242.2.2.2.1 bt242.2.2.2.2.1 bt242.2.2.2.2.2.1 bt242.2.2.2.2.2.2).bind fun bt255 => (if bt214.2.2.2.2 = 0 then (if bt237.2.2 = 0 then (if bt255.2.2 = 0 then ((swarflaw07_rng.f 1290000 1340000).bind fun bt260 => (if (bt214.1 == bt260.1 && (bt214.2.1 == bt260.2)) = true then ((swarflaw07_rng.f 1260000 1310000).bind fun bt262 => (if (bt214.2.2.1 == bt262.1 && (bt214.2.2.2.1 == bt262.2)) = true then (if bt237.1 = 1 then (if bt255.2.1 = 95 then ((swarfkit_EqualInts.f k bt255.1 (([0, (-1), 1] : List Int))).bind fun t267 => (if t267 = true then ((swarflaw07_rng.f 90 100).bind fun bt268 => ((swarflaw07_rng.f 240 250).bind fun bt270 => ((swarfkit_EqualRanges.f k bt237.2.1 (([(⟨bt268.1, bt268.2⟩ : S56), (⟨bt270.1, bt270.2⟩ : S56)] : List (S56)))).bind fun t275 => (some t275)))) else (some false))) else (some false)) else (some false)) else (some false))) else (some false))) else (some false)) else (some false)) else (some false))))))) = some r := by first | (rw [hy211]; with_reducible exact H) | (have H2_ := (Option.bind_some _ _).symm.trans H; rw [hy211]; with_reducible exact H2_) | (have H2_ := (Option.bind_some _ _).symm.trans H; with_reducible exact H2_) | with_reducible exact H | (rw [hy211]; exact H) | exact H
 have Ny211 := Aside0.mk hy211
 clear hy211
 replace H := Option.bind_eq_some_iff.mp H
 obtain ⟨⟨t214, t215, t216, t217, t218⟩, A20, H⟩ := H
 try dsimp only at H
 have A2 := Aside0.mk A20
 clear A20
 replace H := Option.bind_eq_some_iff.mp H
 obtain ⟨⟨t221, t222, t223, t224, t227, t228, t231⟩, A30, H⟩ := H
 try dsimp only at H
 have A3 := Aside0.mk A30
 clear A30
 obtain ⟨y234, hy234⟩ : ∃ y_ : List Int, y_ = (([0, 1, (-1)] : List Int)) := ⟨_, rfl⟩
 replace H : ((ship_Sail.f t221 t222 t223 t224 t227 t228 t231 y234).bind fun bt237 => ((swarflaw07_voyage.f).bind fun bt242 => ((ship_Best.f bt242.1 bt242.2.1 bt242.2.2.1 bt242.2.2.2.1 bt242.2.2.2.2.1 bt242.2.2.2.2.2.1 bt242.2.2.2.2.2.2).bind fun bt255 => (if t218 = 0 then (if bt237.2.2 = 0 then (if bt255.2.2 = 0 then ((swarflaw07_rng.f 1290000 1340000).bind fun bt260 => (if (t214 == bt260.1 && (t215 == bt260.2)) = true then ((swarflaw07_rng.f 1260000 1310000).bind fun bt262 => (if (t216 == bt262.1 && (t217 == bt262.2)) = true then (if bt237.1 = 1 then (if bt255.2.1 = 95 then ((swarfkit_EqualInts.f k bt255.1 (([0, (-1), 1] : List Int))).bind fun t267 => (if t267 = true then ((swarflaw07_rng.f 90 100).bind fun bt268 => ((swarflaw07_rng.f 240 250).bind fun bt270 => ((swarfkit_EqualRanges.f k bt237.2.1 (([(⟨bt268.1, bt268.2⟩ : S56), (⟨bt270.1, bt270.2⟩ : S56)] : List (S56)))).bind fun t275 => (some t275)))) else (some false))) else (some false)) else (some false)) else (some false))) else (some false))) else (some false)) else (some false)) else (some false))))) = some r := by first | (rw [hy234]; with_reducible exact H) | (have H2_ := (Option.bind_some _ _).symm.trans H; rw [hy234]; with_reducible exact H2_) | (have H2_ := (Option.bind_some _ _).symm.trans H; with_reducible exact H2_) | with_reducible exact H | (rw [hy234]; exact H) | exact H
 have Ny234 := Aside0.mk hy234
 clear hy234
 replace H := Option.bind_eq_some_iff.mp H
 obtain ⟨⟨t237, t238, t241⟩, A40, H⟩ := H
 try dsimp only at H
 have A4 := Aside0.mk A40
 clear A40
 replace H := Option.bind_eq_some_iff.mp H
 obtain ⟨⟨t242, t243, t244, t245, t248, t249, t252⟩, A50, H⟩ := H
 try dsimp only at H
 have A5 := Aside0.mk A50
 clear A50
 replace H := Option.bind_eq_some_iff.mp H
 obtain ⟨⟨t255, t258, t259⟩, A60, H⟩ := H
 try dsimp only at H
 have A6 := Aside0.mk A60
 clear A60
 by_cases c7 : t218 = 0
 ·
  rw [if_pos c7] at H
  have c7b0 : (t218 == 0) = true := beq_iff_eq.mpr c7
  have c7b1 : (t218 != 0) = false := bne_eq_false_iff_eq.mpr c7
  clear c7
  by_cases c8 : t241 = 0
  ·
   rw [if_pos c8] at H
   have c8b0 : (t241 == 0) = true := beq_iff_eq.mpr c8
   have c8b1 : (t241 != 0) = false := bne_eq_false_iff_eq.mpr c8
   clear c8
   by_cases c9 : t259 = 0
   ·
    rw [if_pos c9] at H
    have c9b0 : (t259 == 0) = true := beq_iff_eq.mpr c9
    have c9b1 : (t259 != 0) = false := bne_eq_false_iff_eq.mpr c9
    clear c9
    replace H := Option.bind_eq_some_iff.mp H
    obtain ⟨⟨t260, t261⟩, A100, H⟩ := H
    try dsimp only at H
    have A10 := Aside0.mk A100
    clear A100
    by_cases c11 : (t214 == t260 && (t215 == t261)) = true
    ·
     rw [if_pos c11] at H
     have c11b0 : (t214 == t260 && (t215 == t261)) = true := c11
     (try (have c11b1 : decide (t214 = t260 && (t215 == t261)) = true := by simpa using c11))
     (try (have c11b2 : (t214 == t260 && (t215 == t261)) = true := by simpa using c11))
     clear c11
     replace H := Option.bind_eq_some_iff.mp H
     obtain ⟨⟨t262, t263⟩, A120, H⟩ := H
     try dsimp only at H
     have A12 := Aside0.mk A120
     clear A120
     by_cases c13 : (t216 == t262 && (t217 == t263)) = true
     ·
      rw [if_pos c13] at H
      have c13b0 : (t216 == t262 && (t217 == t263)) = true := c13
      (try (have c13b1 : decide (t216 = t262 && (t217 == t263)) = true := by simpa using c13))
      (try (have c13b2 : (t216 == t262 && (t217 == t263)) = true := by simpa using c13))
      clear c13
      by_cases c14 : t237 = 1
      ·
       rw [if_pos c14] at H
       have c14b0 : (t237 == 1) = true := beq_iff_eq.mpr c14
       have c14b1 : (t237 != 1) = false := bne_eq_false_iff_eq.mpr c14
       clear c14
       by_cases c15 : t258 = 95
       ·
        rw [if_pos c15] at H
        have c15b0 : (t258 == 95) = true := beq_iff_eq.mpr c15
        have c15b1 : (t258 != 95) = false := bne_eq_false_iff_eq.mpr c15
        clear c15
        obtain ⟨y264, hy264⟩ : ∃ y_ : List Int, y_ = (([0, (-1), 1] : List Int)) := ⟨_, rfl⟩
        replace H : ((swarfkit_EqualInts.f k t255 y264).bind fun t267 => (if t267 = true then ((swarflaw07_rng.f 90 100).bind fun bt268 => ((swarflaw07_rng.f 240 250).bind fun bt270 => ((swarfkit_EqualRanges.f k t238 (([(⟨bt268.1, bt268.2⟩ : S56), (⟨bt270.1, bt270.2⟩ : S56)] : List (S56)))).bind fun t275 => (some t275)))) else (some false))) = some r := by first | (rw [hy264]; with_reducible exact H) | (have H2_ := (Option.bind_some _ _).symm.trans H; rw [hy264]; with_reducible exact H2_) | (have H2_ := (Option.bind_some _ _).symm.trans H; with_reducible exact H2_) | with_reducible exact H | (rw [hy264]; exact H) | exact H
        have Ny264 := Aside0.mk hy264
        clear hy264
        replace H := Option.bind_eq_some_iff.mp H
        obtain ⟨t267, A160, H⟩ := H
        try dsimp only at H
        have A16 := Aside0.mk A160
        clear A160
        by_cases c17 : t267 = true
        ·
         subst c17
         have H1 : ((swarflaw07_rng.f 90 100).bind fun bt268 => ((swarflaw07_rng.f 240 250).bind fun bt270 => ((swarfkit_EqualRanges.f k t238 (([(⟨bt268.1, bt268.2⟩ : S56), (⟨bt270.1, bt270.2⟩ : S56)] : List (S56)))).bind fun t275 => (some t275)))) = some r := by rw [if_pos rfl] at H; exact H
         clear H
         have H := H1
         clear H1
         replace H := Option.bind_eq_some_iff.mp H
         obtain ⟨⟨t268, t269⟩, A180, H⟩ := H
         try dsimp only at H
         have A18 := Aside0.mk A180
         clear A180
         replace H := Option.bind_eq_some_iff.mp H
         obtain ⟨⟨t270, t271⟩, A190, H⟩ := H
         try dsimp only at H
         have A19 := Aside0.mk A190
         clear A190
         obtain ⟨y272, hy272⟩ : ∃ y_ : List (S56), y_ = (([(⟨t268, t269⟩ : S56), (⟨t270, t271⟩ : S56)] : List (S56))) := ⟨_, rfl⟩
         replace H : ((swarfkit_EqualRanges.f k t238 y272).bind fun t275 => (some t275)) = some r := by first | (rw [hy272]; with_reducible exact H) | (have H2_ := (Option.bind_some _ _).symm.trans H; rw [hy272]; with_reducible exact H2_) | (have H2_ := (Option.bind_some _ _).symm.trans H; with_reducible exact H2_) | with_reducible exact H | (rw [hy272]; exact H) | exact H
         have Ny272 := Aside0.mk hy272
         clear hy272
         replace H := Option.bind_eq_some_iff.mp H
         obtain ⟨t275, A200, H⟩ := H
         replace H : (some t275) = some r := H
         have A20 := Aside0.mk A200
         clear A200
         obtain rfl := Option.some.inj H
         go_enter Try.func15, Try.ntmps15
         try go_wp2_with (first | ((with_reducible refine gate_callee (f := 52) rfl ?_); refine goesL_ (some 11) rfl rfl Try.func52 (by kernel_rfl) rfl #[] rfl (by (try simp only [List.map_toArray, List.map_cons, List.map_nil]); first | done | rfl | (simp only [List.length_drop, List.length_take]; rfl)) ?_; (with_reducible refine (swarflaw07_voyage.calls  t198 t199 t200 t201 t204 t205 t208 _ A1.out).mono ?_); rintro e w21 ⟨v202, v206, v209, rfl, ho0, ho1, ho2, hb⟩; refine ⟨_, rfl, ?_⟩; have HO203 := Aside0.mk (Kd.R_lower (Kd.R_mono (ok' := fun k_ => True) ho0 (fun _ hk_ => trivial)) (below_size (below_x HB.out))); have HO207 := Aside0.mk (Kd.N_lower (Kd.N_mono (ok' := fun k_ => some k_ ≠ (v202 : Value).ownBlock ∧ some k_ ≠ (v209 : Value).ownBlock) ho1 (fun k_ hk_ => ⟨hk_.2.1, hk_.2.2⟩)) (below_size (below_x HB.out))); have HO210 := Aside0.mk (Kd.R_lower (Kd.R_mono (ok' := fun k_ => True) ho2 (fun _ hk_ => trivial)) (below_size (below_x HB.out))); replace HB := Aside0.mk (below_step (below_x HB.out) hb); (try clear hb); (try clear hk); (try clear hi); (try clear ho0); (try clear ho1); (try clear ho2)) | ((with_reducible refine gate_dst (N := 12) rfl ?_); (try (refine gate_guard (by rfl) ?_; dsimp only)); refine Kd.R_lit (Kd.int .i64) _ 3 ?hg (N := 12) ?hd (xs := ([0, 1, (-1)] : List Int)) (inner := [.int .i64 0, .int .i64 1, .int .i64 (-1)]) (ok := fun _ => True) (okp := fun _ => True) ?hr ?hp (fun _ hk => hk) trivial (Below.refl _ _) (Nat.le_refl _) (by simp) ?_; (case hd => rfl); (case hg => rfl); (case hr => first | (go_simp; done) | (go_simp; rfl)); (case hp => exact (Reps.one (show Kd.M (Kd.int .i64) _ _ _ 0 [.int .i64 0] from rfl) (Reps.one (show Kd.M (Kd.int .i64) _ _ _ 1 [.int .i64 1] from rfl) (Reps.one (show Kd.M (Kd.int .i64) _ _ _ (-1) [.int .i64 (-1)] from rfl) (Reps.none _ _))))); intro v212 w22 ho23 hb hg_ hnew_; clear hg_ hnew_; (first | rw [← Ny211.out] at ho23 | (simp only [Int.reduceToNat] at ho23; rw [← Ny211.out] at ho23)); replace HO203 := Aside0.mk (Kd.R_below (Kd.R_x HO203.out) hb); replace HO207 := Aside0.mk (Kd.N_elder' (Kd.N_x HO207.out) (Kd.R_base ho23) hb); replace HO210 := Aside0.mk (Kd.R_below (Kd.R_x HO210.out) hb); have HO213 := Aside0.mk (Kd.R_lower ho23 (below_size (below_x HB.out))); replace HB := Aside0.mk (below_step (below_x HB.out) hb); clear hb ho23; obtain ⟨Ao24, co24, eo24⟩ := Kd.R_slice HO203.out; subst eo24; obtain ⟨Ao25, co25, eo25⟩ := Kd.N_slice HO207.out; subst eo25; obtain ⟨Ao26, co26, eo26⟩ := Kd.R_slice HO210.out; subst eo26; obtain ⟨Ao27, co27, eo27⟩ := Kd.R_slice HO213.out; subst eo27) | ((with_reducible refine gate_callee (f := 35) rfl ?_); refine goesL_ (some 13) rfl rfl Try.func35 (by kernel_rfl) rfl #[.agg #[.int .i64 t198, .int .i64 t199, .int .i64 t200, .slice Ao24 t201.length co24, .int .i64 t204, .slice Ao25 t205.length co25, .slice Ao26 t208.length co26], .slice Ao27 y211.length co27] rfl (by (try simp only [List.map_toArray, List.map_cons, List.map_nil]); first | done | rfl | (simp only [List.length_drop, List.length_take]; rfl)) ?_; (with_reducible refine (ship_Drafts.calls t198 t199 t200 _ _ t201 t204 _ _ t205 _ _ t208 _ _ y211 t214 t215 t216 t217 t218 _ ?side1 ?side2 ?side3 ?side4 ?side5 ?side6 ?side7 ?side8 A2.out).mono ?_); (case side1 => exact Kd.C_y (Kd.R_reads' HO203.out).2.2); (case side2 => exact (Kd.R_reads' HO203.out).2.1); (case side3 => exact Kd.C_y (Kd.N_reads' HO207.out).2.2); (case side4 => exact (Kd.N_reads' HO207.out).2.1); (case side5 => exact Kd.C_y (Kd.R_reads' HO210.out).2.2); (case side6 => exact (Kd.R_reads' HO210.out).2.1); (case side7 => exact Kd.C_y (Kd.R_reads' HO213.out).2.2); (case side8 => exact (Kd.R_reads' HO213.out).2.1); rintro e w28 ⟨rfl, hb⟩; refine ⟨_, rfl, ?_⟩; replace HO203 := Aside0.mk (Kd.R_below (Kd.R_x HO203.out) hb); replace HO207 := Aside0.mk (Kd.N_below (Kd.N_x HO207.out) hb); replace HO210 := Aside0.mk (Kd.R_below (Kd.R_x HO210.out) hb); replace HO213 := Aside0.mk (Kd.R_below (Kd.R_x HO213.out) hb); replace HB := Aside0.mk (below_step (below_x HB.out) hb); (try clear hb); (try clear hk); (try clear hi)) | ((with_reducible refine gate_dst (N := 1) rfl ?_); (try (refine gate_guard (by rfl) ?_; dsimp only)); refine box_event ?hg (N := 1) ?hd (cs := #[.int .i64 0, .int .i64 0]) (t := 56) ?hr ?_; (case hd => rfl); (case hg => rfl); (case hr => first | (go_simp; done) | (go_simp; rfl)); intro gb219 hg w29 hbox hb; replace HO203 := Aside0.mk (Kd.R_below (Kd.R_x HO203.out) hb); replace HO207 := Aside0.mk (Kd.N_below (Kd.N_elderB (Kd.N_x HO207.out) gb219 (Nat.le_of_eq hg.symm)) hb); replace HO210 := Aside0.mk (Kd.R_below (Kd.R_x HO210.out) hb); replace HO213 := Aside0.mk (Kd.R_below (Kd.R_x HO213.out) hb); have BK219 := Aside0.mk (hbox); have GW219 := Aside0.mk ((by rw [hg]; exact (below_size (below_x HB.out)) : w.heap.size ≤ gb219)); have GE219 := Aside0.mk ((by rw [hg]; exact (below_size (below_x HB.out)) : w.heap.size ≤ gb219)); replace HB := Aside0.mk (below_step (below_x HB.out) hb); clear hb hbox hg) | ((with_reducible refine gate_dst (N := 2) rfl ?_); (try (refine gate_guard (by rfl) ?_; dsimp only)); refine box_event ?hg (N := 2) ?hd (cs := #[.int .i64 0, .int .i64 0]) (t := 56) ?hr ?_; (case hd => rfl); (case hg => rfl); (case hr => first | (go_simp; done) | (go_simp; rfl)); intro gb220 hg w30 hbox hb; replace HO203 := Aside0.mk (Kd.R_below (Kd.R_x HO203.out) hb); replace HO207 := Aside0.mk (Kd.N_below (Kd.N_elderB (Kd.N_x HO207.out) gb220 (Nat.le_of_eq hg.symm)) hb); replace HO210 := Aside0.mk (Kd.R_below (Kd.R_x HO210.out) hb); replace HO213 := Aside0.mk (Kd.R_below (Kd.R_x HO213.out) hb); have BK220 := Aside0.mk (hbox); have GW220 := Aside0.mk ((by rw [hg]; exact (below_size (by exact below_y HB.out)) : w.heap.size ≤ gb220)); have GE220 := Aside0.mk ((by rw [hg]; exact (below_size (by exact below_y HB.out)) : w.heap.size ≤ gb220)); replace HB := bl_x HB hb; have NB219_220 := Aside0.mk ((by rw [hg]; exact Nat.ne_of_lt (blk_lt (g := gb219) (o := .cells #[.int .i64 0, .int .i64 0] 56 (0, 0)) (blk_x BK219.out)) : gb219 ≠ gb220)); have NB220_219 := Aside0.mk ((by rw [hg]; exact Nat.ne_of_gt (blk_lt (g := gb219) (o := .cells #[.int .i64 0, .int .i64 0] 56 (0, 0)) (blk_x BK219.out)) : gb220 ≠ gb219)); replace BK219 := Aside0.mk (blk_below (blk_x BK219.out) hb); clear hb hbox hg; have hnb31 := NB219_220.out; have hnc31 := NB220_219.out; obtain ⟨_, _⟩ := cz2 BK219; have hfz32_0 := blk_frozen BK219.out; obtain ⟨_, _⟩ := cz2 BK220; have hfz33_0 := blk_frozen BK220.out) | ((with_reducible refine gate_callee (f := 52) rfl ?_); refine goesL_ (some 18) rfl rfl Try.func52 (by kernel_rfl) rfl #[] rfl (by (try simp only [List.map_toArray, List.map_cons, List.map_nil]); first | done | rfl | (simp only [List.length_drop, List.length_take]; rfl)) ?_; (with_reducible refine (swarflaw07_voyage.calls  t221 t222 t223 t224 t227 t228 t231 _ A3.out).mono ?_); rintro e w34 ⟨v225, v229, v232, rfl, ho0, ho1, ho2, hb⟩; refine ⟨_, rfl, ?_⟩; have HO226 := Aside0.mk (Kd.R_lower (Kd.R_new' (Kd.R_mono (ok' := fun k_ => True) ho0 (fun _ hk_ => trivial)) (Kd.R_lt (by (with_reducible repeat (first | apply Kd.R_alloc | apply Kd.R_drewN | apply Kd.R_drew)); exact (Kd.R_mono (Kd.R_mono (Kd.R_far (p := ⟨gb220, 1, none⟩) (Kd.R_far (p := ⟨gb220, 0, none⟩) (Kd.R_far (p := ⟨gb219, 1, none⟩) (Kd.R_far (p := ⟨gb219, 0, none⟩) (Kd.R_types (Kd.R_types HO203.out BK219.out (by decide)) BK220.out (by decide)) (fun _ hk => hk.1.2) (.int .i64 t214)) (fun _ hk => hk.1.2) (.int .i64 t215)) (fun _ hk => hk.2) (.int .i64 t216)) (fun _ hk => hk.2) (.int .i64 t217)) (fun _ h_ => h_.1)) (fun _ h_ => h_.1))))) (below_size (by exact below_y HB.out))); have HO230 := Aside0.mk (Kd.N_lower (Kd.N_mono (ok' := fun k_ => some k_ ≠ (v225 : Value).ownBlock ∧ some k_ ≠ (v232 : Value).ownBlock ∧ some k_ ≠ (.slice Ao24 t201.length co24 : Value).ownBlock ∧ some k_ ≠ (.slice Ao25 t205.length co25 : Value).ownBlock ∧ some k_ ≠ (.slice Ao26 t208.length co26 : Value).ownBlock ∧ some k_ ≠ (.slice Ao27 y211.length co27 : Value).ownBlock ∧ k_ ≠ gb219 ∧ k_ ≠ gb220) ho1 (fun k_ hk_ => ⟨hk_.2.1, hk_.2.2, (Kd.fresh' (Kd.R_lt (by (with_reducible repeat (first | apply Kd.R_alloc | apply Kd.R_drewN | apply Kd.R_drew)); exact (Kd.R_mono (Kd.R_mono (Kd.R_far (p := ⟨gb220, 1, none⟩) (Kd.R_far (p := ⟨gb220, 0, none⟩) (Kd.R_far (p := ⟨gb219, 1, none⟩) (Kd.R_far (p := ⟨gb219, 0, none⟩) (Kd.R_types (Kd.R_types HO203.out BK219.out (by decide)) BK220.out (by decide)) (fun _ hk => hk.1.2) (.int .i64 t214)) (fun _ hk => hk.1.2) (.int .i64 t215)) (fun _ hk => hk.2) (.int .i64 t216)) (fun _ hk => hk.2) (.int .i64 t217)) (fun _ h_ => h_.1)) (fun _ h_ => h_.1)))) k_ hk_.1), (Kd.fresh' (Kd.N_lt (by (with_reducible repeat (first | apply Kd.N_alloc | apply Kd.N_drewN | apply Kd.N_drew)); exact (Kd.N_mono (Kd.N_mono (Kd.N_far (p := ⟨gb220, 1, none⟩) (Kd.N_far (p := ⟨gb220, 0, none⟩) (Kd.N_far (p := ⟨gb219, 1, none⟩) (Kd.N_far (p := ⟨gb219, 0, none⟩) (Kd.N_mono (Kd.N_mono HO207.out (fun k_ hk => (⟨hk, hk.1.2⟩ : _ ∧ k_ ≠ gb219))) (fun k_ hk => (⟨hk, hk.1.2⟩ : _ ∧ k_ ≠ gb220))) (fun _ hk => hk.1.2) (.int .i64 t214)) (fun _ hk => hk.1.2) (.int .i64 t215)) (fun _ hk => hk.2) (.int .i64 t216)) (fun _ hk => hk.2) (.int .i64 t217)) (fun _ h_ => h_.1)) (fun _ h_ => h_.1)))) k_ hk_.1), (Kd.fresh' (Kd.R_lt (by (with_reducible repeat (first | apply Kd.R_alloc | apply Kd.R_drewN | apply Kd.R_drew)); exact (Kd.R_mono (Kd.R_mono (Kd.R_far (p := ⟨gb220, 1, none⟩) (Kd.R_far (p := ⟨gb220, 0, none⟩) (Kd.R_far (p := ⟨gb219, 1, none⟩) (Kd.R_far (p := ⟨gb219, 0, none⟩) (Kd.R_types (Kd.R_types HO210.out BK219.out (by decide)) BK220.out (by decide)) (fun _ hk => hk.1.2) (.int .i64 t214)) (fun _ hk => hk.1.2) (.int .i64 t215)) (fun _ hk => hk.2) (.int .i64 t216)) (fun _ hk => hk.2) (.int .i64 t217)) (fun _ h_ => h_.1)) (fun _ h_ => h_.1)))) k_ hk_.1), (Kd.fresh' (Kd.R_lt (by (with_reducible repeat (first | apply Kd.R_alloc | apply Kd.R_drewN | apply Kd.R_drew)); exact (Kd.R_mono (Kd.R_mono (Kd.R_far (p := ⟨gb220, 1, none⟩) (Kd.R_far (p := ⟨gb220, 0, none⟩) (Kd.R_far (p := ⟨gb219, 1, none⟩) (Kd.R_far (p := ⟨gb219, 0, none⟩) (Kd.R_types (Kd.R_types HO213.out BK219.out (by decide)) BK220.out (by decide)) (fun _ hk => hk.1.2) (.int .i64 t214)) (fun _ hk => hk.1.2) (.int .i64 t215)) (fun _ hk => hk.2) (.int .i64 t216)) (fun _ hk => hk.2) (.int .i64 t217)) (fun _ h_ => h_.1)) (fun _ h_ => h_.1)))) k_ hk_.1), (Kd.freshB (g := gb219) (o := .cells #[.int .i64 t214, .int .i64 t215] 56 (0, 0)) (by (with_reducible repeat (first | refine blk_drewN ?_ _ | refine blk_drew ?_ | refine blk_alloc ?_ _)); refine blk_far ?_ NB219_220.out _; (with_reducible repeat (first | refine blk_drewN ?_ _ | refine blk_drew ?_ | refine blk_alloc ?_ _)); refine blk_far ?_ NB219_220.out _; (with_reducible repeat (first | refine blk_drewN ?_ _ | refine blk_drew ?_ | refine blk_alloc ?_ _)); refine blk_put (cs := #[.int .i64 t214, .int .i64 0]) ?_ 1 _ rfl; (with_reducible repeat (first | refine blk_drewN ?_ _ | refine blk_drew ?_ | refine blk_alloc ?_ _)); refine blk_put (cs := #[.int .i64 0, .int .i64 0]) ?_ 0 _ rfl; (with_reducible repeat (first | refine blk_drewN ?_ _ | refine blk_drew ?_ | refine blk_alloc ?_ _)); exact BK219.out) k_ hk_.1), (Kd.freshB (g := gb220) (o := .cells #[.int .i64 t216, .int .i64 t217] 56 (0, 0)) (by (with_reducible repeat (first | refine blk_drewN ?_ _ | refine blk_drew ?_ | refine blk_alloc ?_ _)); refine blk_put (cs := #[.int .i64 t216, .int .i64 0]) ?_ 1 _ rfl; (with_reducible repeat (first | refine blk_drewN ?_ _ | refine blk_drew ?_ | refine blk_alloc ?_ _)); refine blk_put (cs := #[.int .i64 0, .int .i64 0]) ?_ 0 _ rfl; exact blk_w BK220.out) k_ hk_.1)⟩)) (below_size (by exact below_y HB.out))); replace HO203 := Aside0.mk (Kd.R_elder' (by (with_reducible repeat (first | apply Kd.R_alloc | apply Kd.R_drewN | apply Kd.R_drew)); exact (Kd.R_mono (Kd.R_mono (Kd.R_far (p := ⟨gb220, 1, none⟩) (Kd.R_far (p := ⟨gb220, 0, none⟩) (Kd.R_far (p := ⟨gb219, 1, none⟩) (Kd.R_far (p := ⟨gb219, 0, none⟩) (Kd.R_types (Kd.R_types HO203.out BK219.out (by decide)) BK220.out (by decide)) (fun _ hk => hk.1.2) (.int .i64 t214)) (fun _ hk => hk.1.2) (.int .i64 t215)) (fun _ hk => hk.2) (.int .i64 t216)) (fun _ hk => hk.2) (.int .i64 t217)) (fun _ h_ => h_.1)) (fun _ h_ => h_.1))) (Kd.R_base ho0) hb); replace HO207 := Aside0.mk (Kd.N_mono (Kd.N_told (Kd.N_told (Kd.N_told (Kd.N_old (by (with_reducible repeat (first | apply Kd.N_alloc | apply Kd.N_drewN | apply Kd.N_drew)); exact (Kd.N_mono (Kd.N_mono (Kd.N_far (p := ⟨gb220, 1, none⟩) (Kd.N_far (p := ⟨gb220, 0, none⟩) (Kd.N_far (p := ⟨gb219, 1, none⟩) (Kd.N_far (p := ⟨gb219, 0, none⟩) (Kd.N_mono (Kd.N_mono HO207.out (fun k_ hk => (⟨hk, hk.1.2⟩ : _ ∧ k_ ≠ gb219))) (fun k_ hk => (⟨hk, hk.1.2⟩ : _ ∧ k_ ≠ gb220))) (fun _ hk => hk.1.2) (.int .i64 t214)) (fun _ hk => hk.1.2) (.int .i64 t215)) (fun _ hk => hk.2) (.int .i64 t216)) (fun _ hk => hk.2) (.int .i64 t217)) (fun _ h_ => h_.1)) (fun _ h_ => h_.1))) hb) (Kd.R_base ho0)) (Kd.N_base ho1)) (Kd.R_base ho2)) (fun _ h_ => h_.1)); replace HO213 := Aside0.mk (Kd.R_below (by (with_reducible repeat (first | apply Kd.R_alloc | apply Kd.R_drewN | apply Kd.R_drew)); exact (Kd.R_mono (Kd.R_mono (Kd.R_far (p := ⟨gb220, 1, none⟩) (Kd.R_far (p := ⟨gb220, 0, none⟩) (Kd.R_far (p := ⟨gb219, 1, none⟩) (Kd.R_far (p := ⟨gb219, 0, none⟩) (Kd.R_types (Kd.R_types HO213.out BK219.out (by decide)) BK220.out (by decide)) (fun _ hk => hk.1.2) (.int .i64 t214)) (fun _ hk => hk.1.2) (.int .i64 t215)) (fun _ hk => hk.2) (.int .i64 t216)) (fun _ hk => hk.2) (.int .i64 t217)) (fun _ h_ => h_.1)) (fun _ h_ => h_.1))) hb); have HO233 := Aside0.mk (Kd.R_lower (Kd.R_new' (Kd.R_mono (ok' := fun k_ => True) ho2 (fun _ hk_ => trivial)) (Kd.R_lt (by (with_reducible repeat (first | apply Kd.R_alloc | apply Kd.R_drewN | apply Kd.R_drew)); exact (Kd.R_mono (Kd.R_mono (Kd.R_far (p := ⟨gb220, 1, none⟩) (Kd.R_far (p := ⟨gb220, 0, none⟩) (Kd.R_far (p := ⟨gb219, 1, none⟩) (Kd.R_far (p := ⟨gb219, 0, none⟩) (Kd.R_types (Kd.R_types HO210.out BK219.out (by decide)) BK220.out (by decide)) (fun _ hk => hk.1.2) (.int .i64 t214)) (fun _ hk => hk.1.2) (.int .i64 t215)) (fun _ hk => hk.2) (.int .i64 t216)) (fun _ hk => hk.2) (.int .i64 t217)) (fun _ h_ => h_.1)) (fun _ h_ => h_.1))))) (below_size (by exact below_y HB.out))); replace HO210 := Aside0.mk (Kd.R_elder' (by (with_reducible repeat (first | apply Kd.R_alloc | apply Kd.R_drewN | apply Kd.R_drew)); exact (Kd.R_mono (Kd.R_mono (Kd.R_far (p := ⟨gb220, 1, none⟩) (Kd.R_far (p := ⟨gb220, 0, none⟩) (Kd.R_far (p := ⟨gb219, 1, none⟩) (Kd.R_far (p := ⟨gb219, 0, none⟩) (Kd.R_types (Kd.R_types HO210.out BK219.out (by decide)) BK220.out (by decide)) (fun _ hk => hk.1.2) (.int .i64 t214)) (fun _ hk => hk.1.2) (.int .i64 t215)) (fun _ hk => hk.2) (.int .i64 t216)) (fun _ hk => hk.2) (.int .i64 t217)) (fun _ h_ => h_.1)) (fun _ h_ => h_.1))) (Kd.R_base ho2) hb); replace BK219 := Aside0.mk (blk_below (g := gb219) (o := .cells #[.int .i64 t214, .int .i64 t215] 56 (0, 0)) (by (with_reducible repeat (first | refine blk_drewN ?_ _ | refine blk_drew ?_ | refine blk_alloc ?_ _)); refine blk_far ?_ NB219_220.out _; (with_reducible repeat (first | refine blk_drewN ?_ _ | refine blk_drew ?_ | refine blk_alloc ?_ _)); refine blk_far ?_ NB219_220.out _; (with_reducible repeat (first | refine blk_drewN ?_ _ | refine blk_drew ?_ | refine blk_alloc ?_ _)); refine blk_put (cs := #[.int .i64 t214, .int .i64 0]) ?_ 1 _ rfl; (with_reducible repeat (first | refine blk_drewN ?_ _ | refine blk_drew ?_ | refine blk_alloc ?_ _)); refine blk_put (cs := #[.int .i64 0, .int .i64 0]) ?_ 0 _ rfl; (with_reducible repeat (first | refine blk_drewN ?_ _ | refine blk_drew ?_ | refine blk_alloc ?_ _)); exact BK219.out) hb); replace BK220 := Aside0.mk (blk_below (g := gb220) (o := .cells #[.int .i64 t216, .int .i64 t217] 56 (0, 0)) (by (with_reducible repeat (first | refine blk_drewN ?_ _ | refine blk_drew ?_ | refine blk_alloc ?_ _)); refine blk_put (cs := #[.int .i64 t216, .int .i64 0]) ?_ 1 _ rfl; (with_reducible repeat (first | refine blk_drewN ?_ _ | refine blk_drew ?_ | refine blk_alloc ?_ _)); refine blk_put (cs := #[.int .i64 0, .int .i64 0]) ?_ 0 _ rfl; exact blk_w BK220.out) hb); replace HB := bl_x HB hb; (try clear hb); (try clear hk); (try clear hi); (try clear ho0); (try clear ho1); (try clear ho2)) | ((with_reducible refine gate_dst (N := 19) rfl ?_); (try (refine gate_guard (by rfl) ?_; dsimp only)); refine Kd.R_lit (Kd.int .i64) _ 3 ?hg (N := 19) ?hd (xs := ([0, 1, (-1)] : List Int)) (inner := [.int .i64 0, .int .i64 1, .int .i64 (-1)]) (ok := fun _ => True) (okp := fun _ => True) ?hr ?hp (fun _ hk => hk) trivial (Below.refl _ _) (Nat.le_refl _) (by simp) ?_; (case hd => rfl); (case hg => rfl); (case hr => first | (go_simp; done) | (go_simp; rfl)); (case hp => exact (Reps.one (show Kd.M (Kd.int .i64) _ _ _ 0 [.int .i64 0] from rfl) (Reps.one (show Kd.M (Kd.int .i64) _ _ _ 1 [.int .i64 1] from rfl) (Reps.one (show Kd.M (Kd.int .i64) _ _ _ (-1) [.int .i64 (-1)] from rfl) (Reps.none _ _))))); intro v235 w35 ho36 hb hg_ hnew_; clear hg_ hnew_; (first | rw [← Ny234.out] at ho36 | (simp only [Int.reduceToNat] at ho36; rw [← Ny234.out] at ho36)); replace HO203 := Aside0.mk (Kd.R_below (Kd.R_x HO203.out) hb); replace HO207 := Aside0.mk (Kd.N_elder' (Kd.N_x HO207.out) (Kd.R_base ho36) hb); replace HO210 := Aside0.mk (Kd.R_below (Kd.R_x HO210.out) hb); replace HO226 := Aside0.mk (Kd.R_below (Kd.R_x HO226.out) hb); replace HO230 := Aside0.mk (Kd.N_elder' (Kd.N_x HO230.out) (Kd.R_base ho36) hb); replace HO233 := Aside0.mk (Kd.R_below (Kd.R_x HO233.out) hb); have HO236 := Aside0.mk (Kd.R_lower (Kd.R_new' ho36 (Kd.R_lt (Kd.R_x HO213.out))) (below_size (by exact below_y HB.out))); replace HO213 := Aside0.mk (Kd.R_elder' (Kd.R_x HO213.out) (Kd.R_base ho36) hb); replace BK219 := Aside0.mk (blk_below (blk_x BK219.out) hb); replace BK220 := Aside0.mk (blk_below (blk_x BK220.out) hb); replace HB := bl_x HB hb; clear hb ho36; obtain ⟨Ao37, co37, eo37⟩ := Kd.R_slice HO226.out; subst eo37; obtain ⟨Ao38, co38, eo38⟩ := Kd.N_slice HO230.out; subst eo38; obtain ⟨Ao39, co39, eo39⟩ := Kd.R_slice HO233.out; subst eo39; obtain ⟨Ao40, co40, eo40⟩ := Kd.R_slice HO236.out; subst eo40) | ((with_reducible refine gate_callee (f := 22) rfl ?_); refine goesL_ (some 20) rfl rfl Try.func22 (by kernel_rfl) rfl #[.agg #[.int .i64 t221, .int .i64 t222, .int .i64 t223, .slice Ao37 t224.length co37, .int .i64 t227, .slice Ao38 t228.length co38, .slice Ao39 t231.length co39], .slice Ao40 y234.length co40] rfl (by (try simp only [List.map_toArray, List.map_cons, List.map_nil]); first | done | rfl | (simp only [List.length_drop, List.length_take]; rfl)) ?_; (with_reducible refine (ship_Sail.calls t221 t222 t223 _ _ t224 t227 _ _ t228 _ _ t231 _ _ y234 t237 t238 t241 _ ?side1 ?side2 ?side3 ?side4 ?side5 ?side6 ?side7 ?side8 A4.out).mono ?_); (case side1 => exact Kd.C_y (Kd.R_reads' HO226.out).2.2); (case side2 => exact (Kd.R_reads' HO226.out).2.1); (case side3 => exact Kd.C_y (Kd.N_reads' HO230.out).2.2); (case side4 => exact (Kd.N_reads' HO230.out).2.1); (case side5 => exact Kd.C_y (Kd.R_reads' HO233.out).2.2); (case side6 => exact (Kd.R_reads' HO233.out).2.1); (case side7 => exact Kd.C_y (Kd.R_reads' HO236.out).2.2); (case side8 => exact (Kd.R_reads' HO236.out).2.1); rintro e w41 ⟨v239, rfl, ho0, hb⟩; refine ⟨_, rfl, ?_⟩; replace HO203 := Aside0.mk (Kd.R_below (Kd.R_x HO203.out) hb); replace HO207 := Aside0.mk (Kd.N_elder' (Kd.N_x HO207.out) (Kd.R_base ho0) hb); replace HO210 := Aside0.mk (Kd.R_below (Kd.R_x HO210.out) hb); replace HO213 := Aside0.mk (Kd.R_below (Kd.R_x HO213.out) hb); replace HO226 := Aside0.mk (Kd.R_below (Kd.R_x HO226.out) hb); replace HO230 := Aside0.mk (Kd.N_elder' (Kd.N_x HO230.out) (Kd.R_base ho0) hb); replace HO233 := Aside0.mk (Kd.R_below (Kd.R_x HO233.out) hb); replace HO236 := Aside0.mk (Kd.R_below (Kd.R_x HO236.out) hb); have HO240 := Aside0.mk (Kd.R_lower (Kd.R_newB (Kd.R_newB ho0 (g := gb219) (o := .cells #[.int .i64 t214, .int .i64 t215] 56 (0, 0)) (blk_x BK219.out)) (g := gb220) (o := .cells #[.int .i64 t216, .int .i64 t217] 56 (0, 0)) (blk_x BK220.out)) (below_size (by exact below_y HB.out))); replace BK219 := Aside0.mk (blk_below (blk_x BK219.out) hb); replace BK220 := Aside0.mk (blk_below (blk_x BK220.out) hb); replace HB := bl_x HB hb; (try clear hb); (try clear hk); (try clear hi); (try clear ho0)) | ((with_reducible refine gate_callee (f := 52) rfl ?_); refine goesL_ (some 25) rfl rfl Try.func52 (by kernel_rfl) rfl #[] rfl (by (try simp only [List.map_toArray, List.map_cons, List.map_nil]); first | done | rfl | (simp only [List.length_drop, List.length_take]; rfl)) ?_; (with_reducible refine (swarflaw07_voyage.calls  t242 t243 t244 t245 t248 t249 t252 _ A5.out).mono ?_); rintro e w42 ⟨v246, v250, v253, rfl, ho0, ho1, ho2, hb⟩; refine ⟨_, rfl, ?_⟩; have HO247 := Aside0.mk (Kd.R_lower (Kd.R_new' (Kd.R_new' (Kd.R_mono (ok' := fun k_ => True) ho0 (fun _ hk_ => trivial)) (Kd.R_lt (Kd.R_x HO203.out))) (Kd.R_lt (Kd.R_x HO226.out))) (below_size (by exact below_y HB.out))); have HO251 := Aside0.mk (Kd.N_lower (Kd.N_mono (ok' := fun k_ => some k_ ≠ (v246 : Value).ownBlock ∧ some k_ ≠ (v253 : Value).ownBlock ∧ some k_ ≠ (.slice Ao24 t201.length co24 : Value).ownBlock ∧ some k_ ≠ (.slice Ao25 t205.length co25 : Value).ownBlock ∧ some k_ ≠ (.slice Ao26 t208.length co26 : Value).ownBlock ∧ some k_ ≠ (.slice Ao27 y211.length co27 : Value).ownBlock ∧ some k_ ≠ (.slice Ao37 t224.length co37 : Value).ownBlock ∧ some k_ ≠ (.slice Ao38 t228.length co38 : Value).ownBlock ∧ some k_ ≠ (.slice Ao39 t231.length co39 : Value).ownBlock ∧ some k_ ≠ (.slice Ao40 y234.length co40 : Value).ownBlock ∧ some k_ ≠ (v239 : Value).ownBlock ∧ k_ ≠ gb219 ∧ k_ ≠ gb220) ho1 (fun k_ hk_ => ⟨hk_.2.1, hk_.2.2, (Kd.fresh' (Kd.R_lt (Kd.R_x HO203.out)) k_ hk_.1), (Kd.fresh' (Kd.N_lt (Kd.N_x HO207.out)) k_ hk_.1), (Kd.fresh' (Kd.R_lt (Kd.R_x HO210.out)) k_ hk_.1), (Kd.fresh' (Kd.R_lt (Kd.R_x HO213.out)) k_ hk_.1), (Kd.fresh' (Kd.R_lt (Kd.R_x HO226.out)) k_ hk_.1), (Kd.fresh' (Kd.N_lt (Kd.N_x HO230.out)) k_ hk_.1), (Kd.fresh' (Kd.R_lt (Kd.R_x HO233.out)) k_ hk_.1), (Kd.fresh' (Kd.R_lt (Kd.R_x HO236.out)) k_ hk_.1), (Kd.fresh' (Kd.R_lt (Kd.R_x HO240.out)) k_ hk_.1), (Kd.freshB (g := gb219) (o := .cells #[.int .i64 t214, .int .i64 t215] 56 (0, 0)) (blk_x BK219.out) k_ hk_.1), (Kd.freshB (g := gb220) (o := .cells #[.int .i64 t216, .int .i64 t217] 56 (0, 0)) (blk_x BK220.out) k_ hk_.1)⟩)) (below_size (by exact below_y HB.out))); replace HO203 := Aside0.mk (Kd.R_elder' (Kd.R_x HO203.out) (Kd.R_base ho0) hb); replace HO207 := Aside0.mk (Kd.N_mono (Kd.N_told (Kd.N_told (Kd.N_told (Kd.N_old (Kd.N_x HO207.out) hb) (Kd.R_base ho0)) (Kd.N_base ho1)) (Kd.R_base ho2)) (fun _ h_ => h_.1)); replace HO213 := Aside0.mk (Kd.R_below (Kd.R_x HO213.out) hb); replace HO226 := Aside0.mk (Kd.R_elder' (Kd.R_x HO226.out) (Kd.R_base ho0) hb); replace HO230 := Aside0.mk (Kd.N_mono (Kd.N_told (Kd.N_told (Kd.N_told (Kd.N_old (Kd.N_x HO230.out) hb) (Kd.R_base ho0)) (Kd.N_base ho1)) (Kd.R_base ho2)) (fun _ h_ => h_.1)); replace HO236 := Aside0.mk (Kd.R_below (Kd.R_x HO236.out) hb); replace HO240 := Aside0.mk (Kd.R_below (Kd.R_x HO240.out) hb); have HO254 := Aside0.mk (Kd.R_lower (Kd.R_new' (Kd.R_new' (Kd.R_mono (ok' := fun k_ => True) ho2 (fun _ hk_ => trivial)) (Kd.R_lt (Kd.R_x HO210.out))) (Kd.R_lt (Kd.R_x HO233.out))) (below_size (by exact below_y HB.out))); replace HO210 := Aside0.mk (Kd.R_elder' (Kd.R_x HO210.out) (Kd.R_base ho2) hb); replace HO233 := Aside0.mk (Kd.R_elder' (Kd.R_x HO233.out) (Kd.R_base ho2) hb); replace BK219 := Aside0.mk (blk_below (blk_x BK219.out) hb); replace BK220 := Aside0.mk (blk_below (blk_x BK220.out) hb); replace HB := bl_x HB hb; (try clear hb); (try clear hk); (try clear hi); (try clear ho0); (try clear ho1); (try clear ho2); obtain ⟨Ao43, co43, eo43⟩ := Kd.R_slice HO247.out; subst eo43; obtain ⟨Ao44, co44, eo44⟩ := Kd.N_slice HO251.out; subst eo44; obtain ⟨Ao45, co45, eo45⟩ := Kd.R_slice HO254.out; subst eo45) | ((with_reducible refine gate_callee (f := 28) rfl ?_); refine goesL_ (some 26) rfl rfl Try.func28 (by kernel_rfl) rfl #[.agg #[.int .i64 t242, .int .i64 t243, .int .i64 t244, .slice Ao43 t245.length co43, .int .i64 t248, .slice Ao44 t249.length co44, .slice Ao45 t252.length co45]] rfl (by (try simp only [List.map_toArray, List.map_cons, List.map_nil]); first | done | rfl | (simp only [List.length_drop, List.length_take]; rfl)) ?_; (with_reducible refine (ship_Best.calls t242 t243 t244 _ _ t245 t248 _ _ t249 _ _ t252 t255 t258 t259 _ ?side1 ?side2 ?side3 ?side4 ?side5 ?side6 A6.out).mono ?_); (case side1 => exact Kd.C_y (Kd.R_reads' HO247.out).2.2); (case side2 => exact (Kd.R_reads' HO247.out).2.1); (case side3 => exact Kd.C_y (Kd.N_reads' HO251.out).2.2); (case side4 => exact (Kd.N_reads' HO251.out).2.1); (case side5 => exact Kd.C_y (Kd.R_reads' HO254.out).2.2); (case side6 => exact (Kd.R_reads' HO254.out).2.1); rintro e w46 ⟨v256, rfl, ho0, hb⟩; refine ⟨_, rfl, ?_⟩; replace HO203 := Aside0.mk (Kd.R_below (Kd.R_x HO203.out) hb); replace HO207 := Aside0.mk (Kd.N_elder' (Kd.N_x HO207.out) (Kd.R_base ho0) hb); replace HO210 := Aside0.mk (Kd.R_below (Kd.R_x HO210.out) hb); replace HO226 := Aside0.mk (Kd.R_below (Kd.R_x HO226.out) hb); replace HO230 := Aside0.mk (Kd.N_elder' (Kd.N_x HO230.out) (Kd.R_base ho0) hb); replace HO233 := Aside0.mk (Kd.R_below (Kd.R_x HO233.out) hb); replace HO240 := Aside0.mk (Kd.R_below (Kd.R_x HO240.out) hb); replace HO247 := Aside0.mk (Kd.R_below (Kd.R_x HO247.out) hb); replace HO251 := Aside0.mk (Kd.N_elder' (Kd.N_x HO251.out) (Kd.R_base ho0) hb); replace HO254 := Aside0.mk (Kd.R_below (Kd.R_x HO254.out) hb); have HO257 := Aside0.mk (Kd.R_lower (Kd.R_new' (Kd.R_new' ho0 (Kd.R_lt (Kd.R_x HO213.out))) (Kd.R_lt (Kd.R_x HO236.out))) (below_size (by exact below_y HB.out))); replace HO213 := Aside0.mk (Kd.R_elder' (Kd.R_x HO213.out) (Kd.R_base ho0) hb); replace HO236 := Aside0.mk (Kd.R_elder' (Kd.R_x HO236.out) (Kd.R_base ho0) hb); replace BK219 := Aside0.mk (blk_below (blk_x BK219.out) hb); replace BK220 := Aside0.mk (blk_below (blk_x BK220.out) hb); replace HB := bl_x HB hb; (try clear hb); (try clear hk); (try clear hi); (try clear ho0)))
         replace HO203 := Aside0.mk (Kd.R_drew HO203.out)
         replace HO207 := Aside0.mk (Kd.N_drew HO207.out)
         replace HO210 := Aside0.mk (Kd.R_drew HO210.out)
         replace HO213 := Aside0.mk (Kd.R_drew HO213.out)
         replace HO226 := Aside0.mk (Kd.R_drew HO226.out)
         replace HO230 := Aside0.mk (Kd.N_drew HO230.out)
         replace HO233 := Aside0.mk (Kd.R_drew HO233.out)
         replace HO236 := Aside0.mk (Kd.R_drew HO236.out)
         replace HO240 := Aside0.mk (Kd.R_drew HO240.out)
         replace HO247 := Aside0.mk (Kd.R_drew HO247.out)
         replace HO251 := Aside0.mk (Kd.N_drew HO251.out)
         replace HO254 := Aside0.mk (Kd.R_drew HO254.out)
         replace HO257 := Aside0.mk (Kd.R_drew HO257.out)
         replace BK219 := Aside0.mk (blk_drew BK219.out)
         replace BK220 := Aside0.mk (blk_drew BK220.out)
         replace HB := Aside0.mk (below_drew1 HB.out)
         refine start_ (n := 41) (S := fun w' => w'.cell? ⟨gb219, 0, none⟩ = some (.int .i64 t214) ∧ w'.cell? ⟨gb219, 1, none⟩ = some (.int .i64 t215) ∧ w'.cell? ⟨gb220, 0, none⟩ = some (.int .i64 t216) ∧ w'.cell? ⟨gb220, 1, none⟩ = some (.int .i64 t217)) (ds := []) #[false, false, false, false, false, false, false, false, false, false, false, false, false, false, false, false, false, false, false, false, false, false, false, false, false, false, false, false, false, false, false, false, false, false, false, false, false, false, false, false, false] (by kernel_rfl) rfl rfl ⟨(blk_cell BK219.out 0).trans rfl, (blk_cell BK219.out 1).trans rfl, (blk_cell BK220.out 0).trans rfl, (blk_cell BK220.out 1).trans rfl⟩ (fun hHeld => ?_); refine with_tabW swarflaw07_awake.tab4 swarflaw07_awake.bits4 (fun HT_ HW_ => ?_)
         generalize w46.drew = w47 at HO203 HO207 HO210 HO213 HO226 HO230 HO233 HO236 HO240 HO247 HO251 HO254 HO257 BK219 BK220 HB hHeld ⊢
         refine pure_t 0 (some 30) (bz 41 1) HT_ ?_
         refine pure_t 1 (some 31) (bz 41 3) HT_ ?_
         refine pure_t 2 (some 32) (bz 41 7) HT_ ?_
         refine pure_t 3 (some 33) (bz 41 15) HT_ ?_
         refine pure_t 4 (some 34) (bz 41 31) HT_ ?_
         refine pure_t 5 (some 35) (bz 41 63) HT_ ?_
         refine pure_t 6 (some 36) (bz 41 127) HT_ ?_
         refine pure_t 7 (some 37) (bz 41 255) HT_ ?_
         refine pure_t 8 (some 38) (bz 41 511) HT_ ?_
         refine pure_t 9 (some 39) (bz 41 1023) HT_ ?_
         refine pure_t 10 (some 40) (bz 41 2047) HT_ ?_
         refine take_ (i := 11) (N := some 41) (v := ?_) (a' := ?_) (bz 41 4095) rfl rfl (take_ofW HT_.out HW_.out (by kernel_rfl)) (fun _ _ _ h => h) (Or.inl ⟨by rfl, ?_⟩) hHeld ?_ ?_
         rotate_left; (rintro w' ⟨s0, s1, s2, s3⟩; go_simp; with_reducible rfl); rotate_left; (simp only [Act.put, put_x, i64_w, i32_w]; rfl)
         refine one_ (i := 12) (N := some 42) (bz 41 8191) rfl rfl (one_of HT_.out (by kernel_rfl)) (by decide) (fun K hK => ?_)
         refine goes_ Try.func32 (by kernel_rfl) rfl #[.int .i64 1290000, .int .i64 1340000] (by rfl) rfl rfl (by (try simp only [List.map_toArray, List.map_cons, List.map_nil]); first | done | rfl | (simp only [List.length_drop, List.length_take]; rfl)) ?_
         with_reducible refine (swarflaw07_rng.calls 1290000 1340000 t260 t261 _ A10.out).mono ?_
         rintro e w48 ⟨rfl, hb⟩
         refine ⟨_, rfl, ?_⟩
         replace HO203 := Aside0.mk (Kd.R_below (Kd.R_x HO203.out) hb)
         replace HO207 := Aside0.mk (Kd.N_below (Kd.N_x HO207.out) hb)
         replace HO210 := Aside0.mk (Kd.R_below (Kd.R_x HO210.out) hb)
         replace HO213 := Aside0.mk (Kd.R_below (Kd.R_x HO213.out) hb)
         replace HO226 := Aside0.mk (Kd.R_below (Kd.R_x HO226.out) hb)
         replace HO230 := Aside0.mk (Kd.N_below (Kd.N_x HO230.out) hb)
         replace HO233 := Aside0.mk (Kd.R_below (Kd.R_x HO233.out) hb)
         replace HO236 := Aside0.mk (Kd.R_below (Kd.R_x HO236.out) hb)
         replace HO240 := Aside0.mk (Kd.R_below (Kd.R_x HO240.out) hb)
         replace HO247 := Aside0.mk (Kd.R_below (Kd.R_x HO247.out) hb)
         replace HO251 := Aside0.mk (Kd.N_below (Kd.N_x HO251.out) hb)
         replace HO254 := Aside0.mk (Kd.R_below (Kd.R_x HO254.out) hb)
         replace HO257 := Aside0.mk (Kd.R_below (Kd.R_x HO257.out) hb)
         replace BK219 := Aside0.mk (blk_below (blk_x BK219.out) hb)
         replace BK220 := Aside0.mk (blk_below (blk_x BK220.out) hb)
         replace HB := bl_x HB hb
         (try clear hb)
         (try clear hb2)
         (try clear hk)
         (try clear hi)
         refine hK.out _ _ ⟨(blk_cell BK219.out 0).trans rfl, (blk_cell BK219.out 1).trans rfl, (blk_cell BK220.out 0).trans rfl, (blk_cell BK220.out 1).trans rfl⟩ (fun hHeld => ?_)
         clear hK K
         refine norm_ (a' := ?_) ?_ ?_; rotate_left; (show Act.put _ (some 42) _ = _; simp only [Act.put, put_x, i64_w, i32_w]; rfl)
         refine pure_t 13 (some 43) (bz 41 16383) HT_ ?_
         refine pure_t 14 (some 44) (bz 41 32767) HT_ ?_
         refine pure_t 15 (some 45) (bz 41 65535) HT_ ?_
         refine take_ (i := 16) (N := some 46) (v := ?_) (a' := ?_) (bz 41 131071) rfl rfl (take_ofW HT_.out HW_.out (by kernel_rfl)) (fun _ _ _ h => h) (Or.inl ⟨by rfl, ?_⟩) hHeld ?_ ?_
         rotate_left; (rintro w' ⟨s0, s1, s2, s3⟩; go_simp; with_reducible rfl); rotate_left; (simp only [Act.put, put_x, i64_w, i32_w]; rfl)
         refine one_ (i := 17) (N := some 47) (bz 41 262143) rfl rfl (one_of HT_.out (by kernel_rfl)) (by decide) (fun K hK => ?_)
         refine goes_ Try.func32 (by kernel_rfl) rfl #[.int .i64 1260000, .int .i64 1310000] (by rfl) rfl rfl (by (try simp only [List.map_toArray, List.map_cons, List.map_nil]); first | done | rfl | (simp only [List.length_drop, List.length_take]; rfl)) ?_
         with_reducible refine (swarflaw07_rng.calls 1260000 1310000 t262 t263 _ A12.out).mono ?_
         rintro e w49 ⟨rfl, hb⟩
         refine ⟨_, rfl, ?_⟩
         replace HO203 := Aside0.mk (Kd.R_below (Kd.R_x HO203.out) hb)
         replace HO207 := Aside0.mk (Kd.N_below (Kd.N_x HO207.out) hb)
         replace HO210 := Aside0.mk (Kd.R_below (Kd.R_x HO210.out) hb)
         replace HO213 := Aside0.mk (Kd.R_below (Kd.R_x HO213.out) hb)
         replace HO226 := Aside0.mk (Kd.R_below (Kd.R_x HO226.out) hb)
         replace HO230 := Aside0.mk (Kd.N_below (Kd.N_x HO230.out) hb)
         replace HO233 := Aside0.mk (Kd.R_below (Kd.R_x HO233.out) hb)
         replace HO236 := Aside0.mk (Kd.R_below (Kd.R_x HO236.out) hb)
         replace HO240 := Aside0.mk (Kd.R_below (Kd.R_x HO240.out) hb)
         replace HO247 := Aside0.mk (Kd.R_below (Kd.R_x HO247.out) hb)
         replace HO251 := Aside0.mk (Kd.N_below (Kd.N_x HO251.out) hb)
         replace HO254 := Aside0.mk (Kd.R_below (Kd.R_x HO254.out) hb)
         replace HO257 := Aside0.mk (Kd.R_below (Kd.R_x HO257.out) hb)
         replace BK219 := Aside0.mk (blk_below (blk_x BK219.out) hb)
         replace BK220 := Aside0.mk (blk_below (blk_x BK220.out) hb)
         replace HB := bl_x HB hb
         (try clear hb)
         (try clear hb2)
         (try clear hk)
         (try clear hi)
         refine hK.out _ _ ⟨(blk_cell BK219.out 0).trans rfl, (blk_cell BK219.out 1).trans rfl, (blk_cell BK220.out 0).trans rfl, (blk_cell BK220.out 1).trans rfl⟩ (fun hHeld => ?_)
         clear hK K
         refine norm_ (a' := ?_) ?_ ?_; rotate_left; (show Act.put _ (some 47) _ = _; simp only [Act.put, put_x, i64_w, i32_w]; rfl)
         refine pure_t 18 (some 48) (bz 41 524287) HT_ ?_
         refine pure_t 19 (some 49) (bz 41 1048575) HT_ ?_
         refine pure_t 20 (some 50) (bz 41 2097151) HT_ ?_
         refine pure_t 21 (some 51) (bz 41 4194303) HT_ ?_
         refine pure_t 22 (some 52) (bz 41 8388607) HT_ ?_
         refine pure_t 23 (some 53) (bz 41 16777215) HT_ ?_
         refine pure_t 24 (some 54) (bz 41 33554431) HT_ ?_
         refine pure_t 25 (some 55) (bz 41 67108863) HT_ ?_
         refine pure_t 26 (some 56) (bz 41 134217727) HT_ ?_
         refine pure_t 27 (some 57) (bz 41 268435455) HT_ ?_
         refine pure_t 28 (some 58) (bz 41 536870911) HT_ ?_
         refine pure_t 29 (some 59) (bz 41 1073741823) HT_ ?_
         refine one_ (i := 30) (N := some 60) (bz 41 2147483647) rfl rfl (one_of HT_.out (by kernel_rfl)) (by decide) (fun K hK => ?_)
         refine Kd.R_lit_step (Kd.int .i64) _ 3 ?hg (N := 60) ?hd (xs := ([0, (-1), 1] : List Int)) (inner := [.int .i64 0, .int .i64 (-1), .int .i64 1]) (ok := fun _ => True) (okp := fun _ => True) ?hr ?hp (fun _ hk => hk) trivial (Below.refl _ _) (Nat.le_refl _) (by simp) ?_; (case hd => rfl); (case hg => rfl); (case hr => first | (go_simp; done) | (go_simp; rfl)); (case hp => exact (Reps.one (show Kd.M (Kd.int .i64) _ _ _ 0 [.int .i64 0] from rfl) (Reps.one (show Kd.M (Kd.int .i64) _ _ _ (-1) [.int .i64 (-1)] from rfl) (Reps.one (show Kd.M (Kd.int .i64) _ _ _ 1 [.int .i64 1] from rfl) (Reps.none _ _)))))
         intro v265 w50 ho51 hb hg_ hnew_
         clear hg_ hnew_
         (first | rw [← Ny264.out] at ho51 | (simp only [Int.reduceToNat] at ho51; rw [← Ny264.out] at ho51))
         replace HO203 := Aside0.mk (Kd.R_below (Kd.R_x HO203.out) hb)
         replace HO207 := Aside0.mk (Kd.N_elder' (Kd.N_x HO207.out) (Kd.R_base ho51) hb)
         replace HO210 := Aside0.mk (Kd.R_below (Kd.R_x HO210.out) hb)
         replace HO226 := Aside0.mk (Kd.R_below (Kd.R_x HO226.out) hb)
         replace HO230 := Aside0.mk (Kd.N_elder' (Kd.N_x HO230.out) (Kd.R_base ho51) hb)
         replace HO233 := Aside0.mk (Kd.R_below (Kd.R_x HO233.out) hb)
         replace HO240 := Aside0.mk (Kd.R_below (Kd.R_x HO240.out) hb)
         replace HO247 := Aside0.mk (Kd.R_below (Kd.R_x HO247.out) hb)
         replace HO251 := Aside0.mk (Kd.N_elder' (Kd.N_x HO251.out) (Kd.R_base ho51) hb)
         replace HO254 := Aside0.mk (Kd.R_below (Kd.R_x HO254.out) hb)
         have HO266 := Aside0.mk (Kd.R_lower (Kd.R_new' (Kd.R_new' (Kd.R_new' ho51 (Kd.R_lt (Kd.R_x HO213.out))) (Kd.R_lt (Kd.R_x HO236.out))) (Kd.R_lt (Kd.R_x HO257.out))) (below_size (by exact below_y HB.out)))
         replace HO213 := Aside0.mk (Kd.R_elder' (Kd.R_x HO213.out) (Kd.R_base ho51) hb)
         replace HO236 := Aside0.mk (Kd.R_elder' (Kd.R_x HO236.out) (Kd.R_base ho51) hb)
         replace HO257 := Aside0.mk (Kd.R_elder' (Kd.R_x HO257.out) (Kd.R_base ho51) hb)
         replace BK219 := Aside0.mk (blk_below (blk_x BK219.out) hb)
         replace BK220 := Aside0.mk (blk_below (blk_x BK220.out) hb)
         replace HB := bl_x HB hb
         clear hb ho51
         obtain ⟨Ao52, co52, eo52⟩ := Kd.R_slice HO257.out
         (first | subst eo52 | (injection eo52 with f1_ f2_ f3_; have f4_ := f1_.symm; have f5_ := f3_.symm; clear f1_ f2_ f3_; subst f4_; subst f5_))
         obtain ⟨Ao53, co53, eo53⟩ := Kd.R_slice HO266.out
         (first | subst eo53 | (injection eo53 with f1_ f2_ f3_; have f4_ := f1_.symm; have f5_ := f3_.symm; clear f1_ f2_ f3_; subst f4_; subst f5_))
         refine hK.out _ _ ⟨(blk_cell BK219.out 0).trans rfl, (blk_cell BK219.out 1).trans rfl, (blk_cell BK220.out 0).trans rfl, (blk_cell BK220.out 1).trans rfl⟩ (fun hHeld => ?_)
         clear hK K
         refine norm_ (a' := ?_) ?_ ?_; rotate_left; (show Act.put _ (some 60) _ = _; simp only [Act.put, put_x, i64_w, i32_w]; rfl)
         refine one_ (i := 31) (N := some 61) (bz 41 4294967295) rfl rfl (one_of HT_.out (by kernel_rfl)) (by decide) (fun K hK => ?_)
         refine goes_ Try.func26 (by kernel_rfl) rfl #[.slice Ao52 t255.length co52, .slice Ao53 y264.length co53] (by rfl) rfl rfl (by (try simp only [List.map_toArray, List.map_cons, List.map_nil]); first | done | rfl | (simp only [List.length_drop, List.length_take]; rfl)) ?_
         with_reducible refine (swarfkit_EqualInts.calls k _ _ t255 _ _ y264 true _ ?side1 ?side2 ?side3 ?side4 A16.out).mono ?_
         (case side1 => exact Kd.C_y (Kd.R_reads' HO257.out).2.2)
         (case side2 => exact (Kd.R_reads' HO257.out).2.1)
         (case side3 => exact Kd.C_y (Kd.R_reads' HO266.out).2.2)
         (case side4 => exact (Kd.R_reads' HO266.out).2.1)
         rintro e w' ⟨rfl, ⟨nd, rfl⟩⟩
         refine ⟨_, rfl, ?_⟩
         refine hK.out _ _ ⟨(blk_cell BK219.out 0).trans rfl, (blk_cell BK219.out 1).trans rfl, (blk_cell BK220.out 0).trans rfl, (blk_cell BK220.out 1).trans rfl⟩ (fun hHeld => ?_)
         clear hK K
         refine norm_ (a' := ?_) ?_ ?_; rotate_left; (show Act.put _ (some 61) _ = _; simp only [Act.put, put_x, i64_w, i32_w]; rfl)
         refine pure_t 32 (some 62) (bz 41 8589934591) HT_ ?_
         refine pure_t 33 (some 63) (bz 41 17179869183) HT_ ?_
         refine pure_t 34 (some 64) (bz 41 34359738367) HT_ ?_
         refine one_ (i := 35) (N := some 65) (bz 41 68719476735) rfl rfl (one_of HT_.out (by kernel_rfl)) (by decide) (fun K hK => ?_)
         refine goes_ Try.func32 (by kernel_rfl) rfl #[.int .i64 90, .int .i64 100] (by rfl) rfl rfl (by (try simp only [List.map_toArray, List.map_cons, List.map_nil]); first | done | rfl | (simp only [List.length_drop, List.length_take]; rfl)) ?_
         with_reducible refine (swarflaw07_rng.calls 90 100 t268 t269 _ A18.out).mono ?_
         rintro e w54 ⟨rfl, hb⟩
         refine ⟨_, rfl, ?_⟩
         replace HO203 := Aside0.mk (Kd.R_below (Kd.R_x HO203.out) hb)
         replace HO207 := Aside0.mk (Kd.N_below (Kd.N_x HO207.out) hb)
         replace HO210 := Aside0.mk (Kd.R_below (Kd.R_x HO210.out) hb)
         replace HO213 := Aside0.mk (Kd.R_below (Kd.R_x HO213.out) hb)
         replace HO226 := Aside0.mk (Kd.R_below (Kd.R_x HO226.out) hb)
         replace HO230 := Aside0.mk (Kd.N_below (Kd.N_x HO230.out) hb)
         replace HO233 := Aside0.mk (Kd.R_below (Kd.R_x HO233.out) hb)
         replace HO236 := Aside0.mk (Kd.R_below (Kd.R_x HO236.out) hb)
         replace HO240 := Aside0.mk (Kd.R_below (Kd.R_x HO240.out) hb)
         replace HO247 := Aside0.mk (Kd.R_below (Kd.R_x HO247.out) hb)
         replace HO251 := Aside0.mk (Kd.N_below (Kd.N_x HO251.out) hb)
         replace HO254 := Aside0.mk (Kd.R_below (Kd.R_x HO254.out) hb)
         replace HO257 := Aside0.mk (Kd.R_below (Kd.R_x HO257.out) hb)
         replace HO266 := Aside0.mk (Kd.R_below (Kd.R_x HO266.out) hb)
         replace BK219 := Aside0.mk (blk_below (blk_x BK219.out) hb)
         replace BK220 := Aside0.mk (blk_below (blk_x BK220.out) hb)
         replace HB := bl_x HB hb
         (try clear hb)
         (try clear hb2)
         (try clear hk)
         (try clear hi)
         refine hK.out _ _ ⟨(blk_cell BK219.out 0).trans rfl, (blk_cell BK219.out 1).trans rfl, (blk_cell BK220.out 0).trans rfl, (blk_cell BK220.out 1).trans rfl⟩ (fun hHeld => ?_)
         clear hK K
         refine norm_ (a' := ?_) ?_ ?_; rotate_left; (show Act.put _ (some 65) _ = _; simp only [Act.put, put_x, i64_w, i32_w]; rfl)
         refine one_ (i := 36) (N := some 66) (bz 41 137438953471) rfl rfl (one_of HT_.out (by kernel_rfl)) (by decide) (fun K hK => ?_)
         refine goes_ Try.func32 (by kernel_rfl) rfl #[.int .i64 240, .int .i64 250] (by rfl) rfl rfl (by (try simp only [List.map_toArray, List.map_cons, List.map_nil]); first | done | rfl | (simp only [List.length_drop, List.length_take]; rfl)) ?_
         with_reducible refine (swarflaw07_rng.calls 240 250 t270 t271 _ A19.out).mono ?_
         rintro e w55 ⟨rfl, hb⟩
         refine ⟨_, rfl, ?_⟩
         replace HO203 := Aside0.mk (Kd.R_below (Kd.R_x HO203.out) hb)
         replace HO207 := Aside0.mk (Kd.N_below (Kd.N_x HO207.out) hb)
         replace HO210 := Aside0.mk (Kd.R_below (Kd.R_x HO210.out) hb)
         replace HO213 := Aside0.mk (Kd.R_below (Kd.R_x HO213.out) hb)
         replace HO226 := Aside0.mk (Kd.R_below (Kd.R_x HO226.out) hb)
         replace HO230 := Aside0.mk (Kd.N_below (Kd.N_x HO230.out) hb)
         replace HO233 := Aside0.mk (Kd.R_below (Kd.R_x HO233.out) hb)
         replace HO236 := Aside0.mk (Kd.R_below (Kd.R_x HO236.out) hb)
         replace HO240 := Aside0.mk (Kd.R_below (Kd.R_x HO240.out) hb)
         replace HO247 := Aside0.mk (Kd.R_below (Kd.R_x HO247.out) hb)
         replace HO251 := Aside0.mk (Kd.N_below (Kd.N_x HO251.out) hb)
         replace HO254 := Aside0.mk (Kd.R_below (Kd.R_x HO254.out) hb)
         replace HO257 := Aside0.mk (Kd.R_below (Kd.R_x HO257.out) hb)
         replace HO266 := Aside0.mk (Kd.R_below (Kd.R_x HO266.out) hb)
         replace BK219 := Aside0.mk (blk_below (blk_x BK219.out) hb)
         replace BK220 := Aside0.mk (blk_below (blk_x BK220.out) hb)
         replace HB := bl_x HB hb
         (try clear hb)
         (try clear hb2)
         (try clear hk)
         (try clear hi)
         refine hK.out _ _ ⟨(blk_cell BK219.out 0).trans rfl, (blk_cell BK219.out 1).trans rfl, (blk_cell BK220.out 0).trans rfl, (blk_cell BK220.out 1).trans rfl⟩ (fun hHeld => ?_)
         clear hK K
         refine norm_ (a' := ?_) ?_ ?_; rotate_left; (show Act.put _ (some 66) _ = _; simp only [Act.put, put_x, i64_w, i32_w]; rfl)
         refine one_ (i := 37) (N := some 67) (bz 41 274877906943) rfl rfl (one_of HT_.out (by kernel_rfl)) (by decide) (fun K hK => ?_)
         refine Kd.R_lit_step k56 _ 56 ?hg (N := 67) ?hd (xs := ([(⟨t268, t269⟩ : S56), (⟨t270, t271⟩ : S56)] : List (S56))) (inner := [.int .i64 t268, .int .i64 t269, .int .i64 t270, .int .i64 t271]) (ok := fun _ => True) (okp := fun _ => True) ?hr ?hp (fun _ hk => hk) trivial (Below.refl _ _) (Nat.le_refl _) (by simp) ?_; (case hd => rfl); (case hg => rfl); (case hr => first | (go_simp; done) | (go_simp; rfl)); (case hp => exact (Reps.c2 (show Kd.M k56 _ _ _ (⟨t268, t269⟩ : S56) [.int .i64 t268, .int .i64 t269] from (k56_mkM _ _ _ (⟨t268, t269⟩ : S56) )) (Reps.c2 (show Kd.M k56 _ _ _ (⟨t270, t271⟩ : S56) [.int .i64 t270, .int .i64 t271] from (k56_mkM _ _ _ (⟨t270, t271⟩ : S56) )) (Reps.none _ _))))
         intro v273 w56 ho57 hb hg_ hnew_
         clear hg_ hnew_
         (first | rw [← Ny272.out] at ho57 | (simp only [Int.reduceToNat] at ho57; rw [← Ny272.out] at ho57))
         replace HO203 := Aside0.mk (Kd.R_below (Kd.R_x HO203.out) hb)
         replace HO207 := Aside0.mk (Kd.N_elder' (Kd.N_x HO207.out) (Kd.R_base ho57) hb)
         replace HO210 := Aside0.mk (Kd.R_below (Kd.R_x HO210.out) hb)
         replace HO213 := Aside0.mk (Kd.R_below (Kd.R_x HO213.out) hb)
         replace HO226 := Aside0.mk (Kd.R_below (Kd.R_x HO226.out) hb)
         replace HO230 := Aside0.mk (Kd.N_elder' (Kd.N_x HO230.out) (Kd.R_base ho57) hb)
         replace HO233 := Aside0.mk (Kd.R_below (Kd.R_x HO233.out) hb)
         replace HO236 := Aside0.mk (Kd.R_below (Kd.R_x HO236.out) hb)
         replace HO247 := Aside0.mk (Kd.R_below (Kd.R_x HO247.out) hb)
         replace HO251 := Aside0.mk (Kd.N_elder' (Kd.N_x HO251.out) (Kd.R_base ho57) hb)
         replace HO254 := Aside0.mk (Kd.R_below (Kd.R_x HO254.out) hb)
         replace HO257 := Aside0.mk (Kd.R_below (Kd.R_x HO257.out) hb)
         replace HO266 := Aside0.mk (Kd.R_below (Kd.R_x HO266.out) hb)
         have HO274 := Aside0.mk (Kd.R_lower (Kd.R_newB (Kd.R_newB (Kd.R_new' ho57 (Kd.R_lt (Kd.R_x HO240.out))) (g := gb219) (o := .cells #[.int .i64 t214, .int .i64 t215] 56 (0, 0)) (blk_x BK219.out)) (g := gb220) (o := .cells #[.int .i64 t216, .int .i64 t217] 56 (0, 0)) (blk_x BK220.out)) (below_size (by exact below_y HB.out)))
         replace HO240 := Aside0.mk (Kd.R_elder' (Kd.R_x HO240.out) (Kd.R_base ho57) hb)
         replace BK219 := Aside0.mk (blk_below (blk_x BK219.out) hb)
         replace BK220 := Aside0.mk (blk_below (blk_x BK220.out) hb)
         replace HB := bl_x HB hb
         clear hb ho57
         obtain ⟨Ao58, co58, eo58⟩ := Kd.R_slice HO240.out
         (first | subst eo58 | (injection eo58 with f1_ f2_ f3_; have f4_ := f1_.symm; have f5_ := f3_.symm; clear f1_ f2_ f3_; subst f4_; subst f5_))
         obtain ⟨Ao59, co59, eo59⟩ := Kd.R_slice HO274.out
         (first | subst eo59 | (injection eo59 with f1_ f2_ f3_; have f4_ := f1_.symm; have f5_ := f3_.symm; clear f1_ f2_ f3_; subst f4_; subst f5_))
         refine hK.out _ _ ⟨(blk_cell BK219.out 0).trans rfl, (blk_cell BK219.out 1).trans rfl, (blk_cell BK220.out 0).trans rfl, (blk_cell BK220.out 1).trans rfl⟩ (fun hHeld => ?_)
         clear hK K
         refine norm_ (a' := ?_) ?_ ?_; rotate_left; (show Act.put _ (some 67) _ = _; simp only [Act.put, put_x, i64_w, i32_w]; rfl)
         refine one_ (i := 38) (N := some 68) (bz 41 549755813887) rfl rfl (one_of HT_.out (by kernel_rfl)) (by decide) (fun K hK => ?_)
         refine goes_ Try.func24 (by kernel_rfl) rfl #[.slice Ao58 t238.length co58, .slice Ao59 y272.length co59] (by rfl) rfl rfl (by (try simp only [List.map_toArray, List.map_cons, List.map_nil]); first | done | rfl | (simp only [List.length_drop, List.length_take]; rfl)) ?_
         with_reducible refine (swarfkit_EqualRanges.calls k _ _ t238 _ _ y272 t275 _ ?side1 ?side2 ?side3 ?side4 A20.out).mono ?_
         (case side1 => exact Kd.C_y (Kd.R_reads' HO240.out).2.2)
         (case side2 => exact (Kd.R_reads' HO240.out).2.1)
         (case side3 => exact Kd.C_y (Kd.R_reads' HO274.out).2.2)
         (case side4 => exact (Kd.R_reads' HO274.out).2.1)
         rintro e w' ⟨rfl, ⟨nd, rfl⟩⟩
         refine ⟨_, rfl, ?_⟩
         refine hK.out _ _ ⟨(blk_cell BK219.out 0).trans rfl, (blk_cell BK219.out 1).trans rfl, (blk_cell BK220.out 0).trans rfl, (blk_cell BK220.out 1).trans rfl⟩ (fun hHeld => ?_)
         clear hK K
         refine norm_ (a' := ?_) ?_ ?_; rotate_left; (show Act.put _ (some 68) _ = _; simp only [Act.put, put_x, i64_w, i32_w]; rfl)
         refine pure_t 39 (some 69) (bz 41 1099511627775) HT_ ?_
         refine pure_t 40 (some 0) (bz 41 2199023255551) HT_ ?_
         refine done_ (done_of HT_.out (by kernel_rfl)) ?_
         try go_wp2
         go_ret
         exact ⟨by first | rfl | (simp [errW_none, errW_some] <;> rfl) | (simp [*, errW_none, errW_some] <;> rfl), by exact below_y HB.out⟩
        ·
         replace c17 := Bool.eq_false_iff.mpr c17
         subst c17
         have H1 : (some false) = some r := by rw [if_neg (show ¬ (false = true) by decide)] at H; exact H
         clear H
         have H := H1
         clear H1
         exact absurd ((Option.some.inj H).trans hrt.out) (by decide)
       ·
        rw [if_neg c15] at H
        have c15b0 : (t258 == 95) = false := beq_eq_false_iff_ne.mpr c15
        have c15b1 : (t258 != 95) = true := bne_iff_ne.mpr c15
        exact absurd ((Option.some.inj H).trans hrt.out) (by decide)
      ·
       rw [if_neg c14] at H
       have c14b0 : (t237 == 1) = false := beq_eq_false_iff_ne.mpr c14
       have c14b1 : (t237 != 1) = true := bne_iff_ne.mpr c14
       exact absurd ((Option.some.inj H).trans hrt.out) (by decide)
     ·
      rw [if_neg c13] at H
      have c13b0 : (t216 == t262 && (t217 == t263)) = false := by simpa using c13
      (try (have c13b1 : decide (t216 = t262 && (t217 == t263)) = false := by simpa using c13))
      (try (have c13b2 : (t216 == t262 && (t217 == t263)) = false := by simpa using c13))
      (try (have c13b3 : ¬ (t216 = t262 && (t217 == t263)) := by simpa using c13))
      clear c13
      exact absurd ((Option.some.inj H).trans hrt.out) (by decide)
    ·
     rw [if_neg c11] at H
     have c11b0 : (t214 == t260 && (t215 == t261)) = false := by simpa using c11
     (try (have c11b1 : decide (t214 = t260 && (t215 == t261)) = false := by simpa using c11))
     (try (have c11b2 : (t214 == t260 && (t215 == t261)) = false := by simpa using c11))
     (try (have c11b3 : ¬ (t214 = t260 && (t215 == t261)) := by simpa using c11))
     clear c11
     exact absurd ((Option.some.inj H).trans hrt.out) (by decide)
   ·
    rw [if_neg c9] at H
    have c9b0 : (t259 == 0) = false := beq_eq_false_iff_ne.mpr c9
    have c9b1 : (t259 != 0) = true := bne_iff_ne.mpr c9
    exact absurd ((Option.some.inj H).trans hrt.out) (by decide)
  ·
   rw [if_neg c8] at H
   have c8b0 : (t241 == 0) = false := beq_eq_false_iff_ne.mpr c8
   have c8b1 : (t241 != 0) = true := bne_iff_ne.mpr c8
   exact absurd ((Option.some.inj H).trans hrt.out) (by decide)
 ·
  rw [if_neg c7] at H
  have c7b0 : (t218 == 0) = false := beq_eq_false_iff_ne.mpr c7
  have c7b1 : (t218 != 0) = true := bne_iff_ne.mpr c7
  exact absurd ((Option.some.inj H).trans hrt.out) (by decide)
end Go.Proofs.Ytodmemndaaiolaa.PC7
namespace Go.Proofs.Ytodmemndaaiolaa.PC7
set_option linter.unusedVariables false
set_option linter.unusedSimpArgs false
open Go.RowKit Go.Proofs.YtodmemndaaiolaaW.PrintWords Go.Proofs.YtodmemndaaiolaaW.PrintLast Go.Proofs.YtodmemndaaiolaaW.PrintMore
theorem copy_bd {L U R V : Int} {holds : List S85} {sills : List S59} {lots : List S79} {r : Int × Int × Int × List S85 × Int × List S59 × List S79} (h : swarfkit_CopyVoyage.f L U R holds V sills lots = some r) : copyOK holds sills lots := by
 unfold swarfkit_CopyVoyage.f at h
 by_cases hn : copyOK holds sills lots
 ·
  exact hn
 ·
  rw [if_neg hn] at h; cases h
def turnH (h : S85) : S85 := ⟨h.f0, h.f2, h.f1⟩
def turnN (k : Nat) (l : List S85) : List S85 := (l.take k).map turnH ++ l.drop k
theorem turnN_len (k : Nat) (l : List S85) : (turnN k l).length = l.length := by simp [turnN]; omega
theorem turnN_get (k : Nat) (l : List S85) (h : k < l.length) : (turnN k l).getD k z85 = l.getD k z85 := by
 unfold turnN
 rw [List.getD, List.getElem?_append_right (by simp; omega)]
 simp [List.getD, Nat.min_eq_left (Nat.le_of_lt h)]
theorem turnN_succ (k : Nat) (l : List S85) (h : k < l.length) (x y : S85) : ((turnN k l).set k y).set k (turnH (l.getD k z85)) = turnN (k + 1) l := by
 rw [List.set_set]
 have e : l.getD k z85 = l[k] := by simp [List.getD, h]
 have hl : ((l.take k).map turnH).length = k := by simp; omega
 unfold turnN
 rw [e, List.set_append_right _ _ (by omega), hl, Nat.sub_self, List.drop_eq_getElem_cons h, List.set_cons_zero, List.take_succ_eq_append_getElem h, List.map_append, List.append_assoc]
 rfl
theorem turnN_all (l : List S85) : turnN l.length l = l.map turnH := by simp [turnN]
theorem getD_set_self_ {α : Type} (l : List α) (i : Nat) (v d : α) (h : i < l.length) : (l.set i v).getD i d = v := by simp [List.getD, h]
theorem turnN_zero (l : List S85) : turnN 0 l = l := by simp [turnN]
def turned12.T8 : Bool × List (List Nat × List Nat) := (true, [([], []), ([0], [0]), ([], []), ([], []), ([3], [3]), ([], []), ([], []), ([6], [6]), ([], []), ([7, 8], [7, 8]), ([9], [9]), ([10], [10]), ([], []), ([12], [12]), ([], []), ([13, 14], [13, 14]), ([15], [15]), ([16], [16]), ([1, 2, 0, 1, 2, 6, 7, 8, 9, 10, 11, 17], [1, 2]), ([18, 0, 1, 2, 6, 7, 8, 9, 10, 11, 17], [18]), ([19, 11, 0, 1, 2, 6, 7, 8, 9, 10, 11, 17], [11, 19]), ([4, 5, 0, 1, 2, 3, 4, 5, 6, 7, 8, 9, 10, 11, 12, 13, 14, 15, 16, 17, 18, 19, 20], [4, 5]), ([21, 0, 1, 2, 3, 4, 5, 6, 7, 8, 9, 10, 11, 12, 13, 14, 15, 16, 17, 18, 19, 20], [21]), ([22, 17, 20, 0, 1, 2, 3, 4, 5, 6, 7, 8, 9, 10, 11, 12, 13, 14, 15, 16, 17, 18, 19, 20], [17, 22])])
def turned12.B8 : List Nat := [0, 1, 0, 0, 8, 0, 0, 64, 0, 448, 960, 1984, 0, 4096, 0, 28672, 61440, 126976, 262087, 524231, 1048519, 2097151, 4194303, 8388607]
theorem turned12.tab8 : rtab .any (opsOf Try.f12 8) = turned12.T8 := by kernel_rfl
theorem turned12.bits8 : waitsOk turned12.T8.2 turned12.B8 = true := by kernel_rfl
def turned12.T17 : Bool × List (List Nat × List Nat) := (true, [([], []), ([0], [0]), ([1], [1]), ([2], [2]), ([3, 2], [2, 3]), ([2, 4], [2, 4]), ([5, 2], [5]), ([6], [6]), ([7, 6], [6, 7]), ([6, 8], [6, 8]), ([9, 6], [9]), ([10], [10]), ([11, 10], [10, 11]), ([10, 12], [10, 12]), ([13, 10], [13]), ([14], [14]), ([15, 14], [14, 15]), ([14, 16], [14, 16]), ([17, 14], [17]), ([18], [18]), ([19, 18], [18, 19]), ([18, 20], [18, 20]), ([21, 18], [21]), ([22], [22]), ([23, 22], [22, 23]), ([22, 24], [22, 24]), ([25, 22], [25]), ([26], [26]), ([27, 26], [26, 27]), ([26, 28], [26, 28]), ([29, 26], [29]), ([30], [30]), ([30], [30]), ([31, 32, 30], [30, 31, 32]), ([30, 33], [30, 33]), ([34, 30], [34]), ([35], [35]), ([35], [35]), ([36, 37, 35], [35, 36, 37]), ([35, 38], [35, 38]), ([39, 35], [39]), ([40], [40]), ([40], [40]), ([41, 42, 40], [40, 41, 42]), ([40, 43], [40, 43]), ([44, 40], [44]), ([45], [45]), ([45], [45]), ([47, 45], [45, 47]), ([48, 45], [45, 48]), ([45], [45]), ([50, 45], [45, 50]), ([51, 45], [45, 51]), ([49, 52, 45, 45], [45, 49, 52]), ([46, 53, 45], [45, 46, 53]), ([45, 54], [45, 54]), ([55, 53], [55]), ([56], [56]), ([56], [56]), ([57, 58, 56], [56, 57, 58]), ([56, 59], [56, 59]), ([60, 56], [60]), ([61], [61]), ([61], [61]), ([62, 63, 61], [61, 62, 63]), ([61, 64], [61, 64]), ([65, 61], [65]), ([66], [66]), ([66], [66]), ([67, 68, 66, 66], [66, 67, 68]), ([66, 69], [66, 69]), ([70, 69], [70]), ([71], [71]), ([71], [71]), ([72, 73, 71, 71], [71, 72, 73]), ([71, 74], [71, 74]), ([75, 74], [75]), ([76, 76], [76]), ([76, 77], [76, 77]), ([78, 77, 0, 1, 2, 3, 4, 5, 6, 7, 8, 9, 10, 11, 12, 13, 14, 15, 16, 17, 18, 19, 20, 21, 22, 23, 24, 25, 26, 27, 28, 29, 30, 31, 32, 33, 34, 35, 36, 37, 38, 39, 40, 41, 42, 43, 44, 45, 46, 47, 48, 49, 50, 51, 52, 53, 54, 55, 56, 57, 58, 59, 60, 61, 62, 63, 64, 65, 66, 67, 68, 69, 70, 71, 72, 73, 74, 75, 76, 77, 78], [78])])
def turned12.B17 : List Nat := [0, 1, 3, 7, 15, 31, 63, 127, 255, 511, 1023, 2047, 4095, 8191, 16383, 32767, 65535, 131071, 262143, 524287, 1048575, 2097151, 4194303, 8388607, 16777215, 33554431, 67108863, 134217727, 268435455, 536870911, 1073741823, 2147483647, 2147483647, 8589934591, 17179869183, 34359738367, 68719476735, 68719476735, 274877906943, 549755813887, 1099511627775, 2199023255551, 2199023255551, 8796093022207, 17592186044415, 35184372088831, 70368744177663, 70368744177663, 211106232532991, 492581209243647, 70368744177663, 1196268651020287, 3448068464705535, 8936830510563327, 18014398509481983, 36028797018963967, 72057594037927935, 144115188075855871, 144115188075855871, 576460752303423487, 1152921504606846975, 2305843009213693951, 4611686018427387903, 4611686018427387903, 18446744073709551615, 36893488147419103231, 73786976294838206463, 147573952589676412927, 147573952589676412927, 590295810358705651711, 1180591620717411303423, 2361183241434822606847, 4722366482869645213695, 4722366482869645213695, 18889465931478580854783, 37778931862957161709567, 75557863725914323419135, 151115727451828646838271, 302231454903657293676543, 604462909807314587353087]
theorem turned12.tab17 : rtab .any (opsOf Try.f12 17) = turned12.T17 := by kernel_rfl
theorem turned12.bits17 : waitsOk turned12.T17.2 turned12.B17 = true := by kernel_rfl
set_option maxHeartbeats 8000000 in
set_option maxRecDepth 100000 in
theorem turned_walk (A1 : Option Addr) (c1 : Nat) (l1 : List Int) (w : World) (hr1 : Kd.C (Kd.int .i64) w A1 l1.length l1) (hc1 : l1.length ≤ c1) {fd T s1 s2 s3 mL mU mR mV : Int} {kv ks : Nat} {mh : List S85} {ms : List S59} {ml : List S79} {st : List Int} (hf : swarfkit_FeedOf.f l1 = some fd) (he : swarfkit_Feed_Either.f fd [4, 30] = some (T, s1)) (hv : swarfkit_VoyageOf.f kv s1 2 3 4 T = some (mL, mU, mR, mh, mV, ms, ml, s2)) (hs : swarfkit_StowageOf.f ks s2 mL mU mR mh mV ms ml = some (st, s3))
  (hc : swarfkit_CopyVoyage.f mL mU mR mh mV ms ml = some (mL, mU, mR, mh, mV, ms, ml))
  {pa pb pc pd y z p r vd wo : Int} {al : Bool} {ov : List S56} {bs : List Int} {kl kb ko ka : Nat} (hd : ship_Drafts.f mL mU mR mh mV ms ml st = some (pa, pb, pc, pd, 0)) (hd2 : ship_Drafts.f mL mU mR (mh.map turnH) mV ms ml st = some (pc, pd, pa, pb, 0))
  (hlv : ship_Level.f kl mL mU mR mh mV ms ml st = some (al, y, z, 0)) (hlv2 : ship_Level.f kl mL mU mR (mh.map turnH) mV ms ml st = some (al, p, r, 0)) (hng : swarflaw07_rng.f (IntKind.i64.wrap (-r)) (IntKind.i64.wrap (-p)) = some (y, z))
  (hsl : ship_Sail.f mL mU mR mh mV ms ml st = some (vd, ov, 0)) (hsl2 : ship_Sail.f mL mU mR (mh.map turnH) mV ms ml st = some (vd, ov, 0)) (hbe : ship_Best.f mL mU mR mh mV ms ml = some (bs, wo, 0)) (hbe2 : ship_Best.f mL mU mR (mh.map turnH) mV ms ml = some (bs, wo, 0))
  (hei : swarfkit_EqualInts.f kb bs bs = some true) (her : swarfkit_EqualRanges.f ko ov ov = some true) (haw : swarflaw07_awake.f ka = some true) :
  Calls Try.prog 12 #[.slice A1 l1.length c1] w fun e w' => e = .returned (.bool true) ∧ Below w.heap.size w w' := by
 have hu26 := Try.underlying26
 have hcb := copy_bd hc
 obtain ⟨hb1, hb2, hb3⟩ := hcb
 have hb4 := hb3.1
 clear hb3
 have HR1 := Aside0.mk hr1
 have HF := Aside0.mk hf
 have HE := Aside0.mk he
 have HV := Aside0.mk hv
 have HS := Aside0.mk hs
 have HC := Aside0.mk hc
 have HD := Aside0.mk hd
 have HD2 := Aside0.mk hd2
 have HLV := Aside0.mk hlv
 have HLV2 := Aside0.mk hlv2
 have HNG := Aside0.mk hng
 have HSL := Aside0.mk hsl
 have HSL2 := Aside0.mk hsl2
 have HBE := Aside0.mk hbe
 have HBE2 := Aside0.mk hbe2
 have HEI := Aside0.mk hei
 have HER := Aside0.mk her
 have HAW := Aside0.mk haw
 clear hr1 hf he hv hs hc hd hd2 hlv hlv2 hng hsl hsl2 hbe hbe2 hei her haw
 go_enter Try.func12, Try.ntmps12
 go_wp2_with (fail)
 refine (swarfkit_FeedOf.calls A1 c1 l1 fd w w (Below.refl _ _) HR1.out hc1 HF.out).mono ?_
 rintro e w2 ⟨g, rfl, hi_, hb_, _⟩
 have HI := Aside0.mk hi_
 have HB := Aside0.mk hb_
 clear hi_ hb_
 go_wp2_with ((with_reducible refine gate_dst (N := 36) rfl ?_); refine Kd.R_lit (Kd.int .i64) _ 3 ?hg (N := 36) ?hd (xs := ([4, 30] : List Int)) (inner := [.int .i64 4, .int .i64 30]) (ok := fun _ => True) (okp := fun _ => True) ?hr ?hp (fun _ hk => hk) trivial (Below.refl _ _) (Nat.le_refl _) (by simp) ?_; (case hd => rfl); (case hg => rfl); (case hr => first | (go_simp; done) | (go_simp; rfl)); (case hp => exact (Reps.one (show Kd.M (Kd.int .i64) _ _ _ 4 [.int .i64 4] from rfl) (Reps.one (show Kd.M (Kd.int .i64) _ _ _ 30 [.int .i64 30] from rfl) (Reps.none _ _)))); intro vl w3 ho_ hb_ hg_ hnew_; obtain ⟨Al, cl, rfl⟩ := Kd.R_slice ho_; have RL := Aside0.mk ho_; have HFL := Aside0.mk (show ∀ ad, Al = some ad → 0 < [(4 : Int), 30].length → ad.block ≠ g from fun ad ha _ => by subst ha; have h1 := HI.out.lt; have h2 := Kd.R_base ho_ ad.block (by simp [Value.ownBlock]); omega); replace HI := Aside0.mk (IsS90.below HI.out hb_); replace HB := Aside0.mk (below_step HB.out hb_); clear ho_ hb_ hg_ hnew_)
 refine (swarfkit_Feed_Either.calls g fd Al cl [4, 30] T s1 w w3 HI.out HB.out (Kd.R_reads' RL.out).2.2 (Kd.R_reads' RL.out).2.1 HFL.out HE.out).mono ?_
 rintro e w4 ⟨rfl, hi_, hb_, _⟩
 replace HI := Aside0.mk hi_
 replace HB := Aside0.mk hb_
 clear hi_ hb_ RL HFL
 go_wp2_with (fail)
 refine (swarfkit_VoyageOf.calls kv g s1 2 3 4 T mL mU mR mh mV ms ml s2 w w4 HI.out HB.out HV.out).mono ?_
 rintro e w5 ⟨v3, v5, v6, rfl, ho3, ho5, ho6, hi_, hb_, _⟩
 obtain ⟨M3, d3, rfl⟩ := Kd.R_slice ho3
 obtain ⟨M5, d5, rfl⟩ := Kd.S_slice ho5
 obtain ⟨M6, d6, rfl⟩ := Kd.R_slice ho6
 obtain ⟨Nv, hNv⟩ : ∃ n, n = w4.heap.size := ⟨_, rfl⟩
 have GNv : Aside0 (g < Nv) := ⟨by rw [hNv]; exact HI.out.lt⟩
 have GwN : Aside0 (w.heap.size ≤ Nv) := ⟨by rw [hNv]; exact HB.out.size⟩
 rw [← hNv] at ho3 ho5 ho6
 have R3 := Aside0.mk ho3
 have R5 := Aside0.mk ho5
 have R6 := Aside0.mk ho6
 replace HI := Aside0.mk hi_
 replace HB := Aside0.mk hb_
 clear hi_ hb_ ho3 ho5 ho6 hNv
 go_upto_region 3 with (fail)
 obtain ⟨g4, hg_⟩ : ∃ b, b = w5.heap.size := ⟨_, rfl⟩
 have B4 := Aside0.mk (blk_new w5 (.cells #[.int .i64 mL, .int .i64 mU, .int .i64 mR, .slice M3 mh.length d3, .int .i64 mV, .slice M5 ms.length d5, .slice M6 ml.length d6] 26 (0, 0)))
 have hbw : Below w5.heap.size w5 (w5.alloc (.cells #[.int .i64 mL, .int .i64 mU, .int .i64 mR, .slice M3 mh.length d3, .int .i64 mV, .slice M5 ms.length d5, .slice M6 ml.length d6] 26 (0, 0))) := below_alloc (Below.refl _ _) _
 have hgs_ : w.heap.size ≤ g4 := by rw [hg_]; exact HB.out.size
 generalize hw_ : w5.alloc (.cells #[.int .i64 mL, .int .i64 mU, .int .i64 mR, .slice M3 mh.length d3, .int .i64 mV, .slice M5 ms.length d5, .slice M6 ml.length d6] 26 (0, 0)) = w6 at *
 rw [← hg_] at B4 ⊢
 replace R3 := Aside0.mk (Kd.R_below R3.out hbw)
 replace R6 := Aside0.mk (Kd.R_below R6.out hbw)
 replace R5 := Aside0.mk (Kd.S_below R5.out hbw)
 replace HI := Aside0.mk (IsS90.below HI.out hbw)
 replace HB := Aside0.mk (below_step HB.out hbw)
 have GEg4 : Aside0 (w.heap.size ≤ g4) := ⟨hgs_⟩
 clear hbw hw_ hg_ hgs_
 have hz0_ := (blk_cell B4.out 0).trans rfl
 have hz1_ := (blk_cell B4.out 1).trans rfl
 have hz2_ := (blk_cell B4.out 2).trans rfl
 have hz3_ := (blk_cell B4.out 3).trans rfl
 have hz4_ := (blk_cell B4.out 4).trans rfl
 have hz5_ := (blk_cell B4.out 5).trans rfl
 have hz6_ := (blk_cell B4.out 6).trans rfl
 go_wp2_with (fail)
 refine (swarfkit_StowageOf.calls ks g s2 mL mU mR M3 d3 mh mV M5 d5 ms M6 d6 ml st s3 w w6 HI.out HB.out (fun W_ hk_ => (Kd.R_reads' (R_kb R3.out hk_ GNv.out)).2.2) (Kd.R_reads' R3.out).2.1 (fun W_ hk_ => (Kd.S_reads' (S_kb R5.out hk_ GNv.out)).2.2) (Kd.S_reads' R5.out).2.1 (fun W_ hk_ => (Kd.R_reads' (R_kb R6.out hk_ GNv.out)).2.2) (Kd.R_reads' R6.out).2.1 HS.out).mono ?_
 rintro e w7 ⟨vs, rfl, hos_, hi_, hb_, hk_⟩
 obtain ⟨As, cs, rfl⟩ := Kd.R_slice hos_
 replace B4 := Aside0.mk (blk_kb B4.out hk_ (IsS90.ne_blk HI.out B4.out (by decide)).symm)
 replace R3 := Aside0.mk (R_kb R3.out hk_ GNv.out)
 replace R6 := Aside0.mk (R_kb R6.out hk_ GNv.out)
 replace R5 := Aside0.mk (S_kb R5.out hk_ GNv.out)
 replace HI := Aside0.mk hi_
 replace HB := Aside0.mk hb_
 have RS := Aside0.mk hos_
 clear hos_ hi_ hb_ hk_ hz0_ hz1_ hz2_ hz3_ hz4_ hz5_ hz6_
 have hz0_ := (blk_cell B4.out 0).trans rfl
 have hz1_ := (blk_cell B4.out 1).trans rfl
 have hz2_ := (blk_cell B4.out 2).trans rfl
 have hz3_ := (blk_cell B4.out 3).trans rfl
 have hz4_ := (blk_cell B4.out 4).trans rfl
 have hz5_ := (blk_cell B4.out 5).trans rfl
 have hz6_ := (blk_cell B4.out 6).trans rfl
 go_wp2_with (fail)
 refine (swarfkit_CopyVoyage.calls mL mU mR M3 d3 mh mV M5 d5 ms M6 d6 ml mL mU mR mh mV ms ml w7 (Kd.R_reads' R3.out).2.2 (Kd.R_reads' R3.out).2.1 (Kd.S_reads' R5.out).2.2 (Kd.S_reads' R5.out).2.1 (Kd.R_reads' R6.out).2.2 (Kd.R_reads' R6.out).2.1 HC.out).mono ?_
 rintro e w8 ⟨v3, v5, v6, rfl, ho3, ho5, ho6, hb_⟩
 obtain ⟨X3, e3, rfl⟩ := Kd.R_slice ho3
 obtain ⟨X5, e5, rfl⟩ := Kd.S_slice ho5
 obtain ⟨X6, e6, rfl⟩ := Kd.R_slice ho6
 replace R3 := Aside0.mk (Kd.R_mono (Kd.R_bound R3.out) (ok' := fun k_ => k_ < w7.heap.size) (fun _ hk => hk.2.2.1))
 replace R6 := Aside0.mk (Kd.R_mono (Kd.R_bound R6.out) (ok' := fun k_ => k_ < w7.heap.size) (fun _ hk => hk.2.2.1))
 replace RS := Aside0.mk (Kd.R_mono (Kd.R_bound RS.out) (ok' := fun k_ => k_ < w7.heap.size) (fun _ hk => hk.2.2.1))
 replace R5 := Aside0.mk (Kd.S_mono (Kd.S_bound R5.out) (ok' := fun k_ => k_ < w7.heap.size) (fun _ hk => hk.2.2.1))
 obtain ⟨N, hN⟩ : ∃ n, n = w7.heap.size := ⟨_, rfl⟩
 have GN : Aside0 (g < N ∧ g4 < N ∧ w.heap.size ≤ N) := ⟨by have h1 := HI.out.lt; have h2 := blk_lt B4.out; have h3 := HB.out.size; omega⟩
 rw [← hN] at ho3 ho5 ho6 R3 R6 RS R5
 clear hN
 replace B4 := Aside0.mk (blk_below B4.out hb_)
 replace R3 := Aside0.mk (Kd.R_below R3.out hb_)
 replace R6 := Aside0.mk (Kd.R_below R6.out hb_)
 replace RS := Aside0.mk (Kd.R_below RS.out hb_)
 replace R5 := Aside0.mk (Kd.S_below R5.out hb_)
 replace HI := Aside0.mk (IsS90.below HI.out hb_)
 replace HB := Aside0.mk (below_step HB.out hb_)
 have Y3 := Aside0.mk ho3
 have Y5 := Aside0.mk ho5
 have Y6 := Aside0.mk ho6
 clear ho3 ho5 ho6 hb_ hz0_ hz1_ hz2_ hz3_ hz4_ hz5_ hz6_
 go_upto_region 5 with (fail)
 obtain ⟨g6, hg_⟩ : ∃ b, b = w8.heap.size := ⟨_, rfl⟩
 have B6 := Aside0.mk (blk_new w8 (.cells #[.int .i64 mL, .int .i64 mU, .int .i64 mR, .slice X3 mh.length e3, .int .i64 mV, .slice X5 ms.length e5, .slice X6 ml.length e6] 26 (0, 0)))
 have hbw : Below w8.heap.size w8 (w8.alloc (.cells #[.int .i64 mL, .int .i64 mU, .int .i64 mR, .slice X3 mh.length e3, .int .i64 mV, .slice X5 ms.length e5, .slice X6 ml.length e6] 26 (0, 0))) := below_alloc (Below.refl _ _) _
 have hgs_ : w.heap.size ≤ g6 := by rw [hg_]; exact HB.out.size
 generalize hw_ : w8.alloc (.cells #[.int .i64 mL, .int .i64 mU, .int .i64 mR, .slice X3 mh.length e3, .int .i64 mV, .slice X5 ms.length e5, .slice X6 ml.length e6] 26 (0, 0)) = w9 at *
 rw [← hg_] at B6 ⊢
 replace B4 := Aside0.mk (blk_below B4.out hbw)
 replace R3 := Aside0.mk (Kd.R_below R3.out hbw)
 replace R6 := Aside0.mk (Kd.R_below R6.out hbw)
 replace RS := Aside0.mk (Kd.R_below RS.out hbw)
 replace Y3 := Aside0.mk (Kd.R_below Y3.out hbw)
 replace Y6 := Aside0.mk (Kd.R_below Y6.out hbw)
 replace R5 := Aside0.mk (Kd.S_below R5.out hbw)
 replace Y5 := Aside0.mk (Kd.S_below Y5.out hbw)
 replace HI := Aside0.mk (IsS90.below HI.out hbw)
 replace HB := Aside0.mk (below_step HB.out hbw)
 have GEg6 : Aside0 (w.heap.size ≤ g6) := ⟨hgs_⟩
 clear hbw hw_ hg_ hgs_
 obtain ⟨RSB, hrs_⟩ : ∃ b, Kd.R (Kd.int .i64) 3 w9 b (fun k_ => k_ < N) (.slice As st.length cs) st := ⟨_, RS.out⟩
 replace RS := Aside0.mk hrs_
 clear hrs_
 go_wp2
 go_loopg [7] mh.length (fun gk v7 wr => ∃ k : Nat, k ≤ mh.length ∧ mh.length - k ≤ gk ∧ v7 = .int .i64 k ∧ Aside0 (Kd.R k85 85 wr N (fun _ => True) (.slice X3 mh.length e3) (turnN k mh)) ∧ Aside0 (wr.heap[g4]? = some (.cells #[.int .i64 mL, .int .i64 mU, .int .i64 mR, .slice M3 mh.length d3, .int .i64 mV, .slice M5 ms.length d5, .slice M6 ml.length d6] 26 (0, 0))) ∧ Aside0 (wr.heap[g6]? = some (.cells #[.int .i64 mL, .int .i64 mU, .int .i64 mR, .slice X3 mh.length e3, .int .i64 mV, .slice X5 ms.length e5, .slice X6 ml.length e6] 26 (0, 0))) ∧ Aside0 (Kd.R k85 85 wr Nv (fun k_ => k_ < N) (.slice M3 mh.length d3) mh) ∧ Aside0 (Kd.S k59 59 wr Nv (fun k_ => k_ < N) (.slice M5 ms.length d5) ms) ∧ Aside0 (Kd.R k79 79 wr Nv (fun k_ => k_ < N) (.slice M6 ml.length d6) ml) ∧ Aside0 (Kd.R (Kd.int .i64) 3 wr RSB (fun k_ => k_ < N) (.slice As st.length cs) st) ∧ Aside0 (Kd.S k59 59 wr N (fun _ => True) (.slice X5 ms.length e5) ms) ∧ Aside0 (Kd.R k79 79 wr N (fun _ => True) (.slice X6 ml.length e6) ml) ∧ Aside0 (IsS90 w wr g s3) ∧ Aside0 (Below w.heap.size w wr))
 case atStart => exact ⟨0, by omega, by omega, rfl, ⟨by rw [turnN_zero]; exact Y3.out⟩, B4, B6, R3, R5, R6, RS, Y5, Y6, HI, HB⟩
 case round =>
  clear B4 B6 R3 R5 R6 RS Y3 Y5 Y6 HI HB
  obtain ⟨k, hk, hgk, rfl, Y3, B4, B6, R3, R5, R6, RS, Y5, Y6, HI, HB⟩ := hrel
  by_cases hlt : k < mh.length
  ·
   have hlz : (k : Int) < (mh.length : Int) := by omega
   obtain ⟨ads, e, _, h1, h2⟩ := at_T85 (Kd.R_reads' R3.out).2.2 (k : Int) (by omega) hlz
   cases e
   rw [Int.toNat_natCast] at h1 h2
   have hrd : Aside0 (rd_T85 mh (k : Int) = mh.getD k z85) := ⟨rfl⟩
   obtain ⟨go, cg, eg, gb_, gl_, cl_, hg_⟩ := Kd.R_form Y3.out (by rw [turnN_len]; omega)
   injection eg with eg en_ ec_
   subst eg
   clear ec_ en_
   have HG := Aside0.mk hg_
   have GO := Aside0.mk gb_
   clear hg_ gb_ gl_
   have hz6_ := (blk_cell B6.out 3).trans rfl
   have hz4_ := (blk_cell B4.out 3).trans rfl
   go_upto_region 8 with (fail)
   have hd_ := below_drew1 (Below.refl wr.heap.size wr)
   replace B4 := Aside0.mk (blk_below B4.out hd_)
   replace B6 := Aside0.mk (blk_below B6.out hd_)
   replace HG := Aside0.mk (blk_below HG.out hd_)
   replace R3 := Aside0.mk (Kd.R_below R3.out hd_)
   replace R6 := Aside0.mk (Kd.R_below R6.out hd_)
   replace RS := Aside0.mk (Kd.R_below RS.out hd_)
   replace Y3 := Aside0.mk (Kd.R_below Y3.out hd_)
   replace Y6 := Aside0.mk (Kd.R_below Y6.out hd_)
   replace R5 := Aside0.mk (Kd.S_below R5.out hd_)
   replace Y5 := Aside0.mk (Kd.S_below Y5.out hd_)
   replace HI := Aside0.mk (IsS90.below HI.out hd_)
   replace HB := Aside0.mk (below_step HB.out hd_)
   clear hd_
   obtain ⟨ce_, hcl_, hM_, hcc_, hfr_⟩ := Kd.R_elem Y3.out z85 (k : Int) (by omega) hlz
   rw [Int.toNat_natCast, turnN_get k mh hlt, ← hrd.out] at hM_
   obtain rfl := k85_openM hM_
   rw [Int.toNat_natCast] at hcc_ hfr_
   have E1 := Aside0.mk (hcc_ 1 _ rfl)
   have F1 := Aside0.mk hfr_
   have Z1 := (Kd.R_seg Y3.out (k : Int) (by omega) hlz (seg := [.int .i64 (rd_T85 mh (k : Int)).f2]) (j := 1) hcl_ (by rw [Int.toNat_natCast]; exact hcc_) (show 2 ≤ 3 from by decide) (x' := (⟨(rd_T85 mh (k : Int)).f0, (rd_T85 mh (k : Int)).f2, (rd_T85 mh (k : Int)).f2⟩ : S85)) (k85_mkM _ _ _ _) (fun _ hk => hk)).1
   rw [Int.toNat_natCast] at Z1
   have ZZ := Aside0.mk (show Kd.R k85 85 (wr.drew.setCell ⟨go, k * 3 + 1, none⟩ (.int .i64 (rd_T85 mh (k : Int)).f2)) N (fun _ => True) (.slice (some ⟨go, 0, none⟩) mh.length e3) ((turnN k mh).set k ⟨(rd_T85 mh (k : Int)).f0, (rd_T85 mh (k : Int)).f2, (rd_T85 mh (k : Int)).f2⟩) from Z1)
   clear hcl_ hM_ hcc_ hfr_ Z1
   refine start_ (n := 24) (S := fun w' => w'.cell? ⟨g6, 3, none⟩ = some (.slice (some ⟨go, 0, none⟩) mh.length e3) ∧ w'.cell? ⟨g4, 3, none⟩ = some (.slice (some ads) mh.length d3) ∧ w'.cell? ⟨(ads.add (k * 3)).block, (ads.add (k * 3)).off + 1, none⟩ = some (.int .i64 (rd_T85 mh (k : Int)).f1) ∧ w'.cell? ⟨(ads.add (k * 3)).block, (ads.add (k * 3)).off + 2, none⟩ = some (.int .i64 (rd_T85 mh (k : Int)).f2)) (ds := [23]) #[false, false, false, false, false, false, false, false, false, false, false, false, false, false, false, false, false, false, false, false, false, false, false, false] (by kernel_rfl) rfl rfl ⟨hz6_, hz4_, h1, h2⟩ (fun hHeld => ?_)
   generalize wr.drew = wd at B4 B6 HG R3 R5 R6 RS Y3 Y5 Y6 HI HB E1 F1 ZZ hHeld ⊢
   refine with_tabW turned12.tab8 turned12.bits8 (fun HT_ HW_ => ?_)
   refine pure_ (i := 0) (N := some 51) (v := ?_) (a' := ?_) (bz 24 1) rfl rfl (any_of HT_.out (by kernel_rfl)) (fun _ _ _ h => h) (Or.inl ⟨by rfl, ?_⟩) ?_ ?_
   rotate_left
   ·
    intro w'
    go_simp
    with_reducible rfl
   rotate_left
   ·
    refine (put_lit _ _ _ _).trans ?_; dsimp only [List.set_cons_succ, List.set_cons_zero]
    rfl
   refine pure_ (i := 2) (N := some 53) (v := ?_) (a' := ?_) (bz 24 5) rfl rfl (any_of HT_.out (by kernel_rfl)) (fun _ _ _ h => h) (Or.inl ⟨by rfl, ?_⟩) ?_ ?_
   rotate_left
   ·
    intro w'
    go_simp
    with_reducible rfl
   rotate_left
   ·
    refine (put_lit _ _ _ _).trans ?_; dsimp only [List.set_cons_succ, List.set_cons_zero]
    rfl
   refine pure_ (i := 3) (N := some 54) (v := ?_) (a' := ?_) (bz 24 13) rfl rfl (any_of HT_.out (by kernel_rfl)) (fun _ _ _ h => h) (Or.inl ⟨by rfl, ?_⟩) ?_ ?_
   rotate_left
   ·
    intro w'
    go_simp
    with_reducible rfl
   rotate_left
   ·
    refine (put_lit _ _ _ _).trans ?_; dsimp only [List.set_cons_succ, List.set_cons_zero]
    rfl
   refine pure_ (i := 5) (N := some 56) (v := ?_) (a' := ?_) (bz 24 45) rfl rfl (any_of HT_.out (by kernel_rfl)) (fun _ _ _ h => h) (Or.inl ⟨by rfl, ?_⟩) ?_ ?_
   rotate_left
   ·
    intro w'
    go_simp
    with_reducible rfl
   rotate_left
   ·
    refine (put_lit _ _ _ _).trans ?_; dsimp only [List.set_cons_succ, List.set_cons_zero]
    rfl
   refine pure_ (i := 6) (N := some 57) (v := ?_) (a' := ?_) (bz 24 109) rfl rfl (any_of HT_.out (by kernel_rfl)) (fun _ _ _ h => h) (Or.inl ⟨by rfl, ?_⟩) ?_ ?_
   rotate_left
   ·
    intro w'
    go_simp
    with_reducible rfl
   rotate_left
   ·
    refine (put_lit _ _ _ _).trans ?_; dsimp only [List.set_cons_succ, List.set_cons_zero]
    rfl
   refine pure_ (i := 8) (N := some 59) (v := ?_) (a' := ?_) (bz 24 365) rfl rfl (any_of HT_.out (by kernel_rfl)) (fun _ _ _ h => h) (Or.inl ⟨by rfl, ?_⟩) ?_ ?_
   rotate_left
   ·
    intro w'
    go_simp
    with_reducible rfl
   rotate_left
   ·
    refine (put_lit _ _ _ _).trans ?_; dsimp only [List.set_cons_succ, List.set_cons_zero]
    rfl
   refine pure_ (i := 12) (N := some 63) (v := ?_) (a' := ?_) (bz 24 4461) rfl rfl (any_of HT_.out (by kernel_rfl)) (fun _ _ _ h => h) (Or.inl ⟨by rfl, ?_⟩) ?_ ?_
   rotate_left
   ·
    intro w'
    go_simp
    with_reducible rfl
   rotate_left
   ·
    refine (put_lit _ _ _ _).trans ?_; dsimp only [List.set_cons_succ, List.set_cons_zero]
    rfl
   refine pure_ (i := 14) (N := some 65) (v := ?_) (a' := ?_) (bz 24 20845) rfl rfl (any_of HT_.out (by kernel_rfl)) (fun _ _ _ h => h) (Or.inl ⟨by rfl, ?_⟩) ?_ ?_
   rotate_left
   ·
    intro w'
    go_simp
    with_reducible rfl
   rotate_left
   ·
    refine (put_lit _ _ _ _).trans ?_; dsimp only [List.set_cons_succ, List.set_cons_zero]
    rfl
   refine take_ (i := 1) (N := some 52) (v := ?_) (a' := ?_) (bz 24 20847) rfl rfl (take_ofW HT_.out HW_.out (by kernel_rfl)) (fun _ _ _ h => h) (Or.inl ⟨by rfl, ?_⟩) hHeld ?_ ?_
   rotate_left
   ·
    rintro w' ⟨s0, s1, s2, s3⟩
    go_simp
    with_reducible rfl
   rotate_left
   ·
    refine (put_lit _ _ _ _).trans ?_; dsimp only [List.set_cons_succ, List.set_cons_zero]
    rfl
   refine take_ (i := 4) (N := some 55) (v := ?_) (a' := ?_) (bz 24 20863) rfl rfl (take_ofW HT_.out HW_.out (by kernel_rfl)) (fun _ _ _ h => h) (Or.inl ⟨by rfl, ?_⟩) hHeld ?_ ?_
   rotate_left
   ·
    rintro w' ⟨s0, s1, s2, s3⟩
    go_simp
    with_reducible rfl
   rotate_left
   ·
    refine (put_lit _ _ _ _).trans ?_; dsimp only [List.set_cons_succ, List.set_cons_zero]
    rfl
   refine take_ (i := 7) (N := some 58) (v := ?_) (a' := ?_) (bz 24 20991) rfl rfl (take_ofW HT_.out HW_.out (by kernel_rfl)) (fun _ _ _ h => h) (Or.inl ⟨by rfl, ?_⟩) hHeld ?_ ?_
   rotate_left
   ·
    rintro w' ⟨s0, s1, s2, s3⟩
    go_simp
    with_reducible rfl
   rotate_left
   ·
    refine (put_lit _ _ _ _).trans ?_; dsimp only [List.set_cons_succ, List.set_cons_zero]
    rfl
   refine pure_ (i := 9) (N := some 60) (v := ?_) (a' := ?_) (bz 24 21503) rfl rfl (any_of HT_.out (by kernel_rfl)) (fun _ _ _ h => h) (Or.inl ⟨by rfl, ?_⟩) ?_ ?_
   rotate_left
   ·
    intro w'
    go_simp
    with_reducible rfl
   rotate_left
   ·
    refine (put_lit _ _ _ _).trans ?_; dsimp only [List.set_cons_succ, List.set_cons_zero]
    rfl
   refine pure_ (i := 10) (N := some 61) (v := ?_) (a' := ?_) (bz 24 22527) rfl rfl (any_of HT_.out (by kernel_rfl)) (fun _ _ _ h => h) (Or.inl ⟨by rfl, ?_⟩) ?_ ?_
   rotate_left
   ·
    intro w'
    go_simp
    with_reducible rfl
   rotate_left
   ·
    refine (put_lit _ _ _ _).trans ?_; dsimp only [List.set_cons_succ, List.set_cons_zero]
    rfl
   refine take_ (i := 11) (N := some 62) (v := ?_) (a' := ?_) (bz 24 24575) rfl rfl (take_ofW HT_.out HW_.out (by kernel_rfl)) (fun _ _ _ h => h) (Or.inl ⟨by rfl, ?_⟩) hHeld ?_ ?_
   rotate_left
   ·
    rintro w' ⟨s0, s1, s2, s3⟩
    go_simp
    with_reducible rfl
   rotate_left
   ·
    refine (put_lit _ _ _ _).trans ?_; dsimp only [List.set_cons_succ, List.set_cons_zero]
    rfl
   refine take_ (i := 13) (N := some 64) (v := ?_) (a' := ?_) (bz 24 32767) rfl rfl (take_ofW HT_.out HW_.out (by kernel_rfl)) (fun _ _ _ h => h) (Or.inl ⟨by rfl, ?_⟩) hHeld ?_ ?_
   rotate_left
   ·
    rintro w' ⟨s0, s1, s2, s3⟩
    go_simp
    with_reducible rfl
   rotate_left
   ·
    refine (put_lit _ _ _ _).trans ?_; dsimp only [List.set_cons_succ, List.set_cons_zero]
    rfl
   refine pure_ (i := 15) (N := some 66) (v := ?_) (a' := ?_) (bz 24 65535) rfl rfl (any_of HT_.out (by kernel_rfl)) (fun _ _ _ h => h) (Or.inl ⟨by rfl, ?_⟩) ?_ ?_
   rotate_left
   ·
    intro w'
    go_simp
    with_reducible rfl
   rotate_left
   ·
    refine (put_lit _ _ _ _).trans ?_; dsimp only [List.set_cons_succ, List.set_cons_zero]
    rfl
   refine pure_ (i := 16) (N := some 67) (v := ?_) (a' := ?_) (bz 24 131071) rfl rfl (any_of HT_.out (by kernel_rfl)) (fun _ _ _ h => h) (Or.inl ⟨by rfl, ?_⟩) ?_ ?_
   rotate_left
   ·
    intro w'
    go_simp
    with_reducible rfl
   rotate_left
   ·
    refine (put_lit _ _ _ _).trans ?_; dsimp only [List.set_cons_succ, List.set_cons_zero]
    rfl
   refine take_ (i := 17) (N := some 68) (v := ?_) (a' := ?_) (bz 24 262143) rfl rfl (take_ofW HT_.out HW_.out (by kernel_rfl)) (fun _ _ _ h => h) (Or.inl ⟨by rfl, ?_⟩) hHeld ?_ ?_
   rotate_left
   ·
    rintro w' ⟨s0, s1, s2, s3⟩
    go_simp
    with_reducible rfl
   rotate_left
   ·
    refine (put_lit _ _ _ _).trans ?_; dsimp only [List.set_cons_succ, List.set_cons_zero]
    rfl
   refine pure_ (i := 18) (N := some 69) (v := ?_) (a' := ?_) (bz 24 524287) rfl rfl (any_of HT_.out (by kernel_rfl)) (fun _ _ _ h => h) (Or.inl ⟨by rfl, ?_⟩) ?_ ?_
   rotate_left
   ·
    intro w'
    go_simp
    with_reducible rfl
   rotate_left
   ·
    refine (put_lit _ _ _ _).trans ?_; dsimp only [List.set_cons_succ, List.set_cons_zero]
    rfl
   refine pure_ (i := 19) (N := some 70) (v := ?_) (a' := ?_) (bz 24 1048575) rfl rfl (any_of HT_.out (by kernel_rfl)) (fun _ _ _ h => h) (Or.inl ⟨by rfl, ?_⟩) ?_ ?_
   rotate_left
   ·
    intro w'
    go_simp
    with_reducible rfl
   rotate_left
   ·
    refine (put_lit _ _ _ _).trans ?_; dsimp only [List.set_cons_succ, List.set_cons_zero]
    rfl
   refine one_ (i := 20) (N := none) (bz 24 2097151) rfl rfl (one_of HT_.out (by kernel_rfl)) (by decide) (fun K hK => ?_)
   have hx_ : wd.cell? ⟨go, k * 3 + 1, none⟩ = some (.int .i64 (rd_T85 mh (k : Int)).f1) := E1.out
   have hf_ : wd.frozen? ⟨go, k * 3 + 1, none⟩ = false := F1.out 1
   refine skip_ (w1 := ?_) (by rfl) rfl ?_ ?_; rotate_left; (go_simp; rfl)
   clear hx_ hf_
   replace R3 := Aside0.mk (Kd.R_far (p := ⟨go, k * 3 + 1, none⟩) R3.out (fun k_ hk_ e_ => by have := GO.out; have e2_ : k_ = go := e_; omega) (.int .i64 (rd_T85 mh (k : Int)).f2))
   replace R6 := Aside0.mk (Kd.R_far (p := ⟨go, k * 3 + 1, none⟩) R6.out (fun k_ hk_ e_ => by have := GO.out; have e2_ : k_ = go := e_; omega) (.int .i64 (rd_T85 mh (k : Int)).f2))
   replace RS := Aside0.mk (Kd.R_far (p := ⟨go, k * 3 + 1, none⟩) RS.out (fun k_ hk_ e_ => by have := GO.out; have e2_ : k_ = go := e_; omega) (.int .i64 (rd_T85 mh (k : Int)).f2))
   replace R5 := Aside0.mk (Kd.S_far (p := ⟨go, k * 3 + 1, none⟩) R5.out (fun k_ hk_ e_ => by have := GO.out; have e2_ : k_ = go := e_; omega) (.int .i64 (rd_T85 mh (k : Int)).f2))
   replace Y5 := Aside0.mk (Kd.S_set Y5.out HG.out (by decide) (k * 3 + 1) (.int .i64 (rd_T85 mh (k : Int)).f2))
   replace Y6 := Aside0.mk (Kd.R_set Y6.out HG.out (by decide) (k * 3 + 1) (.int .i64 (rd_T85 mh (k : Int)).f2))
   replace B4 := Aside0.mk (blk_far B4.out (p := ⟨go, k * 3 + 1, none⟩) (blk_ne_ B4.out HG.out (by decide)) (.int .i64 (rd_T85 mh (k : Int)).f2))
   replace B6 := Aside0.mk (blk_far B6.out (p := ⟨go, k * 3 + 1, none⟩) (blk_ne_ B6.out HG.out (by decide)) (.int .i64 (rd_T85 mh (k : Int)).f2))
   replace HI := Aside0.mk (IsS90.far HI.out (p := ⟨go, k * 3 + 1, none⟩) (by have := GO.out; have := GN.out.1; show g ≠ go; omega) (.int .i64 (rd_T85 mh (k : Int)).f2))
   replace HB := Aside0.mk (below_set (g := go) (j := k * 3 + 1) (v := .int .i64 (rd_T85 mh (k : Int)).f2) HB.out (by have := GO.out; have := GN.out.2.2; omega))
   have HG_1 := Aside0.mk (blk_set HG.out (k * 3 + 1) (.int .i64 (rd_T85 mh (k : Int)).f2))
   replace HG := HG_1
   clear HG_1
   replace Y3 := ZZ
   obtain ⟨ce_, hcl_, hM_, hcc_, hfr_⟩ := Kd.R_elem Y3.out z85 (k : Int) (by omega) hlz
   rw [Int.toNat_natCast, getD_set_self_ _ _ _ _ (by rw [turnN_len]; exact hlt)] at hM_
   obtain rfl := k85_openM hM_
   rw [Int.toNat_natCast] at hcc_ hfr_
   have E2 := Aside0.mk (hcc_ 2 _ rfl)
   have F2 := Aside0.mk hfr_
   have Z1 := (Kd.R_seg Y3.out (k : Int) (by omega) hlz (seg := [.int .i64 (rd_T85 mh (k : Int)).f1]) (j := 2) hcl_ (by rw [Int.toNat_natCast]; exact hcc_) (show 3 ≤ 3 from by decide) (x' := turnH (mh.getD k z85)) (k85_mkM _ _ _ (turnH (mh.getD k z85))) (fun _ hk => hk)).1
   rw [Int.toNat_natCast, turnN_succ k mh hlt (mh.getD k z85)] at Z1
   have Z2 := Aside0.mk (show Kd.R k85 85 ((wd.setCell ⟨go, k * 3 + 1, none⟩ (.int .i64 (rd_T85 mh (k : Int)).f2)).setCell ⟨go, k * 3 + 2, none⟩ (.int .i64 (rd_T85 mh (k : Int)).f1)) N (fun _ => True) (.slice (some ⟨go, 0, none⟩) mh.length e3) (turnN (k + 1) mh) from Z1)
   clear hcl_ hM_ hcc_ hfr_ Z1
   obtain ⟨ads', e', _, g1_, g2_⟩ := at_T85 (Kd.R_reads' R3.out).2.2 (k : Int) (by omega) hlz
   cases e'
   rw [Int.toNat_natCast] at g1_ g2_
   refine hK.out _ _ ⟨(blk_cell B6.out 3).trans rfl, (blk_cell B4.out 3).trans rfl, g1_, g2_⟩ (fun hHeld => ?_)
   clear hK K
   refine pure_ (i := 21) (N := some 71) (v := ?_) (a' := ?_) (bz 24 4194303) rfl rfl (any_of HT_.out (by kernel_rfl)) (fun _ _ _ h => h) (Or.inl ⟨by rfl, ?_⟩) ?_ ?_
   rotate_left
   ·
    intro w'
    go_simp
    with_reducible rfl
   rotate_left
   ·
    refine (put_lit _ _ _ _).trans ?_; dsimp only [List.set_cons_succ, List.set_cons_zero]
    rfl
   refine pure_ (i := 22) (N := some 72) (v := ?_) (a' := ?_) (bz 24 8388607) rfl rfl (any_of HT_.out (by kernel_rfl)) (fun _ _ _ h => h) (Or.inl ⟨by rfl, ?_⟩) ?_ ?_
   rotate_left
   ·
    intro w'
    go_simp
    with_reducible rfl
   rotate_left
   ·
    refine (put_lit _ _ _ _).trans ?_; dsimp only [List.set_cons_succ, List.set_cons_zero]
    rfl
   refine last_ (i := 23) (N := none) (bz 24 16777215) rfl rfl (one_of HT_.out (by kernel_rfl)) (by decide) (fun K hK => ?_)
   have hx_ : (wd.setCell ⟨go, k * 3 + 1, none⟩ (.int .i64 (rd_T85 mh (k : Int)).f2)).cell? ⟨go, k * 3 + 2, none⟩ = some (.int .i64 (rd_T85 mh (k : Int)).f2) := E2.out
   have hf_ : (wd.setCell ⟨go, k * 3 + 1, none⟩ (.int .i64 (rd_T85 mh (k : Int)).f2)).frozen? ⟨go, k * 3 + 2, none⟩ = false := F2.out 2
   refine skip_ (w1 := ?_) (by rfl) rfl ?_ ?_; rotate_left; (go_simp; rfl)
   clear hx_ hf_
   refine hK.out _ _ ?_
   clear hK K
   refine done_ (done_of HT_.out (by kernel_rfl)) ?_
   clear hHeld hz6_ hz4_ h1 h2 E1 F1 g1_ g2_
   replace R3 := Aside0.mk (Kd.R_far (p := ⟨go, k * 3 + 2, none⟩) R3.out (fun k_ hk_ e_ => by have := GO.out; have e2_ : k_ = go := e_; omega) (.int .i64 (rd_T85 mh (k : Int)).f1))
   replace R6 := Aside0.mk (Kd.R_far (p := ⟨go, k * 3 + 2, none⟩) R6.out (fun k_ hk_ e_ => by have := GO.out; have e2_ : k_ = go := e_; omega) (.int .i64 (rd_T85 mh (k : Int)).f1))
   replace RS := Aside0.mk (Kd.R_far (p := ⟨go, k * 3 + 2, none⟩) RS.out (fun k_ hk_ e_ => by have := GO.out; have e2_ : k_ = go := e_; omega) (.int .i64 (rd_T85 mh (k : Int)).f1))
   replace R5 := Aside0.mk (Kd.S_far (p := ⟨go, k * 3 + 2, none⟩) R5.out (fun k_ hk_ e_ => by have := GO.out; have e2_ : k_ = go := e_; omega) (.int .i64 (rd_T85 mh (k : Int)).f1))
   replace Y5 := Aside0.mk (Kd.S_set Y5.out HG.out (by decide) (k * 3 + 2) (.int .i64 (rd_T85 mh (k : Int)).f1))
   replace Y6 := Aside0.mk (Kd.R_set Y6.out HG.out (by decide) (k * 3 + 2) (.int .i64 (rd_T85 mh (k : Int)).f1))
   replace B4 := Aside0.mk (blk_far B4.out (p := ⟨go, k * 3 + 2, none⟩) (blk_ne_ B4.out HG.out (by decide)) (.int .i64 (rd_T85 mh (k : Int)).f1))
   replace B6 := Aside0.mk (blk_far B6.out (p := ⟨go, k * 3 + 2, none⟩) (blk_ne_ B6.out HG.out (by decide)) (.int .i64 (rd_T85 mh (k : Int)).f1))
   replace HI := Aside0.mk (IsS90.far HI.out (p := ⟨go, k * 3 + 2, none⟩) (by have := GO.out; have := GN.out.1; show g ≠ go; omega) (.int .i64 (rd_T85 mh (k : Int)).f1))
   replace HB := Aside0.mk (below_set (g := go) (j := k * 3 + 2) (v := .int .i64 (rd_T85 mh (k : Int)).f1) HB.out (by have := GO.out; have := GN.out.2.2; omega))
   have HG_2 := Aside0.mk (blk_set HG.out (k * 3 + 2) (.int .i64 (rd_T85 mh (k : Int)).f1))
   replace HG := HG_2
   clear HG_2
   replace Y3 := Z2
   clear ZZ Z2 E2 F2
   generalize hW_ : (wd.setCell ⟨go, k * 3 + 1, none⟩ (.int .i64 (rd_T85 mh (k : Int)).f2)).setCell ⟨go, k * 3 + 2, none⟩ (.int .i64 (rd_T85 mh (k : Int)).f1) = w10 at *
   clear hW_
   go_wp2
   go_roundg (mh.length - (k + 1))
   case measure => omega
   case rel => exact ⟨k + 1, by omega, by omega, by go_num, Y3, B4, B6, R3, R5, R6, RS, Y5, Y6, HI, HB⟩
  ·
   have : k = mh.length := by omega
   subst this
   rw [turnN_all] at Y3
   obtain ⟨th, hth⟩ : ∃ t, t = mh.map turnH := ⟨_, rfl⟩
   have hl : th.length = mh.length := by rw [hth]; simp
   rw [← hth] at Y3
   have hz6_ := (blk_cell B6.out 3).trans rfl
   go_upto_region 9 with (fail)
   clear hz6_
   rw [← hl] at Y3 B6
   have hB6 := B6.out
   have MX := Aside0.mk (show (⟨mL, mU, mR, M3, d3, mh, mV, M5, d5, ms, M6, d6, ml⟩ : VoyV).Ok wr from ⟨(Kd.R_reads' R3.out).2.2, (Kd.R_reads' R3.out).2.1, (Kd.S_reads' R5.out).2.2, (Kd.S_reads' R5.out).2.1, (Kd.R_reads' R6.out).2.2, (Kd.R_reads' R6.out).2.1⟩)
   have XX := Aside0.mk (show (⟨mL, mU, mR, X3, e3, th, mV, X5, e5, ms, X6, e6, ml⟩ : VoyV).Ok wr from ⟨(Kd.R_reads' Y3.out).2.2, (Kd.R_reads' Y3.out).2.1, (Kd.S_reads' Y5.out).2.2, (Kd.S_reads' Y5.out).2.1, (Kd.R_reads' Y6.out).2.2, (Kd.R_reads' Y6.out).2.1⟩)
   have RSC := Aside0.mk (Kd.R_reads' RS.out).2.2
   have hcs := (Kd.R_reads' RS.out).2.1
   have HT := Aside0.mk hth
   clear hB6 R3 R5 R6 RS Y3 Y5 Y6 hl hth HI
   have hz0_ := (blk_cell B4.out 0).trans rfl
   have hz1_ := (blk_cell B4.out 1).trans rfl
   have hz2_ := (blk_cell B4.out 2).trans rfl
   have hz3_ := (blk_cell B4.out 3).trans rfl
   have hz4_ := (blk_cell B4.out 4).trans rfl
   have hz5_ := (blk_cell B4.out 5).trans rfl
   have hz6_ := (blk_cell B4.out 6).trans rfl
   go_wp2_with (fail)
   refine (ship_Drafts.calls mL mU mR M3 d3 mh mV M5 d5 ms M6 d6 ml As cs st pa pb pc pd 0 wr MX.out.h MX.out.hc MX.out.s MX.out.sc MX.out.l MX.out.lc RSC.out hcs HD.out).mono ?_
   rintro e z1 ⟨rfl, hb_⟩
   replace B4 := Aside0.mk (blk_below B4.out hb_)
   replace B6 := Aside0.mk (blk_below B6.out hb_)
   replace RSC := Aside0.mk (Kd.C_below RSC.out hb_)
   replace HB := Aside0.mk (below_step HB.out hb_)
   replace MX := Aside0.mk (MX.out.below hb_)
   replace XX := Aside0.mk (XX.out.below hb_)
   clear hb_ hz0_ hz1_ hz2_ hz3_ hz4_ hz5_ hz6_
   go_upto_region 10 with (fail)
   obtain ⟨g8, hg_⟩ : ∃ b, b = z1.heap.size := ⟨_, rfl⟩
   obtain ⟨g9, hgq_⟩ : ∃ b, b = z1.heap.size + 1 := ⟨_, rfl⟩
   have B8 := Aside0.mk (blk_below (blk_new z1 (.cells #[.int .i64 pa, .int .i64 pb] 56 (0, 0))) (below_alloc (Below.refl _ _) (.cells #[.int .i64 pc, .int .i64 pd] 56 (0, 0))))
   have B9 := Aside0.mk (show ((z1.alloc (.cells #[.int .i64 pa, .int .i64 pb] 56 (0, 0))).alloc (.cells #[.int .i64 pc, .int .i64 pd] 56 (0, 0))).heap[z1.heap.size + 1]? = some (.cells #[.int .i64 pc, .int .i64 pd] 56 (0, 0)) from by have h_ := blk_new (z1.alloc (.cells #[.int .i64 pa, .int .i64 pb] 56 (0, 0))) (.cells #[.int .i64 pc, .int .i64 pd] 56 (0, 0)); rw [show (z1.alloc (.cells #[.int .i64 pa, .int .i64 pb] 56 (0, 0))).heap.size = z1.heap.size + 1 by simp] at h_; exact h_)
   have hbw : Below z1.heap.size z1 ((z1.alloc (.cells #[.int .i64 pa, .int .i64 pb] 56 (0, 0))).alloc (.cells #[.int .i64 pc, .int .i64 pd] 56 (0, 0))) := below_alloc (below_alloc (Below.refl _ _) _) _
   have hgs_ : w.heap.size ≤ g8 ∧ w.heap.size ≤ g9 := by rw [hg_, hgq_]; have := HB.out.size; omega
   generalize hw_ : (z1.alloc (.cells #[.int .i64 pa, .int .i64 pb] 56 (0, 0))).alloc (.cells #[.int .i64 pc, .int .i64 pd] 56 (0, 0)) = z2 at *
   rw [← hgq_, ← hg_]
   rw [← hgq_] at B9
   rw [← hg_] at B8
   replace B4 := Aside0.mk (blk_below B4.out hbw)
   replace B6 := Aside0.mk (blk_below B6.out hbw)
   replace RSC := Aside0.mk (Kd.C_below RSC.out hbw)
   replace HB := Aside0.mk (below_step HB.out hbw)
   replace MX := Aside0.mk (MX.out.below hbw)
   replace XX := Aside0.mk (XX.out.below hbw)
   have GEg8 : Aside0 (w.heap.size ≤ g8) := ⟨hgs_.1⟩
   have GEg9 : Aside0 (w.heap.size ≤ g9) := ⟨hgs_.2⟩
   clear hbw hw_ hg_ hgq_ hgs_
   have hz0_ := (blk_cell B6.out 0).trans rfl
   have hz1_ := (blk_cell B6.out 1).trans rfl
   have hz2_ := (blk_cell B6.out 2).trans rfl
   have hz3_ := (blk_cell B6.out 3).trans rfl
   have hz4_ := (blk_cell B6.out 4).trans rfl
   have hz5_ := (blk_cell B6.out 5).trans rfl
   have hz6_ := (blk_cell B6.out 6).trans rfl
   go_wp2_with (fail)
   refine (ship_Drafts.calls mL mU mR X3 e3 th mV X5 e5 ms X6 e6 ml As cs st pc pd pa pb 0 z2 XX.out.h XX.out.hc XX.out.s XX.out.sc XX.out.l XX.out.lc RSC.out hcs (HT.out ▸ HD2.out)).mono ?_
   rintro e z3 ⟨rfl, hb_⟩
   replace B4 := Aside0.mk (blk_below B4.out hb_)
   replace B6 := Aside0.mk (blk_below B6.out hb_)
   replace B8 := Aside0.mk (blk_below B8.out hb_)
   replace B9 := Aside0.mk (blk_below B9.out hb_)
   replace RSC := Aside0.mk (Kd.C_below RSC.out hb_)
   replace HB := Aside0.mk (below_step HB.out hb_)
   replace MX := Aside0.mk (MX.out.below hb_)
   replace XX := Aside0.mk (XX.out.below hb_)
   clear hb_ hz0_ hz1_ hz2_ hz3_ hz4_ hz5_ hz6_
   go_upto_region 11 with (fail)
   obtain ⟨g11, hg_⟩ : ∃ b, b = z3.heap.size := ⟨_, rfl⟩
   obtain ⟨g12, hgq_⟩ : ∃ b, b = z3.heap.size + 1 := ⟨_, rfl⟩
   have B11 := Aside0.mk (blk_below (blk_new z3 (.cells #[.int .i64 pc, .int .i64 pd] 56 (0, 0))) (below_alloc (Below.refl _ _) (.cells #[.int .i64 pa, .int .i64 pb] 56 (0, 0))))
   have B12 := Aside0.mk (show ((z3.alloc (.cells #[.int .i64 pc, .int .i64 pd] 56 (0, 0))).alloc (.cells #[.int .i64 pa, .int .i64 pb] 56 (0, 0))).heap[z3.heap.size + 1]? = some (.cells #[.int .i64 pa, .int .i64 pb] 56 (0, 0)) from by have h_ := blk_new (z3.alloc (.cells #[.int .i64 pc, .int .i64 pd] 56 (0, 0))) (.cells #[.int .i64 pa, .int .i64 pb] 56 (0, 0)); rw [show (z3.alloc (.cells #[.int .i64 pc, .int .i64 pd] 56 (0, 0))).heap.size = z3.heap.size + 1 by simp] at h_; exact h_)
   have hbw : Below z3.heap.size z3 ((z3.alloc (.cells #[.int .i64 pc, .int .i64 pd] 56 (0, 0))).alloc (.cells #[.int .i64 pa, .int .i64 pb] 56 (0, 0))) := below_alloc (below_alloc (Below.refl _ _) _) _
   have hgs_ : w.heap.size ≤ g11 ∧ w.heap.size ≤ g12 := by rw [hg_, hgq_]; have := HB.out.size; omega
   generalize hw_ : (z3.alloc (.cells #[.int .i64 pc, .int .i64 pd] 56 (0, 0))).alloc (.cells #[.int .i64 pa, .int .i64 pb] 56 (0, 0)) = z4 at *
   rw [← hgq_, ← hg_]
   rw [← hgq_] at B12
   rw [← hg_] at B11
   replace B4 := Aside0.mk (blk_below B4.out hbw)
   replace B6 := Aside0.mk (blk_below B6.out hbw)
   replace B8 := Aside0.mk (blk_below B8.out hbw)
   replace B9 := Aside0.mk (blk_below B9.out hbw)
   replace RSC := Aside0.mk (Kd.C_below RSC.out hbw)
   replace HB := Aside0.mk (below_step HB.out hbw)
   replace MX := Aside0.mk (MX.out.below hbw)
   replace XX := Aside0.mk (XX.out.below hbw)
   have GEg11 : Aside0 (w.heap.size ≤ g11) := ⟨hgs_.1⟩
   have GEg12 : Aside0 (w.heap.size ≤ g12) := ⟨hgs_.2⟩
   clear hbw hw_ hg_ hgq_ hgs_
   have hz0_ := (blk_cell B4.out 0).trans rfl
   have hz1_ := (blk_cell B4.out 1).trans rfl
   have hz2_ := (blk_cell B4.out 2).trans rfl
   have hz3_ := (blk_cell B4.out 3).trans rfl
   have hz4_ := (blk_cell B4.out 4).trans rfl
   have hz5_ := (blk_cell B4.out 5).trans rfl
   have hz6_ := (blk_cell B4.out 6).trans rfl
   go_wp2_with (fail)
   refine (ship_Level.calls kl mL mU mR M3 d3 mh mV M5 d5 ms M6 d6 ml As cs st al y z 0 z4 MX.out.h MX.out.hc MX.out.s MX.out.sc MX.out.l MX.out.lc RSC.out hcs HLV.out).mono ?_
   rintro e z5 ⟨rfl, hb_⟩
   replace B4 := Aside0.mk (blk_below B4.out hb_)
   replace B6 := Aside0.mk (blk_below B6.out hb_)
   replace B8 := Aside0.mk (blk_below B8.out hb_)
   replace B9 := Aside0.mk (blk_below B9.out hb_)
   replace B11 := Aside0.mk (blk_below B11.out hb_)
   replace B12 := Aside0.mk (blk_below B12.out hb_)
   replace RSC := Aside0.mk (Kd.C_below RSC.out hb_)
   replace HB := Aside0.mk (below_step HB.out hb_)
   replace MX := Aside0.mk (MX.out.below hb_)
   replace XX := Aside0.mk (XX.out.below hb_)
   clear hb_ hz0_ hz1_ hz2_ hz3_ hz4_ hz5_ hz6_
   go_upto_region 12 with (fail)
   obtain ⟨g15, hg_⟩ : ∃ b, b = z5.heap.size := ⟨_, rfl⟩
   have B15 := Aside0.mk (blk_new z5 (.cells #[.int .i64 y, .int .i64 z] 56 (0, 0)))
   have hbw : Below z5.heap.size z5 (z5.alloc (.cells #[.int .i64 y, .int .i64 z] 56 (0, 0))) := below_alloc (Below.refl _ _) _
   have hgs_ : w.heap.size ≤ g15 := by rw [hg_]; exact HB.out.size
   generalize hw_ : z5.alloc (.cells #[.int .i64 y, .int .i64 z] 56 (0, 0)) = z6 at *
   rw [← hg_] at B15 ⊢
   replace B4 := Aside0.mk (blk_below B4.out hbw)
   replace B6 := Aside0.mk (blk_below B6.out hbw)
   replace B8 := Aside0.mk (blk_below B8.out hbw)
   replace B9 := Aside0.mk (blk_below B9.out hbw)
   replace B11 := Aside0.mk (blk_below B11.out hbw)
   replace B12 := Aside0.mk (blk_below B12.out hbw)
   replace RSC := Aside0.mk (Kd.C_below RSC.out hbw)
   replace HB := Aside0.mk (below_step HB.out hbw)
   replace MX := Aside0.mk (MX.out.below hbw)
   replace XX := Aside0.mk (XX.out.below hbw)
   have GEg15 : Aside0 (w.heap.size ≤ g15) := ⟨hgs_⟩
   clear hbw hw_ hg_ hgs_
   have hz0_ := (blk_cell B6.out 0).trans rfl
   have hz1_ := (blk_cell B6.out 1).trans rfl
   have hz2_ := (blk_cell B6.out 2).trans rfl
   have hz3_ := (blk_cell B6.out 3).trans rfl
   have hz4_ := (blk_cell B6.out 4).trans rfl
   have hz5_ := (blk_cell B6.out 5).trans rfl
   have hz6_ := (blk_cell B6.out 6).trans rfl
   go_wp2_with (fail)
   refine (ship_Level.calls kl mL mU mR X3 e3 th mV X5 e5 ms X6 e6 ml As cs st al p r 0 z6 XX.out.h XX.out.hc XX.out.s XX.out.sc XX.out.l XX.out.lc RSC.out hcs (HT.out ▸ HLV2.out)).mono ?_
   rintro e z7 ⟨rfl, hb_⟩
   replace B4 := Aside0.mk (blk_below B4.out hb_)
   replace B6 := Aside0.mk (blk_below B6.out hb_)
   replace B8 := Aside0.mk (blk_below B8.out hb_)
   replace B9 := Aside0.mk (blk_below B9.out hb_)
   replace B11 := Aside0.mk (blk_below B11.out hb_)
   replace B12 := Aside0.mk (blk_below B12.out hb_)
   replace B15 := Aside0.mk (blk_below B15.out hb_)
   replace RSC := Aside0.mk (Kd.C_below RSC.out hb_)
   replace HB := Aside0.mk (below_step HB.out hb_)
   replace MX := Aside0.mk (MX.out.below hb_)
   replace XX := Aside0.mk (XX.out.below hb_)
   clear hb_ hz0_ hz1_ hz2_ hz3_ hz4_ hz5_ hz6_
   go_upto_region 13 with (fail)
   obtain ⟨g18, hg_⟩ : ∃ b, b = z7.heap.size := ⟨_, rfl⟩
   have B18 := Aside0.mk (blk_new z7 (.cells #[.int .i64 p, .int .i64 r] 56 (0, 0)))
   have hbw : Below z7.heap.size z7 (z7.alloc (.cells #[.int .i64 p, .int .i64 r] 56 (0, 0))) := below_alloc (Below.refl _ _) _
   have hgs_ : w.heap.size ≤ g18 := by rw [hg_]; exact HB.out.size
   generalize hw_ : z7.alloc (.cells #[.int .i64 p, .int .i64 r] 56 (0, 0)) = z8 at *
   rw [← hg_] at B18 ⊢
   replace B4 := Aside0.mk (blk_below B4.out hbw)
   replace B6 := Aside0.mk (blk_below B6.out hbw)
   replace B8 := Aside0.mk (blk_below B8.out hbw)
   replace B9 := Aside0.mk (blk_below B9.out hbw)
   replace B11 := Aside0.mk (blk_below B11.out hbw)
   replace B12 := Aside0.mk (blk_below B12.out hbw)
   replace B15 := Aside0.mk (blk_below B15.out hbw)
   replace RSC := Aside0.mk (Kd.C_below RSC.out hbw)
   replace HB := Aside0.mk (below_step HB.out hbw)
   replace MX := Aside0.mk (MX.out.below hbw)
   replace XX := Aside0.mk (XX.out.below hbw)
   have GEg18 : Aside0 (w.heap.size ≤ g18) := ⟨hgs_⟩
   clear hbw hw_ hg_ hgs_
   have hz0_ := (blk_cell B4.out 0).trans rfl
   have hz1_ := (blk_cell B4.out 1).trans rfl
   have hz2_ := (blk_cell B4.out 2).trans rfl
   have hz3_ := (blk_cell B4.out 3).trans rfl
   have hz4_ := (blk_cell B4.out 4).trans rfl
   have hz5_ := (blk_cell B4.out 5).trans rfl
   have hz6_ := (blk_cell B4.out 6).trans rfl
   go_wp2_with (fail)
   refine (ship_Sail.calls mL mU mR M3 d3 mh mV M5 d5 ms M6 d6 ml As cs st vd ov 0 z8 MX.out.h MX.out.hc MX.out.s MX.out.sc MX.out.l MX.out.lc RSC.out hcs HSL.out).mono ?_
   rintro e z9 ⟨vo_, rfl, ho_, hb_⟩
   replace B4 := Aside0.mk (blk_below B4.out hb_)
   replace B6 := Aside0.mk (blk_below B6.out hb_)
   replace B8 := Aside0.mk (blk_below B8.out hb_)
   replace B9 := Aside0.mk (blk_below B9.out hb_)
   replace B11 := Aside0.mk (blk_below B11.out hb_)
   replace B12 := Aside0.mk (blk_below B12.out hb_)
   replace B15 := Aside0.mk (blk_below B15.out hb_)
   replace B18 := Aside0.mk (blk_below B18.out hb_)
   replace RSC := Aside0.mk (Kd.C_below RSC.out hb_)
   replace HB := Aside0.mk (below_step HB.out hb_)
   replace MX := Aside0.mk (MX.out.below hb_)
   replace XX := Aside0.mk (XX.out.below hb_)
   obtain ⟨Ao, co, rfl⟩ := Kd.R_slice ho_
   have OV1 := Aside0.mk (Kd.R_reads' ho_).2.2
   have hOV1 := (Kd.R_reads' ho_).2.1
   clear ho_ hb_ hz0_ hz1_ hz2_ hz3_ hz4_ hz5_ hz6_
   go_upto_region 14 with (fail)
   have hz0_ := (blk_cell B6.out 0).trans rfl
   have hz1_ := (blk_cell B6.out 1).trans rfl
   have hz2_ := (blk_cell B6.out 2).trans rfl
   have hz3_ := (blk_cell B6.out 3).trans rfl
   have hz4_ := (blk_cell B6.out 4).trans rfl
   have hz5_ := (blk_cell B6.out 5).trans rfl
   have hz6_ := (blk_cell B6.out 6).trans rfl
   go_wp2_with (fail)
   refine (ship_Sail.calls mL mU mR X3 e3 th mV X5 e5 ms X6 e6 ml As cs st vd ov 0 z9 XX.out.h XX.out.hc XX.out.s XX.out.sc XX.out.l XX.out.lc RSC.out hcs (HT.out ▸ HSL2.out)).mono ?_
   rintro e z10 ⟨vo_, rfl, ho_, hb_⟩
   replace B4 := Aside0.mk (blk_below B4.out hb_)
   replace B6 := Aside0.mk (blk_below B6.out hb_)
   replace B8 := Aside0.mk (blk_below B8.out hb_)
   replace B9 := Aside0.mk (blk_below B9.out hb_)
   replace B11 := Aside0.mk (blk_below B11.out hb_)
   replace B12 := Aside0.mk (blk_below B12.out hb_)
   replace B15 := Aside0.mk (blk_below B15.out hb_)
   replace B18 := Aside0.mk (blk_below B18.out hb_)
   replace RSC := Aside0.mk (Kd.C_below RSC.out hb_)
   replace OV1 := Aside0.mk (Kd.C_below OV1.out hb_)
   replace HB := Aside0.mk (below_step HB.out hb_)
   replace MX := Aside0.mk (MX.out.below hb_)
   replace XX := Aside0.mk (XX.out.below hb_)
   obtain ⟨Ap, cp, rfl⟩ := Kd.R_slice ho_
   have OV2 := Aside0.mk (Kd.R_reads' ho_).2.2
   have hOV2 := (Kd.R_reads' ho_).2.1
   clear ho_ hb_ hz0_ hz1_ hz2_ hz3_ hz4_ hz5_ hz6_
   go_upto_region 15 with (fail)
   have hz0_ := (blk_cell B4.out 0).trans rfl
   have hz1_ := (blk_cell B4.out 1).trans rfl
   have hz2_ := (blk_cell B4.out 2).trans rfl
   have hz3_ := (blk_cell B4.out 3).trans rfl
   have hz4_ := (blk_cell B4.out 4).trans rfl
   have hz5_ := (blk_cell B4.out 5).trans rfl
   have hz6_ := (blk_cell B4.out 6).trans rfl
   go_wp2_with (fail)
   refine (ship_Best.calls mL mU mR M3 d3 mh mV M5 d5 ms M6 d6 ml  bs wo 0 z10 MX.out.h MX.out.hc MX.out.s MX.out.sc MX.out.l MX.out.lc HBE.out).mono ?_
   rintro e z11 ⟨vo_, rfl, ho_, hb_⟩
   replace B4 := Aside0.mk (blk_below B4.out hb_)
   replace B6 := Aside0.mk (blk_below B6.out hb_)
   replace B8 := Aside0.mk (blk_below B8.out hb_)
   replace B9 := Aside0.mk (blk_below B9.out hb_)
   replace B11 := Aside0.mk (blk_below B11.out hb_)
   replace B12 := Aside0.mk (blk_below B12.out hb_)
   replace B15 := Aside0.mk (blk_below B15.out hb_)
   replace B18 := Aside0.mk (blk_below B18.out hb_)
   replace RSC := Aside0.mk (Kd.C_below RSC.out hb_)
   replace OV1 := Aside0.mk (Kd.C_below OV1.out hb_)
   replace OV2 := Aside0.mk (Kd.C_below OV2.out hb_)
   replace HB := Aside0.mk (below_step HB.out hb_)
   replace MX := Aside0.mk (MX.out.below hb_)
   replace XX := Aside0.mk (XX.out.below hb_)
   obtain ⟨Aq, cq, rfl⟩ := Kd.R_slice ho_
   have BS1 := Aside0.mk (Kd.R_reads' ho_).2.2
   have hBS1 := (Kd.R_reads' ho_).2.1
   clear ho_ hb_ hz0_ hz1_ hz2_ hz3_ hz4_ hz5_ hz6_
   go_upto_region 16 with (fail)
   have hz0_ := (blk_cell B6.out 0).trans rfl
   have hz1_ := (blk_cell B6.out 1).trans rfl
   have hz2_ := (blk_cell B6.out 2).trans rfl
   have hz3_ := (blk_cell B6.out 3).trans rfl
   have hz4_ := (blk_cell B6.out 4).trans rfl
   have hz5_ := (blk_cell B6.out 5).trans rfl
   have hz6_ := (blk_cell B6.out 6).trans rfl
   go_wp2_with (fail)
   refine (ship_Best.calls mL mU mR X3 e3 th mV X5 e5 ms X6 e6 ml  bs wo 0 z11 XX.out.h XX.out.hc XX.out.s XX.out.sc XX.out.l XX.out.lc (HT.out ▸ HBE2.out)).mono ?_
   rintro e z12 ⟨vo_, rfl, ho_, hb_⟩
   replace B4 := Aside0.mk (blk_below B4.out hb_)
   replace B6 := Aside0.mk (blk_below B6.out hb_)
   replace B8 := Aside0.mk (blk_below B8.out hb_)
   replace B9 := Aside0.mk (blk_below B9.out hb_)
   replace B11 := Aside0.mk (blk_below B11.out hb_)
   replace B12 := Aside0.mk (blk_below B12.out hb_)
   replace B15 := Aside0.mk (blk_below B15.out hb_)
   replace B18 := Aside0.mk (blk_below B18.out hb_)
   replace RSC := Aside0.mk (Kd.C_below RSC.out hb_)
   replace OV1 := Aside0.mk (Kd.C_below OV1.out hb_)
   replace OV2 := Aside0.mk (Kd.C_below OV2.out hb_)
   replace BS1 := Aside0.mk (Kd.C_below BS1.out hb_)
   replace HB := Aside0.mk (below_step HB.out hb_)
   replace MX := Aside0.mk (MX.out.below hb_)
   replace XX := Aside0.mk (XX.out.below hb_)
   obtain ⟨Ar, cr, rfl⟩ := Kd.R_slice ho_
   have BS2 := Aside0.mk (Kd.R_reads' ho_).2.2
   have hBS2 := (Kd.R_reads' ho_).2.1
   clear ho_ hb_ hz0_ hz1_ hz2_ hz3_ hz4_ hz5_ hz6_
   have hE : ∀ (a b : Int) (w : World), (Op.equalIn 10000 56 (.agg #[.int .i64 a, .int .i64 b]) (.agg #[.int .i64 a, .int .i64 b])).run Try.prog w = .ok true w := fun a b w => by have := eqA56 9998 w a a b b; simpa using this
   go_upto_region 17 with (fail)
   have hd_ := below_drew1 (Below.refl z12.heap.size z12)
   have hg80_ := (blk_cell B8.out 0).trans rfl
   have hg81_ := (blk_cell B8.out 1).trans rfl
   have hg120_ := (blk_cell B12.out 0).trans rfl
   have hg121_ := (blk_cell B12.out 1).trans rfl
   have hg90_ := (blk_cell B9.out 0).trans rfl
   have hg91_ := (blk_cell B9.out 1).trans rfl
   have hg110_ := (blk_cell B11.out 0).trans rfl
   have hg111_ := (blk_cell B11.out 1).trans rfl
   have hg150_ := (blk_cell B15.out 0).trans rfl
   have hg151_ := (blk_cell B15.out 1).trans rfl
   have hg180_ := (blk_cell B18.out 0).trans rfl
   have hg181_ := (blk_cell B18.out 1).trans rfl
   replace B4 := Aside0.mk (blk_below B4.out hd_)
   replace B6 := Aside0.mk (blk_below B6.out hd_)
   replace B8 := Aside0.mk (blk_below B8.out hd_)
   replace B9 := Aside0.mk (blk_below B9.out hd_)
   replace B11 := Aside0.mk (blk_below B11.out hd_)
   replace B12 := Aside0.mk (blk_below B12.out hd_)
   replace B15 := Aside0.mk (blk_below B15.out hd_)
   replace B18 := Aside0.mk (blk_below B18.out hd_)
   replace RSC := Aside0.mk (Kd.C_below RSC.out hd_)
   replace OV1 := Aside0.mk (Kd.C_below OV1.out hd_)
   replace OV2 := Aside0.mk (Kd.C_below OV2.out hd_)
   replace BS1 := Aside0.mk (Kd.C_below BS1.out hd_)
   replace BS2 := Aside0.mk (Kd.C_below BS2.out hd_)
   replace HB := Aside0.mk (below_step HB.out hd_)
   replace MX := Aside0.mk (MX.out.below hd_)
   replace XX := Aside0.mk (XX.out.below hd_)
   clear hd_
   refine start_ (n := 80) (S := fun w' => w'.cell? ⟨g8, 0, none⟩ = some (.int .i64 pa) ∧ w'.cell? ⟨g8, 1, none⟩ = some (.int .i64 pb) ∧ w'.cell? ⟨g12, 0, none⟩ = some (.int .i64 pa) ∧ w'.cell? ⟨g12, 1, none⟩ = some (.int .i64 pb) ∧ w'.cell? ⟨g9, 0, none⟩ = some (.int .i64 pc) ∧ w'.cell? ⟨g9, 1, none⟩ = some (.int .i64 pd) ∧ w'.cell? ⟨g11, 0, none⟩ = some (.int .i64 pc) ∧ w'.cell? ⟨g11, 1, none⟩ = some (.int .i64 pd) ∧ w'.cell? ⟨g15, 0, none⟩ = some (.int .i64 y) ∧ w'.cell? ⟨g15, 1, none⟩ = some (.int .i64 z) ∧ w'.cell? ⟨g18, 0, none⟩ = some (.int .i64 p) ∧ w'.cell? ⟨g18, 1, none⟩ = some (.int .i64 r)) (ds := [69, 74, 77]) #[false, false, false, false, false, false, false, false, false, false, false, false, false, false, false, false, false, false, false, false, false, false, false, false, false, false, false, false, false, false, false, false, false, false, false, false, false, false, false, false, false, false, false, false, false, false, false, false, false, false, false, false, false, false, false, false, false, false, false, false, false, false, false, false, false, false, false, false, false, false, false, false, false, false, false, false, false, false, false, false] (by kernel_rfl) rfl rfl ⟨hg80_, hg81_, hg120_, hg121_, hg90_, hg91_, hg110_, hg111_, hg150_, hg151_, hg180_, hg181_⟩ (fun hHeld => ?_)
   generalize z12.drew = wd at B4 B6 B8 B9 B11 B12 B15 B18 RSC OV1 OV2 BS1 BS2 HB MX XX hHeld ⊢
   refine with_tabW turned12.tab17 turned12.bits17 (fun HT_ HW_ => ?_)
   refine pure_ (i := 0) (N := some 127) (v := ?_) (a' := ?_) (bz 80 1) rfl rfl (any_of HT_.out (by kernel_rfl)) (fun _ _ _ h => h) (Or.inl ⟨by rfl, ?_⟩) ?_ ?_
   rotate_left
   ·
    intro w'
    go_simp
    with_reducible rfl
   rotate_left
   ·
    refine (put_lit _ _ _ _).trans ?_; dsimp only [List.set_cons_succ, List.set_cons_zero]
    rfl
   refine pure_ (i := 1) (N := some 128) (v := ?_) (a' := ?_) (bz 80 3) rfl rfl (any_of HT_.out (by kernel_rfl)) (fun _ _ _ h => h) (Or.inl ⟨by rfl, ?_⟩) ?_ ?_
   rotate_left
   ·
    intro w'
    go_simp
    with_reducible rfl
   rotate_left
   ·
    refine (put_lit _ _ _ _).trans ?_; dsimp only [List.set_cons_succ, List.set_cons_zero]
    rfl
   refine pure_ (i := 2) (N := some 129) (v := ?_) (a' := ?_) (bz 80 7) rfl rfl (any_of HT_.out (by kernel_rfl)) (fun _ _ _ h => h) (Or.inl ⟨by rfl, ?_⟩) ?_ ?_
   rotate_left
   ·
    intro w'
    go_simp
    with_reducible rfl
   rotate_left
   ·
    refine (put_lit _ _ _ _).trans ?_; dsimp only [List.set_cons_succ, List.set_cons_zero]
    rfl
   refine pure_ (i := 3) (N := some 130) (v := ?_) (a' := ?_) (bz 80 15) rfl rfl (any_of HT_.out (by kernel_rfl)) (fun _ _ _ h => h) (Or.inl ⟨by rfl, ?_⟩) ?_ ?_
   rotate_left
   ·
    intro w'
    go_simp
    with_reducible rfl
   rotate_left
   ·
    refine (put_lit _ _ _ _).trans ?_; dsimp only [List.set_cons_succ, List.set_cons_zero]
    rfl
   refine pure_ (i := 4) (N := some 131) (v := ?_) (a' := ?_) (bz 80 31) rfl rfl (any_of HT_.out (by kernel_rfl)) (fun _ _ _ h => h) (Or.inl ⟨by rfl, ?_⟩) ?_ ?_
   rotate_left
   ·
    intro w'
    go_simp
    with_reducible rfl
   rotate_left
   ·
    refine (put_lit _ _ _ _).trans ?_; dsimp only [List.set_cons_succ, List.set_cons_zero]
    rfl
   refine pure_ (i := 5) (N := some 132) (v := ?_) (a' := ?_) (bz 80 63) rfl rfl (any_of HT_.out (by kernel_rfl)) (fun _ _ _ h => h) (Or.inl ⟨by rfl, ?_⟩) ?_ ?_
   rotate_left
   ·
    intro w'
    go_simp
    with_reducible rfl
   rotate_left
   ·
    refine (put_lit _ _ _ _).trans ?_; dsimp only [List.set_cons_succ, List.set_cons_zero]
    rfl
   refine pure_ (i := 6) (N := some 133) (v := ?_) (a' := ?_) (bz 80 127) rfl rfl (any_of HT_.out (by kernel_rfl)) (fun _ _ _ h => h) (Or.inl ⟨by rfl, ?_⟩) ?_ ?_
   rotate_left
   ·
    intro w'
    go_simp
    with_reducible rfl
   rotate_left
   ·
    refine (put_lit _ _ _ _).trans ?_; dsimp only [List.set_cons_succ, List.set_cons_zero]
    rfl
   refine pure_ (i := 7) (N := some 134) (v := ?_) (a' := ?_) (bz 80 255) rfl rfl (any_of HT_.out (by kernel_rfl)) (fun _ _ _ h => h) (Or.inl ⟨by rfl, ?_⟩) ?_ ?_
   rotate_left
   ·
    intro w'
    go_simp
    with_reducible rfl
   rotate_left
   ·
    refine (put_lit _ _ _ _).trans ?_; dsimp only [List.set_cons_succ, List.set_cons_zero]
    rfl
   refine pure_ (i := 8) (N := some 135) (v := ?_) (a' := ?_) (bz 80 511) rfl rfl (any_of HT_.out (by kernel_rfl)) (fun _ _ _ h => h) (Or.inl ⟨by rfl, ?_⟩) ?_ ?_
   rotate_left
   ·
    intro w'
    go_simp
    with_reducible rfl
   rotate_left
   ·
    refine (put_lit _ _ _ _).trans ?_; dsimp only [List.set_cons_succ, List.set_cons_zero]
    rfl
   refine pure_ (i := 9) (N := some 136) (v := ?_) (a' := ?_) (bz 80 1023) rfl rfl (any_of HT_.out (by kernel_rfl)) (fun _ _ _ h => h) (Or.inl ⟨by rfl, ?_⟩) ?_ ?_
   rotate_left
   ·
    intro w'
    go_simp
    with_reducible rfl
   rotate_left
   ·
    refine (put_lit _ _ _ _).trans ?_; dsimp only [List.set_cons_succ, List.set_cons_zero]
    rfl
   refine pure_ (i := 10) (N := some 137) (v := ?_) (a' := ?_) (bz 80 2047) rfl rfl (any_of HT_.out (by kernel_rfl)) (fun _ _ _ h => h) (Or.inl ⟨by rfl, ?_⟩) ?_ ?_
   rotate_left
   ·
    intro w'
    go_simp
    with_reducible rfl
   rotate_left
   ·
    refine (put_lit _ _ _ _).trans ?_; dsimp only [List.set_cons_succ, List.set_cons_zero]
    rfl
   refine pure_ (i := 11) (N := some 138) (v := ?_) (a' := ?_) (bz 80 4095) rfl rfl (any_of HT_.out (by kernel_rfl)) (fun _ _ _ h => h) (Or.inl ⟨by rfl, ?_⟩) ?_ ?_
   rotate_left
   ·
    intro w'
    go_simp
    with_reducible rfl
   rotate_left
   ·
    refine (put_lit _ _ _ _).trans ?_; dsimp only [List.set_cons_succ, List.set_cons_zero]
    rfl
   refine pure_ (i := 12) (N := some 139) (v := ?_) (a' := ?_) (bz 80 8191) rfl rfl (any_of HT_.out (by kernel_rfl)) (fun _ _ _ h => h) (Or.inl ⟨by rfl, ?_⟩) ?_ ?_
   rotate_left
   ·
    intro w'
    go_simp
    with_reducible rfl
   rotate_left
   ·
    refine (put_lit _ _ _ _).trans ?_; dsimp only [List.set_cons_succ, List.set_cons_zero]
    rfl
   refine pure_ (i := 13) (N := some 140) (v := ?_) (a' := ?_) (bz 80 16383) rfl rfl (any_of HT_.out (by kernel_rfl)) (fun _ _ _ h => h) (Or.inl ⟨by rfl, ?_⟩) ?_ ?_
   rotate_left
   ·
    intro w'
    go_simp
    with_reducible rfl
   rotate_left
   ·
    refine (put_lit _ _ _ _).trans ?_; dsimp only [List.set_cons_succ, List.set_cons_zero]
    rfl
   refine pure_ (i := 14) (N := some 141) (v := ?_) (a' := ?_) (bz 80 32767) rfl rfl (any_of HT_.out (by kernel_rfl)) (fun _ _ _ h => h) (Or.inl ⟨by rfl, ?_⟩) ?_ ?_
   rotate_left
   ·
    intro w'
    go_simp
    with_reducible rfl
   rotate_left
   ·
    refine (put_lit _ _ _ _).trans ?_; dsimp only [List.set_cons_succ, List.set_cons_zero]
    rfl
   refine pure_ (i := 15) (N := some 142) (v := ?_) (a' := ?_) (bz 80 65535) rfl rfl (any_of HT_.out (by kernel_rfl)) (fun _ _ _ h => h) (Or.inl ⟨by rfl, ?_⟩) ?_ ?_
   rotate_left
   ·
    intro w'
    go_simp
    with_reducible rfl
   rotate_left
   ·
    refine (put_lit _ _ _ _).trans ?_; dsimp only [List.set_cons_succ, List.set_cons_zero]
    rfl
   refine pure_ (i := 16) (N := some 143) (v := ?_) (a' := ?_) (bz 80 131071) rfl rfl (any_of HT_.out (by kernel_rfl)) (fun _ _ _ h => h) (Or.inl ⟨by rfl, ?_⟩) ?_ ?_
   rotate_left
   ·
    intro w'
    go_simp
    with_reducible rfl
   rotate_left
   ·
    refine (put_lit _ _ _ _).trans ?_; dsimp only [List.set_cons_succ, List.set_cons_zero]
    rfl
   refine pure_ (i := 17) (N := some 144) (v := ?_) (a' := ?_) (bz 80 262143) rfl rfl (any_of HT_.out (by kernel_rfl)) (fun _ _ _ h => h) (Or.inl ⟨by rfl, ?_⟩) ?_ ?_
   rotate_left
   ·
    intro w'
    go_simp
    with_reducible rfl
   rotate_left
   ·
    refine (put_lit _ _ _ _).trans ?_; dsimp only [List.set_cons_succ, List.set_cons_zero]
    rfl
   refine pure_ (i := 18) (N := some 145) (v := ?_) (a' := ?_) (bz 80 524287) rfl rfl (any_of HT_.out (by kernel_rfl)) (fun _ _ _ h => h) (Or.inl ⟨by rfl, ?_⟩) ?_ ?_
   rotate_left
   ·
    intro w'
    go_simp
    with_reducible rfl
   rotate_left
   ·
    refine (put_lit _ _ _ _).trans ?_; dsimp only [List.set_cons_succ, List.set_cons_zero]
    rfl
   refine pure_ (i := 19) (N := some 146) (v := ?_) (a' := ?_) (bz 80 1048575) rfl rfl (any_of HT_.out (by kernel_rfl)) (fun _ _ _ h => h) (Or.inl ⟨by rfl, ?_⟩) ?_ ?_
   rotate_left
   ·
    intro w'
    go_simp
    with_reducible rfl
   rotate_left
   ·
    refine (put_lit _ _ _ _).trans ?_; dsimp only [List.set_cons_succ, List.set_cons_zero]
    rfl
   refine pure_ (i := 20) (N := some 147) (v := ?_) (a' := ?_) (bz 80 2097151) rfl rfl (any_of HT_.out (by kernel_rfl)) (fun _ _ _ h => h) (Or.inl ⟨by rfl, ?_⟩) ?_ ?_
   rotate_left
   ·
    intro w'
    go_simp
    with_reducible rfl
   rotate_left
   ·
    refine (put_lit _ _ _ _).trans ?_; dsimp only [List.set_cons_succ, List.set_cons_zero]
    rfl
   refine pure_ (i := 21) (N := some 148) (v := ?_) (a' := ?_) (bz 80 4194303) rfl rfl (any_of HT_.out (by kernel_rfl)) (fun _ _ _ h => h) (Or.inl ⟨by rfl, ?_⟩) ?_ ?_
   rotate_left
   ·
    intro w'
    go_simp
    with_reducible rfl
   rotate_left
   ·
    refine (put_lit _ _ _ _).trans ?_; dsimp only [List.set_cons_succ, List.set_cons_zero]
    rfl
   refine pure_ (i := 22) (N := some 149) (v := ?_) (a' := ?_) (bz 80 8388607) rfl rfl (any_of HT_.out (by kernel_rfl)) (fun _ _ _ h => h) (Or.inl ⟨by rfl, ?_⟩) ?_ ?_
   rotate_left
   ·
    intro w'
    go_simp
    with_reducible rfl
   rotate_left
   ·
    refine (put_lit _ _ _ _).trans ?_; dsimp only [List.set_cons_succ, List.set_cons_zero]
    rfl
   refine pure_ (i := 23) (N := some 150) (v := ?_) (a' := ?_) (bz 80 16777215) rfl rfl (any_of HT_.out (by kernel_rfl)) (fun _ _ _ h => h) (Or.inl ⟨by rfl, ?_⟩) ?_ ?_
   rotate_left
   ·
    intro w'
    go_simp
    with_reducible rfl
   rotate_left
   ·
    refine (put_lit _ _ _ _).trans ?_; dsimp only [List.set_cons_succ, List.set_cons_zero]
    rfl
   refine pure_ (i := 24) (N := some 151) (v := ?_) (a' := ?_) (bz 80 33554431) rfl rfl (any_of HT_.out (by kernel_rfl)) (fun _ _ _ h => h) (Or.inl ⟨by rfl, ?_⟩) ?_ ?_
   rotate_left
   ·
    intro w'
    go_simp
    with_reducible rfl
   rotate_left
   ·
    refine (put_lit _ _ _ _).trans ?_; dsimp only [List.set_cons_succ, List.set_cons_zero]
    rfl
   refine pure_ (i := 25) (N := some 152) (v := ?_) (a' := ?_) (bz 80 67108863) rfl rfl (any_of HT_.out (by kernel_rfl)) (fun _ _ _ h => h) (Or.inl ⟨by rfl, ?_⟩) ?_ ?_
   rotate_left
   ·
    intro w'
    go_simp
    with_reducible rfl
   rotate_left
   ·
    refine (put_lit _ _ _ _).trans ?_; dsimp only [List.set_cons_succ, List.set_cons_zero]
    rfl
   refine pure_ (i := 26) (N := some 153) (v := ?_) (a' := ?_) (bz 80 134217727) rfl rfl (any_of HT_.out (by kernel_rfl)) (fun _ _ _ h => h) (Or.inl ⟨by rfl, ?_⟩) ?_ ?_
   rotate_left
   ·
    intro w'
    go_simp
    with_reducible rfl
   rotate_left
   ·
    refine (put_lit _ _ _ _).trans ?_; dsimp only [List.set_cons_succ, List.set_cons_zero]
    rfl
   refine pure_ (i := 27) (N := some 154) (v := ?_) (a' := ?_) (bz 80 268435455) rfl rfl (any_of HT_.out (by kernel_rfl)) (fun _ _ _ h => h) (Or.inl ⟨by rfl, ?_⟩) ?_ ?_
   rotate_left
   ·
    intro w'
    go_simp
    with_reducible rfl
   rotate_left
   ·
    refine (put_lit _ _ _ _).trans ?_; dsimp only [List.set_cons_succ, List.set_cons_zero]
    rfl
   refine pure_ (i := 28) (N := some 155) (v := ?_) (a' := ?_) (bz 80 536870911) rfl rfl (any_of HT_.out (by kernel_rfl)) (fun _ _ _ h => h) (Or.inl ⟨by rfl, ?_⟩) ?_ ?_
   rotate_left
   ·
    intro w'
    go_simp
    with_reducible rfl
   rotate_left
   ·
    refine (put_lit _ _ _ _).trans ?_; dsimp only [List.set_cons_succ, List.set_cons_zero]
    rfl
   refine pure_ (i := 29) (N := some 156) (v := ?_) (a' := ?_) (bz 80 1073741823) rfl rfl (any_of HT_.out (by kernel_rfl)) (fun _ _ _ h => h) (Or.inl ⟨by rfl, ?_⟩) ?_ ?_
   rotate_left
   ·
    intro w'
    go_simp
    with_reducible rfl
   rotate_left
   ·
    refine (put_lit _ _ _ _).trans ?_; dsimp only [List.set_cons_succ, List.set_cons_zero]
    rfl
   refine pure_ (i := 30) (N := some 157) (v := ?_) (a' := ?_) (bz 80 2147483647) rfl rfl (any_of HT_.out (by kernel_rfl)) (fun _ _ _ h => h) (Or.inl ⟨by rfl, ?_⟩) ?_ ?_
   rotate_left
   ·
    intro w'
    go_simp
    with_reducible rfl
   rotate_left
   ·
    refine (put_lit _ _ _ _).trans ?_; dsimp only [List.set_cons_succ, List.set_cons_zero]
    rfl
   refine take_ (i := 31) (N := some 158) (v := ?_) (a' := ?_) (bz 80 4294967295) rfl rfl (take_ofW HT_.out HW_.out (by kernel_rfl)) (fun _ _ _ h => h) (Or.inl ⟨by rfl, ?_⟩) hHeld ?_ ?_
   rotate_left
   ·
    rintro w' ⟨s0, s1, s2, s3, s4, s5, s6, s7, s8, s9, s10, s11⟩
    go_simp
    with_reducible rfl
   rotate_left
   ·
    refine (put_lit _ _ _ _).trans ?_; dsimp only [List.set_cons_succ, List.set_cons_zero]
    rfl
   refine take_ (i := 32) (N := some 159) (v := ?_) (a' := ?_) (bz 80 8589934591) rfl rfl (take_ofW HT_.out HW_.out (by kernel_rfl)) (fun _ _ _ h => h) (Or.inl ⟨by rfl, ?_⟩) hHeld ?_ ?_
   rotate_left
   ·
    rintro w' ⟨s0, s1, s2, s3, s4, s5, s6, s7, s8, s9, s10, s11⟩
    go_simp
    with_reducible rfl
   rotate_left
   ·
    refine (put_lit _ _ _ _).trans ?_; dsimp only [List.set_cons_succ, List.set_cons_zero]
    rfl
   refine pure_ (i := 33) (N := some 160) (v := ?_) (a' := ?_) (bz 80 17179869183) rfl rfl (any_of HT_.out (by kernel_rfl)) (fun _ _ _ h => h) (Or.inl ⟨by rfl, ?_⟩) ?_ ?_
   rotate_left
   ·
    intro w'
    go_simp
    with_reducible rfl
   rotate_left
   ·
    refine (put_lit _ _ _ _).trans ?_; dsimp only [List.set_cons_succ, List.set_cons_zero]
    rfl
   refine pure_ (i := 34) (N := some 161) (v := ?_) (a' := ?_) (bz 80 34359738367) rfl rfl (any_of HT_.out (by kernel_rfl)) (fun _ _ _ h => h) (Or.inl ⟨by rfl, ?_⟩) ?_ ?_
   rotate_left
   ·
    intro w'
    go_simp
    with_reducible rfl
   rotate_left
   ·
    refine (put_lit _ _ _ _).trans ?_; dsimp only [List.set_cons_succ, List.set_cons_zero]
    rfl
   refine pure_ (i := 35) (N := some 162) (v := ?_) (a' := ?_) (bz 80 68719476735) rfl rfl (any_of HT_.out (by kernel_rfl)) (fun _ _ _ h => h) (Or.inl ⟨by rfl, ?_⟩) ?_ ?_
   rotate_left
   ·
    intro w'
    go_simp
    with_reducible rfl
   rotate_left
   ·
    refine (put_lit _ _ _ _).trans ?_; dsimp only [List.set_cons_succ, List.set_cons_zero]
    rfl
   refine take_ (i := 36) (N := some 163) (v := ?_) (a' := ?_) (bz 80 137438953471) rfl rfl (take_ofW HT_.out HW_.out (by kernel_rfl)) (fun _ _ _ h => h) (Or.inl ⟨by rfl, ?_⟩) hHeld ?_ ?_
   rotate_left
   ·
    rintro w' ⟨s0, s1, s2, s3, s4, s5, s6, s7, s8, s9, s10, s11⟩
    go_simp
    with_reducible rfl
   rotate_left
   ·
    refine (put_lit _ _ _ _).trans ?_; dsimp only [List.set_cons_succ, List.set_cons_zero]
    rfl
   refine take_ (i := 37) (N := some 164) (v := ?_) (a' := ?_) (bz 80 274877906943) rfl rfl (take_ofW HT_.out HW_.out (by kernel_rfl)) (fun _ _ _ h => h) (Or.inl ⟨by rfl, ?_⟩) hHeld ?_ ?_
   rotate_left
   ·
    rintro w' ⟨s0, s1, s2, s3, s4, s5, s6, s7, s8, s9, s10, s11⟩
    go_simp
    with_reducible rfl
   rotate_left
   ·
    refine (put_lit _ _ _ _).trans ?_; dsimp only [List.set_cons_succ, List.set_cons_zero]
    rfl
   refine pure_ (i := 38) (N := some 165) (v := ?_) (a' := ?_) (bz 80 549755813887) rfl rfl (any_of HT_.out (by kernel_rfl)) (fun _ _ _ h => h) (Or.inl ⟨by rfl, ?_⟩) ?_ ?_
   rotate_left
   ·
    intro w'
    go_simp
    with_reducible rfl
   rotate_left
   ·
    refine (put_lit _ _ _ _).trans ?_; dsimp only [List.set_cons_succ, List.set_cons_zero]
    rfl
   refine pure_ (i := 39) (N := some 166) (v := ?_) (a' := ?_) (bz 80 1099511627775) rfl rfl (any_of HT_.out (by kernel_rfl)) (fun _ _ _ h => h) (Or.inl ⟨by rfl, ?_⟩) ?_ ?_
   rotate_left
   ·
    intro w'
    go_simp
    with_reducible rfl
   rotate_left
   ·
    refine (put_lit _ _ _ _).trans ?_; dsimp only [List.set_cons_succ, List.set_cons_zero]
    rfl
   refine pure_ (i := 40) (N := some 167) (v := ?_) (a' := ?_) (bz 80 2199023255551) rfl rfl (any_of HT_.out (by kernel_rfl)) (fun _ _ _ h => h) (Or.inl ⟨by rfl, ?_⟩) ?_ ?_
   rotate_left
   ·
    intro w'
    go_simp
    with_reducible rfl
   rotate_left
   ·
    refine (put_lit _ _ _ _).trans ?_; dsimp only [List.set_cons_succ, List.set_cons_zero]
    rfl
   refine pure_ (i := 41) (N := some 168) (v := ?_) (a' := ?_) (bz 80 4398046511103) rfl rfl (any_of HT_.out (by kernel_rfl)) (fun _ _ _ h => h) (Or.inl ⟨by rfl, ?_⟩) ?_ ?_
   rotate_left
   ·
    intro w'
    go_simp
    with_reducible rfl
   rotate_left
   ·
    refine (put_lit _ _ _ _).trans ?_; dsimp only [List.set_cons_succ, List.set_cons_zero]
    rfl
   refine pure_ (i := 42) (N := some 169) (v := ?_) (a' := ?_) (bz 80 8796093022207) rfl rfl (any_of HT_.out (by kernel_rfl)) (fun _ _ _ h => h) (Or.inl ⟨by rfl, ?_⟩) ?_ ?_
   rotate_left
   ·
    intro w'
    go_simp
    with_reducible rfl
   rotate_left
   ·
    refine (put_lit _ _ _ _).trans ?_; dsimp only [List.set_cons_succ, List.set_cons_zero]
    rfl
   refine pure_ (i := 43) (N := some 170) (v := ?_) (a' := ?_) (bz 80 17592186044415) rfl rfl (any_of HT_.out (by kernel_rfl)) (fun _ _ _ h => h) (Or.inl ⟨by rfl, ?_⟩) ?_ ?_
   rotate_left
   ·
    intro w'
    go_simp
    with_reducible rfl
   rotate_left
   ·
    refine (put_lit _ _ _ _).trans ?_; dsimp only [List.set_cons_succ, List.set_cons_zero]
    rfl
   refine pure_ (i := 44) (N := some 171) (v := ?_) (a' := ?_) (bz 80 35184372088831) rfl rfl (any_of HT_.out (by kernel_rfl)) (fun _ _ _ h => h) (Or.inl ⟨by rfl, ?_⟩) ?_ ?_
   rotate_left
   ·
    intro w'
    go_simp
    with_reducible rfl
   rotate_left
   ·
    refine (put_lit _ _ _ _).trans ?_; dsimp only [List.set_cons_succ, List.set_cons_zero]
    rfl
   refine pure_ (i := 45) (N := some 172) (v := ?_) (a' := ?_) (bz 80 70368744177663) rfl rfl (any_of HT_.out (by kernel_rfl)) (fun _ _ _ h => h) (Or.inl ⟨by rfl, ?_⟩) ?_ ?_
   rotate_left
   ·
    intro w'
    go_simp
    with_reducible rfl
   rotate_left
   ·
    refine (put_lit _ _ _ _).trans ?_; dsimp only [List.set_cons_succ, List.set_cons_zero]
    rfl
   refine pure_ (i := 47) (N := some 174) (v := ?_) (a' := ?_) (bz 80 211106232532991) rfl rfl (any_of HT_.out (by kernel_rfl)) (fun _ _ _ h => h) (Or.inl ⟨by rfl, ?_⟩) ?_ ?_
   rotate_left
   ·
    intro w'
    go_simp
    with_reducible rfl
   rotate_left
   ·
    refine (put_lit _ _ _ _).trans ?_; dsimp only [List.set_cons_succ, List.set_cons_zero]
    rfl
   refine pure_ (i := 50) (N := some 177) (v := ?_) (a' := ?_) (bz 80 1337006139375615) rfl rfl (any_of HT_.out (by kernel_rfl)) (fun _ _ _ h => h) (Or.inl ⟨by rfl, ?_⟩) ?_ ?_
   rotate_left
   ·
    intro w'
    go_simp
    with_reducible rfl
   rotate_left
   ·
    refine (put_lit _ _ _ _).trans ?_; dsimp only [List.set_cons_succ, List.set_cons_zero]
    rfl
   refine take_ (i := 46) (N := some 173) (v := ?_) (a' := ?_) (bz 80 1407374883553279) rfl rfl (take_ofW HT_.out HW_.out (by kernel_rfl)) (fun _ _ _ h => h) (Or.inl ⟨by rfl, ?_⟩) hHeld ?_ ?_
   rotate_left
   ·
    rintro w' ⟨s0, s1, s2, s3, s4, s5, s6, s7, s8, s9, s10, s11⟩
    go_simp
    with_reducible rfl
   rotate_left
   ·
    refine (put_lit _ _ _ _).trans ?_; dsimp only [List.set_cons_succ, List.set_cons_zero]
    rfl
   refine take_ (i := 48) (N := some 175) (v := ?_) (a' := ?_) (bz 80 1688849860263935) rfl rfl (take_ofW HT_.out HW_.out (by kernel_rfl)) (fun _ _ _ h => h) (Or.inl ⟨by rfl, ?_⟩) hHeld ?_ ?_
   rotate_left
   ·
    rintro w' ⟨s0, s1, s2, s3, s4, s5, s6, s7, s8, s9, s10, s11⟩
    go_simp
    with_reducible rfl
   rotate_left
   ·
    refine (put_lit _ _ _ _).trans ?_; dsimp only [List.set_cons_succ, List.set_cons_zero]
    rfl
   refine pure_ (i := 49) (N := some 176) (v := ?_) (a' := ?_) (bz 80 2251799813685247) rfl rfl (any_of HT_.out (by kernel_rfl)) (fun _ _ _ h => h) (Or.inl ⟨by rfl, ?_⟩) ?_ ?_
   rotate_left
   ·
    intro w'
    go_simp
    with_reducible rfl
   rotate_left
   ·
    refine (put_lit _ _ _ _).trans ?_; dsimp only [List.set_cons_succ, List.set_cons_zero]
    rfl
   refine take_ (i := 51) (N := some 178) (v := ?_) (a' := ?_) (bz 80 4503599627370495) rfl rfl (take_ofW HT_.out HW_.out (by kernel_rfl)) (fun _ _ _ h => h) (Or.inl ⟨by rfl, ?_⟩) hHeld ?_ ?_
   rotate_left
   ·
    rintro w' ⟨s0, s1, s2, s3, s4, s5, s6, s7, s8, s9, s10, s11⟩
    go_simp
    with_reducible rfl
   rotate_left
   ·
    refine (put_lit _ _ _ _).trans ?_; dsimp only [List.set_cons_succ, List.set_cons_zero]
    rfl
   refine pure_ (i := 52) (N := some 179) (v := ?_) (a' := ?_) (bz 80 9007199254740991) rfl rfl (any_of HT_.out (by kernel_rfl)) (fun _ _ _ h => h) (Or.inl ⟨by rfl, ?_⟩) ?_ ?_
   rotate_left
   ·
    intro w'
    go_simp
    with_reducible rfl
   rotate_left
   ·
    refine (put_lit _ _ _ _).trans ?_; dsimp only [List.set_cons_succ, List.set_cons_zero]
    rfl
   refine one_ (i := 53) (N := some 180) (bz 80 18014398509481983) rfl rfl (one_of HT_.out (by kernel_rfl)) (by decide) (fun K hK => ?_)
   refine goes_ Try.func32 (by kernel_rfl) rfl #[.int .i64 (IntKind.i64.wrap (-r)), .int .i64 (IntKind.i64.wrap (-p))] (by rfl) rfl rfl (by (try simp only [List.map_toArray, List.map_cons, List.map_nil]); first | done | rfl) ?_
   with_reducible refine (swarflaw07_rng.calls (IntKind.i64.wrap (-r)) (IntKind.i64.wrap (-p)) y z _ HNG.out).mono ?_
   rintro e v53_ ⟨rfl, hb_⟩
   replace B8 := Aside0.mk (blk_below B8.out hb_)
   replace B12 := Aside0.mk (blk_below B12.out hb_)
   replace B9 := Aside0.mk (blk_below B9.out hb_)
   replace B11 := Aside0.mk (blk_below B11.out hb_)
   replace B15 := Aside0.mk (blk_below B15.out hb_)
   replace B18 := Aside0.mk (blk_below B18.out hb_)
   replace OV1 := Aside0.mk (Kd.C_below OV1.out hb_)
   replace OV2 := Aside0.mk (Kd.C_below OV2.out hb_)
   replace BS1 := Aside0.mk (Kd.C_below BS1.out hb_)
   replace BS2 := Aside0.mk (Kd.C_below BS2.out hb_)
   replace HB := Aside0.mk (below_step HB.out hb_)
   clear hb_
   refine ⟨_, rfl, ?_⟩
   refine hK.out _ _ ⟨(blk_cell B8.out 0).trans rfl, (blk_cell B8.out 1).trans rfl, (blk_cell B12.out 0).trans rfl, (blk_cell B12.out 1).trans rfl, (blk_cell B9.out 0).trans rfl, (blk_cell B9.out 1).trans rfl, (blk_cell B11.out 0).trans rfl, (blk_cell B11.out 1).trans rfl, (blk_cell B15.out 0).trans rfl, (blk_cell B15.out 1).trans rfl, (blk_cell B18.out 0).trans rfl, (blk_cell B18.out 1).trans rfl⟩ (fun hHeld => ?_)
   clear hK K
   refine norm_ (a' := ?_) ?_ ?_
   rotate_left
   ·
    show Act.put _ (some 180) _ = _
    refine (put_lit _ _ _ _).trans ?_; dsimp only [List.set_cons_succ, List.set_cons_zero]
    rfl
   refine pure_ (i := 54) (N := some 181) (v := ?_) (a' := ?_) (bz 80 36028797018963967) rfl rfl (any_of HT_.out (by kernel_rfl)) (fun _ _ _ h => h) (Or.inl ⟨by rfl, ?_⟩) ?_ ?_
   rotate_left
   ·
    intro w'
    go_simp
    with_reducible rfl
   rotate_left
   ·
    refine (put_lit _ _ _ _).trans ?_; dsimp only [List.set_cons_succ, List.set_cons_zero]
    rfl
   refine pure_ (i := 55) (N := some 182) (v := ?_) (a' := ?_) (bz 80 72057594037927935) rfl rfl (any_of HT_.out (by kernel_rfl)) (fun _ _ _ h => h) (Or.inl ⟨by rfl, ?_⟩) ?_ ?_
   rotate_left
   ·
    intro w'
    go_simp
    with_reducible rfl
   rotate_left
   ·
    refine (put_lit _ _ _ _).trans ?_; dsimp only [List.set_cons_succ, List.set_cons_zero]
    rfl
   refine pure_ (i := 56) (N := some 183) (v := ?_) (a' := ?_) (bz 80 144115188075855871) rfl rfl (any_of HT_.out (by kernel_rfl)) (fun _ _ _ h => h) (Or.inl ⟨by rfl, ?_⟩) ?_ ?_
   rotate_left
   ·
    intro w'
    go_simp
    with_reducible rfl
   rotate_left
   ·
    refine (put_lit _ _ _ _).trans ?_; dsimp only [List.set_cons_succ, List.set_cons_zero]
    rfl
   refine pure_ (i := 57) (N := some 184) (v := ?_) (a' := ?_) (bz 80 288230376151711743) rfl rfl (any_of HT_.out (by kernel_rfl)) (fun _ _ _ h => h) (Or.inl ⟨by rfl, ?_⟩) ?_ ?_
   rotate_left
   ·
    intro w'
    go_simp
    with_reducible rfl
   rotate_left
   ·
    refine (put_lit _ _ _ _).trans ?_; dsimp only [List.set_cons_succ, List.set_cons_zero]
    rfl
   refine pure_ (i := 58) (N := some 185) (v := ?_) (a' := ?_) (bz 80 576460752303423487) rfl rfl (any_of HT_.out (by kernel_rfl)) (fun _ _ _ h => h) (Or.inl ⟨by rfl, ?_⟩) ?_ ?_
   rotate_left
   ·
    intro w'
    go_simp
    with_reducible rfl
   rotate_left
   ·
    refine (put_lit _ _ _ _).trans ?_; dsimp only [List.set_cons_succ, List.set_cons_zero]
    rfl
   refine pure_ (i := 59) (N := some 186) (v := ?_) (a' := ?_) (bz 80 1152921504606846975) rfl rfl (any_of HT_.out (by kernel_rfl)) (fun _ _ _ h => h) (Or.inl ⟨by rfl, ?_⟩) ?_ ?_
   rotate_left
   ·
    intro w'
    go_simp
    with_reducible rfl
   rotate_left
   ·
    refine (put_lit _ _ _ _).trans ?_; dsimp only [List.set_cons_succ, List.set_cons_zero]
    rfl
   refine pure_ (i := 60) (N := some 187) (v := ?_) (a' := ?_) (bz 80 2305843009213693951) rfl rfl (any_of HT_.out (by kernel_rfl)) (fun _ _ _ h => h) (Or.inl ⟨by rfl, ?_⟩) ?_ ?_
   rotate_left
   ·
    intro w'
    go_simp
    with_reducible rfl
   rotate_left
   ·
    refine (put_lit _ _ _ _).trans ?_; dsimp only [List.set_cons_succ, List.set_cons_zero]
    rfl
   refine pure_ (i := 61) (N := some 188) (v := ?_) (a' := ?_) (bz 80 4611686018427387903) rfl rfl (any_of HT_.out (by kernel_rfl)) (fun _ _ _ h => h) (Or.inl ⟨by rfl, ?_⟩) ?_ ?_
   rotate_left
   ·
    intro w'
    go_simp
    with_reducible rfl
   rotate_left
   ·
    refine (put_lit _ _ _ _).trans ?_; dsimp only [List.set_cons_succ, List.set_cons_zero]
    rfl
   refine pure_ (i := 62) (N := some 189) (v := ?_) (a' := ?_) (bz 80 9223372036854775807) rfl rfl (any_of HT_.out (by kernel_rfl)) (fun _ _ _ h => h) (Or.inl ⟨by rfl, ?_⟩) ?_ ?_
   rotate_left
   ·
    intro w'
    go_simp
    with_reducible rfl
   rotate_left
   ·
    refine (put_lit _ _ _ _).trans ?_; dsimp only [List.set_cons_succ, List.set_cons_zero]
    rfl
   refine pure_ (i := 63) (N := some 190) (v := ?_) (a' := ?_) (bz 80 18446744073709551615) rfl rfl (any_of HT_.out (by kernel_rfl)) (fun _ _ _ h => h) (Or.inl ⟨by rfl, ?_⟩) ?_ ?_
   rotate_left
   ·
    intro w'
    go_simp
    with_reducible rfl
   rotate_left
   ·
    refine (put_lit _ _ _ _).trans ?_; dsimp only [List.set_cons_succ, List.set_cons_zero]
    rfl
   refine pure_ (i := 64) (N := some 191) (v := ?_) (a' := ?_) (bz 80 36893488147419103231) rfl rfl (any_of HT_.out (by kernel_rfl)) (fun _ _ _ h => h) (Or.inl ⟨by rfl, ?_⟩) ?_ ?_
   rotate_left
   ·
    intro w'
    go_simp
    with_reducible rfl
   rotate_left
   ·
    refine (put_lit _ _ _ _).trans ?_; dsimp only [List.set_cons_succ, List.set_cons_zero]
    rfl
   refine pure_ (i := 65) (N := some 192) (v := ?_) (a' := ?_) (bz 80 73786976294838206463) rfl rfl (any_of HT_.out (by kernel_rfl)) (fun _ _ _ h => h) (Or.inl ⟨by rfl, ?_⟩) ?_ ?_
   rotate_left
   ·
    intro w'
    go_simp
    with_reducible rfl
   rotate_left
   ·
    refine (put_lit _ _ _ _).trans ?_; dsimp only [List.set_cons_succ, List.set_cons_zero]
    rfl
   refine pure_ (i := 66) (N := some 193) (v := ?_) (a' := ?_) (bz 80 147573952589676412927) rfl rfl (any_of HT_.out (by kernel_rfl)) (fun _ _ _ h => h) (Or.inl ⟨by rfl, ?_⟩) ?_ ?_
   rotate_left
   ·
    intro w'
    go_simp
    with_reducible rfl
   rotate_left
   ·
    refine (put_lit _ _ _ _).trans ?_; dsimp only [List.set_cons_succ, List.set_cons_zero]
    rfl
   refine pure_ (i := 67) (N := some 194) (v := ?_) (a' := ?_) (bz 80 295147905179352825855) rfl rfl (any_of HT_.out (by kernel_rfl)) (fun _ _ _ h => h) (Or.inl ⟨by rfl, ?_⟩) ?_ ?_
   rotate_left
   ·
    intro w'
    go_simp
    with_reducible rfl
   rotate_left
   ·
    refine (put_lit _ _ _ _).trans ?_; dsimp only [List.set_cons_succ, List.set_cons_zero]
    rfl
   refine pure_ (i := 68) (N := some 195) (v := ?_) (a' := ?_) (bz 80 590295810358705651711) rfl rfl (any_of HT_.out (by kernel_rfl)) (fun _ _ _ h => h) (Or.inl ⟨by rfl, ?_⟩) ?_ ?_
   rotate_left
   ·
    intro w'
    go_simp
    with_reducible rfl
   rotate_left
   ·
    refine (put_lit _ _ _ _).trans ?_; dsimp only [List.set_cons_succ, List.set_cons_zero]
    rfl
   refine last_ (i := 69) (N := some 196) (bz 80 1180591620717411303423) rfl rfl (one_of HT_.out (by kernel_rfl)) (by decide) (fun K hK => ?_)
   refine goes_ Try.func26 (by kernel_rfl) rfl #[.slice Aq bs.length cq, .slice Ar bs.length cr] (by rfl) rfl rfl (by (try simp only [List.map_toArray, List.map_cons, List.map_nil]); first | done | rfl) ?_
   with_reducible refine (swarfkit_EqualInts.calls kb Aq cq bs Ar cr bs true _ BS1.out hBS1 BS2.out hBS2 HEI.out).mono ?_
   rintro e v69_ ⟨rfl, hd_⟩
   have hb_ := hd_.below
   clear hd_
   replace OV1 := Aside0.mk (Kd.C_below OV1.out hb_)
   replace OV2 := Aside0.mk (Kd.C_below OV2.out hb_)
   replace BS1 := Aside0.mk (Kd.C_below BS1.out hb_)
   replace BS2 := Aside0.mk (Kd.C_below BS2.out hb_)
   replace HB := Aside0.mk (below_step HB.out hb_)
   clear hb_
   refine ⟨_, rfl, ?_⟩
   refine hK.out _ _ ?_
   clear hK K
   refine norm_ (a' := ?_) ?_ ?_
   rotate_left
   ·
    show Act.put _ (some 196) _ = _
    refine (put_lit _ _ _ _).trans ?_; dsimp only [List.set_cons_succ, List.set_cons_zero]
    rfl
   refine pure_ (i := 70) (N := some 197) (v := ?_) (a' := ?_) (bz 80 2361183241434822606847) rfl rfl (any_of HT_.out (by kernel_rfl)) (fun _ _ _ h => h) (Or.inl ⟨by rfl, ?_⟩) ?_ ?_
   rotate_left
   ·
    intro w'
    go_simp
    with_reducible rfl
   rotate_left
   ·
    refine (put_lit _ _ _ _).trans ?_; dsimp only [List.set_cons_succ, List.set_cons_zero]
    rfl
   refine pure_ (i := 71) (N := some 198) (v := ?_) (a' := ?_) (bz 80 4722366482869645213695) rfl rfl (any_of HT_.out (by kernel_rfl)) (fun _ _ _ h => h) (Or.inl ⟨by rfl, ?_⟩) ?_ ?_
   rotate_left
   ·
    intro w'
    go_simp
    with_reducible rfl
   rotate_left
   ·
    refine (put_lit _ _ _ _).trans ?_; dsimp only [List.set_cons_succ, List.set_cons_zero]
    rfl
   refine pure_ (i := 72) (N := some 199) (v := ?_) (a' := ?_) (bz 80 9444732965739290427391) rfl rfl (any_of HT_.out (by kernel_rfl)) (fun _ _ _ h => h) (Or.inl ⟨by rfl, ?_⟩) ?_ ?_
   rotate_left
   ·
    intro w'
    go_simp
    with_reducible rfl
   rotate_left
   ·
    refine (put_lit _ _ _ _).trans ?_; dsimp only [List.set_cons_succ, List.set_cons_zero]
    rfl
   refine pure_ (i := 73) (N := some 200) (v := ?_) (a' := ?_) (bz 80 18889465931478580854783) rfl rfl (any_of HT_.out (by kernel_rfl)) (fun _ _ _ h => h) (Or.inl ⟨by rfl, ?_⟩) ?_ ?_
   rotate_left
   ·
    intro w'
    go_simp
    with_reducible rfl
   rotate_left
   ·
    refine (put_lit _ _ _ _).trans ?_; dsimp only [List.set_cons_succ, List.set_cons_zero]
    rfl
   refine last_ (i := 74) (N := some 201) (bz 80 37778931862957161709567) rfl rfl (one_of HT_.out (by kernel_rfl)) (by decide) (fun K hK => ?_)
   refine goes_ Try.func24 (by kernel_rfl) rfl #[.slice Ao ov.length co, .slice Ap ov.length cp] (by rfl) rfl rfl (by (try simp only [List.map_toArray, List.map_cons, List.map_nil]); first | done | rfl) ?_
   with_reducible refine (swarfkit_EqualRanges.calls ko Ao co ov Ap cp ov true _ OV1.out hOV1 OV2.out hOV2 HER.out).mono ?_
   rintro e v74_ ⟨rfl, hd_⟩
   have hb_ := hd_.below
   clear hd_
   replace OV1 := Aside0.mk (Kd.C_below OV1.out hb_)
   replace OV2 := Aside0.mk (Kd.C_below OV2.out hb_)
   replace BS1 := Aside0.mk (Kd.C_below BS1.out hb_)
   replace BS2 := Aside0.mk (Kd.C_below BS2.out hb_)
   replace HB := Aside0.mk (below_step HB.out hb_)
   clear hb_
   refine ⟨_, rfl, ?_⟩
   refine hK.out _ _ ?_
   clear hK K
   refine norm_ (a' := ?_) ?_ ?_
   rotate_left
   ·
    show Act.put _ (some 201) _ = _
    refine (put_lit _ _ _ _).trans ?_; dsimp only [List.set_cons_succ, List.set_cons_zero]
    rfl
   refine pure_ (i := 75) (N := some 202) (v := ?_) (a' := ?_) (bz 80 75557863725914323419135) rfl rfl (any_of HT_.out (by kernel_rfl)) (fun _ _ _ h => h) (Or.inl ⟨by rfl, ?_⟩) ?_ ?_
   rotate_left
   ·
    intro w'
    go_simp
    with_reducible rfl
   rotate_left
   ·
    refine (put_lit _ _ _ _).trans ?_; dsimp only [List.set_cons_succ, List.set_cons_zero]
    rfl
   refine pure_ (i := 76) (N := some 203) (v := ?_) (a' := ?_) (bz 80 151115727451828646838271) rfl rfl (any_of HT_.out (by kernel_rfl)) (fun _ _ _ h => h) (Or.inl ⟨by rfl, ?_⟩) ?_ ?_
   rotate_left
   ·
    intro w'
    go_simp
    with_reducible rfl
   rotate_left
   ·
    refine (put_lit _ _ _ _).trans ?_; dsimp only [List.set_cons_succ, List.set_cons_zero]
    rfl
   refine last_ (i := 77) (N := some 204) (bz 80 302231454903657293676543) rfl rfl (one_of HT_.out (by kernel_rfl)) (by decide) (fun K hK => ?_)
   refine goes_ Try.func15 (by kernel_rfl) rfl #[] (by rfl) rfl rfl (by (try simp only [List.map_toArray, List.map_cons, List.map_nil]); first | done | rfl) ?_
   with_reducible refine (swarflaw07_awake.calls ka true _ HAW.out).mono ?_
   rintro e v77_ ⟨rfl, hb_⟩
   replace HB := Aside0.mk (below_step HB.out hb_)
   clear hb_
   refine ⟨_, rfl, ?_⟩
   refine hK.out _ _ ?_
   clear hK K
   refine norm_ (a' := ?_) ?_ ?_
   rotate_left
   ·
    show Act.put _ (some 204) _ = _
    refine (put_lit _ _ _ _).trans ?_; dsimp only [List.set_cons_succ, List.set_cons_zero]
    rfl
   refine pure_ (i := 78) (N := some 205) (v := ?_) (a' := ?_) (bz 80 604462909807314587353087) rfl rfl (any_of HT_.out (by kernel_rfl)) (fun _ _ _ h => h) (Or.inl ⟨by rfl, ?_⟩) ?_ ?_
   rotate_left
   ·
    intro w'
    go_simp
    with_reducible rfl
   rotate_left
   ·
    refine (put_lit _ _ _ _).trans ?_; dsimp only [List.set_cons_succ, List.set_cons_zero]
    rfl
   refine pure_ (i := 79) (N := some 2) (v := ?_) (a' := ?_) (bz 80 1208925819614629174706175) rfl rfl (any_of HT_.out (by kernel_rfl)) (fun _ _ _ h => h) (Or.inl ⟨by rfl, ?_⟩) ?_ ?_
   rotate_left
   ·
    intro w'
    go_simp
    with_reducible rfl
   rotate_left
   ·
    refine (put_lit _ _ _ _).trans ?_; dsimp only [List.set_cons_succ, List.set_cons_zero]
    rfl
   refine done_ (done_of HT_.out (by kernel_rfl)) ?_
   clear hHeld hE
   go_wp2
   go_ret
   exact ⟨rfl, HB.out⟩
theorem selfInts_l0 (l : List Int) (hl : l.length ≤ 1000000) (d : Nat) : ∀ i : Nat, i + d = l.length → Ev (fun k => swarfkit_EqualInts.l0 k l l true (i : Int)) true := by
  induction d with
  | zero =>
    intro i hi
    refine Ev.succ ?_
    simp (disch := omega) only [swarfkit_EqualInts.l0, if_true, if_neg]
    exact Ev.now _
  | succ d ih =>
    intro i hi
    refine Ev.succ ?_
    simp (disch := omega) only [swarfkit_EqualInts.l0, if_true, if_pos, beq_self_eq_true]
    rw [wrapS (by omega)]
    exact ih (i + 1) (by omega)
theorem selfInts_ev (l : List Int) (hl : l.length ≤ 1000000) : Ev (fun k => swarfkit_EqualInts.f k l l) true := by
  unfold swarfkit_EqualInts.f
  rw [beq_self_eq_true]
  exact selfInts_l0 l hl l.length 0 (by omega)
theorem selfRanges_l0 (l : List S56) (hl : l.length ≤ 1000000) (d : Nat) : ∀ i : Nat, i + d = l.length → Ev (fun k => swarfkit_EqualRanges.l0 k l l true (i : Int)) true := by
  induction d with
  | zero =>
    intro i hi
    refine Ev.succ ?_
    simp (disch := omega) only [swarfkit_EqualRanges.l0, if_true, if_neg]
    exact Ev.now _
  | succ d ih =>
    intro i hi
    refine Ev.succ ?_
    simp (disch := omega) only [swarfkit_EqualRanges.l0, if_true, if_pos, beq_self_eq_true, Bool.and_self]
    rw [wrapS (by omega)]
    exact ih (i + 1) (by omega)
theorem selfRanges_ev (l : List S56) (hl : l.length ≤ 1000000) : Ev (fun k => swarfkit_EqualRanges.f k l l) true := by
  unfold swarfkit_EqualRanges.f
  rw [beq_self_eq_true]
  exact selfRanges_l0 l hl l.length 0 (by omega)
theorem getD_turn (l : List S85) (i : Nat) : (l.map turnH).getD i z85 = turnH (l.getD i z85) := by
  by_cases h : i < l.length
  · simp [List.getD, h]
  · simp [List.getD, h, turnH]; rfl
def swapQ (q : Q4) : Q4 := ⟨q.b1, q.b0, q.h1, q.h0⟩
theorem ldL_turn (holds : List S85) (lots : List S79) : ∀ (s : List Int) (i : Nat) (q : Q4), ldL (holds.map turnH) lots i s (swapQ q) = swapQ (ldL holds lots i s q)
  | [], _, _ => rfl
  | a :: s, i, q => by
    simp only [ldL]
    by_cases h : a < 0
    · simp only [if_pos h]; exact ldL_turn holds lots s (i + 1) q
    · simp only [if_neg h, getD_turn]; exact ldL_turn holds lots s (i + 1) (ldS (holds.getD a.toNat z85) (lots.getD i z79).f0 q)
theorem apL_turn (holds : List S85) (lots : List S79) : ∀ (s : List Int) (i : Nat) (x y : Int × Int), y = (-x.2, -x.1) → apL (holds.map turnH) lots i s y = (-(apL holds lots i s x).2, -(apL holds lots i s x).1)
  | [], _, _, _, h => h
  | a :: s, i, x, y, h => by
    simp only [apL]
    by_cases ha : a < 0
    · simp only [if_pos ha]; exact apL_turn holds lots s (i + 1) x y h
    · simp only [if_neg ha, getD_turn]
      refine apL_turn holds lots s (i + 1) _ _ ?_
      subst h
      have e1 : (lots.getD i z79).f0.f0 * ((turnH (holds.getD a.toNat z85)).f1 - (turnH (holds.getD a.toNat z85)).f2) = -((lots.getD i z79).f0.f0 * ((holds.getD a.toNat z85).f1 - (holds.getD a.toNat z85).f2)) := by
        rw [← Int.mul_neg]; congr 1; simp only [turnH]; omega
      have e2 : (lots.getD i z79).f0.f1 * ((turnH (holds.getD a.toNat z85)).f1 - (turnH (holds.getD a.toNat z85)).f2) = -((lots.getD i z79).f0.f1 * ((holds.getD a.toNat z85).f1 - (holds.getD a.toNat z85).f2)) := by
        rw [← Int.mul_neg]; congr 1; simp only [turnH]; omega
      simp only [apS, e1, e2, Prod.mk.injEq]
      constructor <;> omega
theorem voy_turn {H S L' : Nat} {T L U R V : Int} {holds : List S85} {sills : List S59} {lots : List S79} (h : VoyOK H S L' T L U R holds V sills lots) : VoyOK H S L' T L U R (holds.map turnH) V sills lots :=
  ⟨h.light, h.under, h.trim, h.leaves, by have := h.hn; simpa using this, fun x hx => by
    obtain ⟨y, hy, rfl⟩ := List.mem_map.1 hx
    obtain ⟨a, b, c, d, e, f⟩ := h.ho y hy
    exact ⟨a, b, e, f, c, d⟩, h.sn, h.si, h.ln, h.lo⟩
theorem room_turn (holds : List S85) (lots : List S79) (s : List Int) : roomOK (holds.map turnH) lots s ↔ roomOK holds lots s := by
  unfold roomOK
  simp only [List.length_map, getD_turn]
  exact Iff.rfl
theorem way_swap (U V : Int) (sills : List S59) (q : Q4) (soon : Bool) : wayL U V sills (swapQ q) soon = wayL U V sills q soon := by
  unfold wayL swapQ
  cases soon <;> simp only [if_true, Bool.false_eq_true, if_false] <;> rw [Int.max_comm]
theorem turned_all (A1 : Option Addr) (c1 : Nat) (l1 : List Int) (w : World) (hr1 : Kd.C (Kd.int .i64) w A1 l1.length l1) (hc1 : l1.length ≤ c1) (hb8 : l1.length * 8 ≤ 140737488351232) :
    Calls Try.prog 12 #[.slice A1 l1.length c1] w fun e w' => e = .returned (.bool true) ∧ Below w.heap.size w w' := by
  have e0 : swarfkit_FeedOf.f l1 = some (feedAll l1) := by unfold swarfkit_FeedOf.f; rw [if_pos (by omega)]
  obtain ⟨T, f1, e1, hT⟩ := either_ok (feedAll l1) [4, 30] (by simp) (show 2 ≤ 1000 by decide)
  have hTb : 1 ≤ T ∧ T ≤ 1000 := by
    rcases List.mem_cons.1 hT with rfl | hT
    · omega
    · rw [List.mem_singleton.1 hT]; omega
  obtain ⟨⟨L, U, R, holds, V, sills, lots, f2⟩, e2, hv⟩ := voyageOf_res f1 2 3 4 T (by decide) (by decide) (by decide) (by decide) hTb.1 hTb.2
  obtain ⟨⟨s, f3⟩, e3, hs⟩ := stowageOf_res hv (by decide) (by decide) hTb.2 f2
  replace hs : StowOK holds lots s := hs
  replace hv : VoyOK 2 3 4 T L U R holds V sills lots := hv
  have hx := voy_turn hv
  obtain ⟨q, x, t⟩ := told hv (by decide) (by decide) (by decide) hTb.2 hs.len hs.rg
  obtain ⟨q', x', t'⟩ := told hx (by decide) (by decide) (by decide) hTb.2 hs.len (by simpa using hs.rg)
  have hq : q' = swapQ q := by rw [t'.qe, t.qe]; exact ldL_turn holds lots s 0 (q0 L)
  have hxx : x' = (-x.2, -x.1) := by rw [t'.xe, t.xe]; exact apL_turn holds lots s 0 (0, 0) (0, 0) rfl
  have hrm := hs.room
  have hrm' := (room_turn holds lots s).2 hrm
  have xo := t.xok
  have hbest := best_ok hv (by decide) (by decide) (by decide) hTb.2
  have hbest' := best_ok hx (by decide) (by decide) (by decide) hTb.2
  have hgood : ∀ u, u ∈ stowsL holds.length lots.length → goodB L U R holds V sills lots u = goodB L U R (holds.map turnH) V sills lots u := fun u hu => by
    obtain ⟨m1, m2⟩ := stowsL_mem _ _ u hu
    obtain ⟨qu, xu, tu⟩ := told hv (by decide) (by decide) (by decide) hTb.2 m1 m2
    obtain ⟨qu', xu', tu'⟩ := told hx (by decide) (by decide) (by decide) hTb.2 m1 (by simpa using m2)
    have hqu : qu' = swapQ qu := by rw [tu'.qe, tu.qe]; exact ldL_turn holds lots u 0 (q0 L)
    have hxu : xu' = (-xu.2, -xu.1) := by rw [tu'.xe, tu.xe]; exact apL_turn holds lots u 0 (0, 0) (0, 0) rfl
    rw [Bool.eq_iff_iff, tu.good, tu'.good, room_turn, hqu, hxu, way_swap]
    have : max (-xu.1) (- -xu.2) = max xu.2 (-xu.1) := by omega
    simp only [this]
  rw [List.length_map] at hbest'
  rw [← bestOf_congr (fun t => worthGo lots 0 t 0) _ ([], -1) hgood] at hbest'
  obtain ⟨B, hB⟩ : ∃ B, B = bestOf (goodB L U R holds V sills lots) (fun t => worthGo lots 0 t 0) (stowsL holds.length lots.length) ([], -1) := ⟨_, rfl⟩
  have hBl : B.1.length ≤ 1000000 := by
    rcases bestOf_from (goodB L U R holds V sills lots) (fun t => worthGo lots 0 t 0) (stowsL holds.length lots.length) ([], -1) with h | ⟨u, hu, _, h⟩
    · rw [hB, h]; simp
    · rw [hB, h]
      have := (stowsL_mem _ _ u hu).1
      have := hv.ln
      simp only; omega
  rw [← hB] at hbest hbest'
  have hsn := hv.sn; have hle := t.le; have htop := t.top
  obtain ⟨kv, e2⟩ := e2.rounds
  obtain ⟨ks, e3⟩ := e3.rounds
  obtain ⟨kl1, hl1⟩ := (t.level hrm).rounds
  obtain ⟨kl2, hl2⟩ := (t'.level hrm').rounds
  have hl1' := at_rounds (g := fun k => ship_Level.f k L U R holds V sills lots s) (fun k => ship_Level.mono _ _ _ _ _ _ _ _ k) (Nat.le_max_left kl1 kl2) hl1
  have hl2' := at_rounds (g := fun k => ship_Level.f k L U R (holds.map turnH) V sills lots s) (fun k => ship_Level.mono _ _ _ _ _ _ _ _ k) (Nat.le_max_right kl1 kl2) hl2
  have e5 : decide (max x'.2 (-x'.1) ≤ 1000 * R) = decide (max x.2 (-x.1) ≤ 1000 * R) := by
    rw [hxx]
    have : max (-x.1) (- -x.2) = max x.2 (-x.1) := by omega
    simp only [this]
  obtain ⟨kb, hkb⟩ := (selfInts_ev B.1 hBl).rounds
  obtain ⟨ko, hko⟩ := (selfRanges_ev (overE (wayL U V sills q true) (wayL U V sills q false)) (by have := over_len (wayL U V sills q true) (wayL U V sills q false); omega)).rounds
  obtain ⟨ka, hka⟩ := awake_ev.rounds
  have d1 := t.drafts hrm
  have d2 := t'.drafts hrm'
  have s1 := t.sail hrm
  have s2 := t'.sail hrm'
  rw [hq] at d2 s2
  rw [way_swap, way_swap] at s2
  rw [e5] at hl2'
  refine turned_walk A1 c1 l1 w hr1 hc1 e0 e1 e2 e3 (copy_ok hv (by decide) (by decide) (by decide)) d1 d2 hl1' hl2' ?_ s1 s2 hbest hbest' hkb hko hka
  have w1 : ∀ z : Int, -1500000000 ≤ z → z ≤ 1500000000 → IntKind.i64.wrap z = z := fun z h1 h2 => IntWalk.i64_in z ⟨by omega, by omega⟩
  rw [hxx]
  simp only [Int.neg_neg]
  rw [w1 x.1 (by omega) (by omega), w1 x.2 (by omega) (by omega)]
  rfl
end Go.Proofs.Ytodmemndaaiolaa.PC7
namespace Go.Proofs.YtodmemndaaiolaaW.PrintWords
open Go.ChangeShapes Go.WideShapes
theorem sized_ints {H : Type} {enc : TypeId × Value → H} {P : Program} {W : World} {base : Nat} {spare : Nat → Bool} {held : Bool} {t e : TypeId} {k : IntKind} {a : Option Addr} {len cap : Nat} {d : DataW H} {ps : List MemPlace} {ts : List TypeId} {ds : List (DataW H)} {j : Nat}
    (hsz : (DataW.weightsEach P ts ds).all (· ≤ reachBytes) = true) (ht : ts[j]? = some t) (hd : ds[j]? = some d) (hu : P.underlying t = some (.slice e)) (he : P.underlying e = some (.int k)) (hc : P.cellsOf e = 1) {B : Nat} (hB : P.bytesOf e = B)
    (h : DataW.Trod enc P W base spare held t (.slice a len cap) d ps) : len * B ≤ 140737488351232 := by
  obtain ⟨fuel, hf⟩ := h
  rcases open_ints hu he hc hf with ⟨hcs, _⟩ | ⟨x, l, c, zs, hcs, _, hl, _, hz, hx, _, _⟩
  · simp [Value.cells] at hcs
    obtain ⟨rfl, rfl, rfl⟩ := hcs
    simp
  · simp [Value.cells] at hcs
    obtain ⟨rfl, rfl, rfl⟩ := hcs
    obtain ⟨hx, _⟩ := Prod.mk.inj hx
    subst hx
    have z := sized_slice hsz ht hd hu
    rw [hB] at z
    have hl2 : len ≤ zs.length := by
      rw [hz]
      split
      · exact hl
      · exact Nat.le_refl _
    have h1 : (lits (H := H) k (zs.take len)).length + (lits (H := H) k (zs.drop len)).length = zs.length := by
      simp [lits]
      omega
    rw [h1] at z
    exact Nat.le_trans (Nat.mul_le_mul_right _ hl2) z
end Go.Proofs.YtodmemndaaiolaaW.PrintWords
namespace Go.Proofs.Ytodmemndaaiolaa.PC7
open Go.RowKit Go.Proofs.YtodmemndaaiolaaW.PrintWords Go.Proofs.YtodmemndaaiolaaW.PrintLast Go.Proofs.YtodmemndaaiolaaW.PrintMore
theorem rowOf_ShipTurned (a0 : Option Addr) (len0 cap0 : Nat) (z0 : List Int) (w : World) (w0 : (a0 = none ∧ len0 = 0 ∧ cap0 = 0 ∧ z0 = []) ∨ ∃ x, a0 = some x ∧ len0 ≤ cap0 ∧ cap0 ≤ maxLen ∧ z0.length = cap0 ∧ (∀ i, i < z0.length → w.cell? (x.add i) = some (.int .i64 (z0.getD i 0))) ∧ ∀ n ∈ z0, (Lit.int .i64 n).wf = true) (y0 : len0 * 8 ≤ 140737488351232) :
    Calls Try.prog 12 #[.slice a0 len0 cap0] w fun e w' => e = .returned (.bool true) ∧ Below w.heap.size w w' := by
  obtain ⟨l0, rfl, hr0, hm0, hw0, hc0⟩ := ReadsInt.ofRowC w0
  exact turned_all _ _ l0 w (Kd.C_of_reads (d := (0 : Int)) (h1 := fun _ => rfl) hr0) hc0 y0
end Go.Proofs.Ytodmemndaaiolaa.PC7
namespace Go.Proofs.Ytodmemndaaiolaa.shipTurned
open Go.ChangeShapes Go.WideShapes Go.ChangeAt Go.RowKit
open Go.ChangeMaps (open_string shut_string)
set_option linter.unusedVariables false
theorem own : ownKnob Try.prog.godebug = none := by kernel_rfl
theorem laidOut : laidOutB Try.prog = true := by kernel_rfl
def IsRow (k : IntKind) (w : World) (a : Option Addr) (len cap : Nat) (zs : List Int) : Prop :=
  (a = none ∧ len = 0 ∧ cap = 0 ∧ zs = []) ∨
  ∃ x, a = some x ∧ len ≤ cap ∧ cap ≤ maxLen ∧ zs.length = cap ∧ (∀ i, i < zs.length → w.cell? (x.add i) = some (.int k (zs.getD i 0))) ∧ ∀ n ∈ zs, (Lit.int k n).wf = true
set_option maxRecDepth 100000 in
theorem lifted (os : Os) (started : os.Started) (H : Type) (enc : TypeId × Value → H) :
    ReturnsInHanded {} Try.checked os 12 .any (Rows.shipTurnedSpec.pre6 enc Try.prog Try.f12 Rows.shipTurnedRow.domain false) (Rows.shipTurnedSpec.post enc Try.prog Try.f12 false true false false) := by
  refine returnsInHanded_of_change_sized (C := Try.checked) own started (by kernel_rfl) Try.func12
    (ChangeSpec.witness6 (enc := enc) (C := Try.checked) false ⟨#[], #[.slice none 0 0], []⟩ 8 (by kernel_rfl) (by kernel_rfl) (by kernel_rfl) (by kernel_rfl)) ?_
  intro W base args ds gs before hval0 hW hcnd hsz0 _
  have hsz : (DataW.weightsEach Try.prog (Try.f12.params.toList ++ Rows.shipTurnedSpec.plain.varTypes Try.prog) (ds ++ gs)).all (· ≤ reachBytes) = true := hsz0
  have hval : ∀ (j : Nat) t v, Try.f12.params[j]? = some t → args[j]? = some v → Value.okWide Try.prog W .any base t v := hval0
  have hW' := hW
  obtain ⟨p, q, hA0, hV, rfl, hfz, hnd⟩ := hW
  have hA : DataW.TrodAll enc Try.prog W 0 (fun _ => true) true Try.f12.params.toList args.toList ds p := hA0
  rw [Try.params12] at hA hval hsz
  obtain ⟨v0, vs0, d0, ds0, p0, q0, hargs, rfl, rfl, h0, r0⟩ := trodAll_cons hA
  obtain ⟨rfl, rfl, rfl⟩ := trodAll_nil r0
  obtain rfl : args = #[v0] := by cases args; simp_all
  obtain ⟨rfl, rfl⟩ := trodVars_none hV
  obtain ⟨a0, len0, cap0, rfl⟩ := okWide_slice Try.underlying27 (hval 0 27 v0 rfl rfl)
  have k0 := h0
  have lt0 : ∀ x ∈ p0, x.block < W.heap.size := by obtain ⟨m, hm⟩ := k0; exact DataW.trod_lt m _ _ _ hm
  obtain ⟨z0, w0⟩ : ∃ zs, IsRow .i64 W a0 len0 cap0 zs := by
    obtain ⟨fuel, hf⟩ := h0
    rcases open_ints Try.underlying27 Try.underlying3 (by kernel_rfl) hf with ⟨hcs, _⟩ | ⟨x, l, c, zs, hcs, _, hl, hm, hz, _, hcell, hwz⟩
    · simp [Value.cells] at hcs
      obtain ⟨rfl, rfl, rfl⟩ := hcs
      exact ⟨[], .inl ⟨rfl, rfl, rfl, rfl⟩⟩
    · simp [Value.cells] at hcs
      obtain ⟨rfl, rfl, rfl⟩ := hcs
      exact ⟨zs, .inr ⟨_, rfl, hl, hm, by simpa using hz, hcell, hwz⟩⟩
  have y0 : len0 * 8 ≤ 140737488351232 := Go.Proofs.YtodmemndaaiolaaW.PrintWords.sized_ints hsz (j := 0) (t := 27) rfl rfl Try.underlying27 Try.underlying3 (by kernel_rfl) (by kernel_rfl) h0
  clear hA0 hval0 hsz0 hsz
  refine (PC7.rowOf_ShipTurned a0 len0 cap0 z0 W w0 y0).mono fun e W' ⟨he, bel⟩ => ?_
  subst he
  exact ⟨_, rfl, _, _, _, [], _, [], hW', trodAll_mk1 (shut_bool Try.underlying4 _), (trodAll_cons_mk (Below.trod laidOut (by kernel_rfl) (of_decide_eq_true (by kernel_rfl)) k0 bel lt0) trodAll_mk0), rfl, bel.frame _, fun h => by cases h⟩
theorem over : Rows.shipTurnedRow.holds Try.pinned (OpenSpec.ofChange Rows.shipTurnedSpec) :=
  OpenClaim.holds_of_wide 12 Try.f12 rfl rfl rfl rfl rfl rfl rfl ⟨rfl, rfl, rfl, rfl, rfl⟩ rfl rfl rfl rfl rfl (by kernel_rfl) Try.func12 (by kernel_rfl)
    (of_decide_eq_true (by kernel_rfl)) (by unfold Func.isWrapper; first | (rw [if_pos (by decide +kernel)]; kernel_rfl) | (rw [if_neg (by decide +kernel)]; exact ⟨rfl, rfl⟩))
    (fun os started H enc _ => lifted os started H enc)
theorem proved : Rows.ShipTurnedSaid := over
#print axioms proved
end Go.Proofs.Ytodmemndaaiolaa.shipTurned
namespace Go.Proofs.Ytodmemndaaiolaa
theorem shipTurned_holds : Rows.ShipTurnedSaid := shipTurned.proved
end Go.Proofs.Ytodmemndaaiolaa
