/- Whether a barge passes and when it is over its sills is said alike by the program and by the reference, for any voyage and stowage that are not too wide and for ones made of numbers, and nothing is changed. -/
import Derived.Test.YtodmemndaaiolaaCShipSails2
import Derived.Test.YtodmemndaaiolaaCShipSails5
import Derived.Test.YtodmemndaaiolaaCShipSails3
import Derived.Outline
import Derived.RegionTactic
import Derived.BigRegion
import Derived.ChangeAlike
import Derived.Deep.DeepCutAuto
import Derived.Deep.CutRange
import Derived.Test.YtodmemndaaiolaaCShipSails4
import Derived.Test.YtodmemndaaiolaaCShipSails1
import Derived.Test.YtodmemndaaiolaaRows
import Derived.WalkKit
import Derived.ProofKit
import Derived.OpenShut
import Derived.ShutString
import Derived.ChangeOld
import Derived.Below
import Derived.SizedLaws
namespace Go.Proofs.Ytodmemndaaiolaa.PC7
set_option linter.unusedVariables false
set_option linter.unusedSimpArgs false
open Go.RowKit Go.Proofs.YtodmemndaaiolaaW.PrintWords Go.Proofs.YtodmemndaaiolaaW.PrintLast Go.Proofs.YtodmemndaaiolaaW.PrintMore
theorem getD_mem25_ {α : Type} (l : List α) (k : Nat) (d : α) (h : k < l.length) : l.getD k d ∈ l := by
 rw [List.getD, List.getElem?_eq_getElem h]; exact List.getElem_mem h
attribute [local go_sem high] eqA56 eqA62 eqA79 eqA85
set_option maxHeartbeats 8000000 in
set_option maxRecDepth 100000 in
theorem sameV_calls (L U R V : Int) (A3 B3 : Option Addr) (c3 d3 : Nat) (holds : List S85) (A5 B5 : Option Addr) (c5 d5 : Nat) (sills : List S59) (A6 B6 : Option Addr) (c6 d6 : Nat) (lots : List S79) (w : World) (hx : (⟨L, U, R, A3, c3, holds, V, A5, c5, sills, A6, c6, lots⟩ : VoyV).Ok w) (hy : (⟨L, U, R, B3, d3, holds, V, B5, d5, sills, B6, d6, lots⟩ : VoyV).Ok w) (hh : holds.length ≤ 100000) (hl : lots.length ≤ 100000) (hs : lensOK sills) :
  Calls Try.prog 25 #[.agg #[.int .i64 L, .int .i64 U, .int .i64 R, .slice A3 holds.length c3, .int .i64 V, .slice A5 sills.length c5, .slice A6 lots.length c6], .agg #[.int .i64 L, .int .i64 U, .int .i64 R, .slice B3 holds.length d3, .int .i64 V, .slice B5 sills.length d5, .slice B6 lots.length d6]] w fun e w' => e = .returned (.bool true) ∧ Below w.heap.size w w' := by
 have hu26 := Try.underlying26
 have hu59 := Try.underlying59
 have hu56 := Try.underlying56
 have HX := Aside0.mk hx
 have HY := Aside0.mk hy
 have hs1 := hs.1
 have HSL := Aside0.mk hs.2
 clear hx hy hs
 go_enter Try.func25, Try.ntmps25
 go_upto_region 1 with (first | (refine box_r (N := 2) rfl (cs := #[.int .i64 L, .int .i64 U, .int .i64 R, .slice A3 holds.length c3, .int .i64 V, .slice A5 sills.length c5, .slice A6 lots.length c6]) (t := 26) ?_; intro g2 hg w2 hbox hb2; have BK := Aside0.mk hbox; have HB := Aside0.mk hb2; have G2 := Aside0.mk hg; clear hg hbox hb2) | (refine box_r (N := 3) rfl (cs := #[.int .i64 L, .int .i64 U, .int .i64 R, .slice B3 holds.length d3, .int .i64 V, .slice B5 sills.length d5, .slice B6 lots.length d6]) (t := 26) ?_; intro g3 hg w3 hbox hb2; have BL := Aside0.mk hbox; replace BK := Aside0.mk (blk_below BK.out hb2); replace HB := Aside0.mk (below_step HB.out hb2); clear hg hbox hb2))
 have hz0_ := (blk_cell BK.out 0).trans rfl
 have hz1_ := (blk_cell BK.out 1).trans rfl
 have hz2_ := (blk_cell BK.out 2).trans rfl
 have hz3_ := (blk_cell BK.out 3).trans rfl
 have hz4_ := (blk_cell BK.out 4).trans rfl
 have hz5_ := (blk_cell BK.out 5).trans rfl
 have hz6_ := (blk_cell BK.out 6).trans rfl
 have hy0_ := (blk_cell BL.out 0).trans rfl
 have hy1_ := (blk_cell BL.out 1).trans rfl
 have hy2_ := (blk_cell BL.out 2).trans rfl
 have hy3_ := (blk_cell BL.out 3).trans rfl
 have hy4_ := (blk_cell BL.out 4).trans rfl
 have hy5_ := (blk_cell BL.out 5).trans rfl
 have hy6_ := (blk_cell BL.out 6).trans rfl
 go_upto_region 2 with (fail)
 clear hz0_ hz1_ hz2_ hz3_ hz4_ hz5_ hz6_ hy0_ hy1_ hy2_ hy3_ hy4_ hy5_ hy6_
 go_wp2
 go_loopg [5, 6] holds.length (fun gk v5 v6 wr => ∃ k : Nat, k ≤ holds.length ∧ holds.length - k ≤ gk ∧ v5 = .bool true ∧ v6 = .int .i64 k ∧ Aside0 (wr.heap[g2]? = some (.cells #[.int .i64 L, .int .i64 U, .int .i64 R, .slice A3 holds.length c3, .int .i64 V, .slice A5 sills.length c5, .slice A6 lots.length c6] 26 (0, 0))) ∧ Aside0 (wr.heap[g3]? = some (.cells #[.int .i64 L, .int .i64 U, .int .i64 R, .slice B3 holds.length d3, .int .i64 V, .slice B5 sills.length d5, .slice B6 lots.length d6] 26 (0, 0))) ∧ Aside0 (Below w.heap.size w wr))
 case atStart => exact ⟨0, by omega, by omega, rfl, rfl, BK, BL, HB⟩
 case round =>
  clear BK BL HB; obtain ⟨k, hk, hgk, rfl, rfl, BK, BL, HB⟩ := hrel; by_cases hlt : k < holds.length
  ·
   (have hlz : (k : Int) < (holds.length : Int) := by omega); have hz_ := (blk_cell BK.out 3).trans rfl; have hy_ := (blk_cell BL.out 3).trans rfl
   go_upto_region 5 with (fail)
   clear hz_ hy_; have hd_ := below_drew1 (Below.refl wr.heap.size wr); replace BK := Aside0.mk (blk_below BK.out hd_); replace BL := Aside0.mk (blk_below BL.out hd_); replace HB := Aside0.mk (below_step HB.out hd_); clear hd_; obtain ⟨ad, e1_, p0, p1, p2⟩ := at_T85 (HX.out.below HB.out).h (k : Int) (by omega) hlz; obtain ⟨bd, e2_, r0, r1, r2⟩ := at_T85 (HY.out.below HB.out).h (k : Int) (by omega) hlz; (cases e1_); (cases e2_); rw [Int.toNat_natCast] at p0 p1 p2 r0 r1 r2; refine start_ (n := 12) (S := fun w' => w'.cell? ⟨g2, 3, none⟩ = some (.slice (some ad) holds.length c3) ∧ w'.cell? ⟨g3, 3, none⟩ = some (.slice (some bd) holds.length d3) ∧ w'.cell? (ad.add (k * 3)) = some (.int .i64 (rd_T85 holds (k : Int)).f0) ∧ w'.cell? ⟨(ad.add (k * 3)).block, (ad.add (k * 3)).off + 1, none⟩ = some (.int .i64 (rd_T85 holds (k : Int)).f1) ∧ w'.cell? ⟨(ad.add (k * 3)).block, (ad.add (k * 3)).off + 2, none⟩ = some (.int .i64 (rd_T85 holds (k : Int)).f2) ∧ w'.cell? (bd.add (k * 3)) = some (.int .i64 (rd_T85 holds (k : Int)).f0) ∧ w'.cell? ⟨(bd.add (k * 3)).block, (bd.add (k * 3)).off + 1, none⟩ = some (.int .i64 (rd_T85 holds (k : Int)).f1) ∧ w'.cell? ⟨(bd.add (k * 3)).block, (bd.add (k * 3)).off + 2, none⟩ = some (.int .i64 (rd_T85 holds (k : Int)).f2)) (ds := []) #[false, false, false, false, false, false, false, false, false, false, false, false] (by kernel_rfl) rfl rfl ⟨(blk_cell BK.out 3).trans rfl, (blk_cell BL.out 3).trans rfl, p0, p1, p2, r0, r1, r2⟩ (fun hHeld => ?_); generalize wr.drew = wd at BK BL HB hHeld ⊢; refine pure_y 0 (some 75) (bz 12 1) ?_; refine pure_y 2 (some 77) (bz 12 5) ?_; refine pure_y 5 (some 80) (bz 12 37) ?_; refine pure_y 7 (some 82) (bz 12 165) ?_; refine take_y 1 (some 76) (bz 12 167) hHeld ?_; refine pure_y 3 (some 78) (bz 12 175) ?_; refine take_y 4 (some 79) (bz 12 191) hHeld ?_; refine take_y 6 (some 81) (bz 12 255) hHeld ?_; refine pure_y 8 (some 83) (bz 12 511) ?_; refine take_y 9 (some 84) (bz 12 1023) hHeld ?_; refine pure_y 10 (some 85) (bz 12 2047) ?_; refine pure_y 11 (some 5) (bz 12 4095) ?_; refine done_ (by kernel_rfl) ?_; clear hHeld p0 r0 p1 r1 p2 r2; go_wp2; go_roundg (holds.length - (k + 1))
   case measure => omega
   case rel => exact ⟨k + 1, by omega, by omega, rfl, by go_num, BK, BL, HB⟩
  ·
   (have : k = holds.length := by omega); subst this; have hz_ := (blk_cell BK.out 3).trans rfl; have hy_ := (blk_cell BL.out 3).trans rfl
   go_upto_region 6 with (fail)
   clear hz_ hy_; go_wp2
   go_loopg [5, 7] lots.length (fun gk v5 v6 wr => ∃ k : Nat, k ≤ lots.length ∧ lots.length - k ≤ gk ∧ v5 = .bool true ∧ v6 = .int .i64 k ∧ Aside0 (wr.heap[g2]? = some (.cells #[.int .i64 L, .int .i64 U, .int .i64 R, .slice A3 holds.length c3, .int .i64 V, .slice A5 sills.length c5, .slice A6 lots.length c6] 26 (0, 0))) ∧ Aside0 (wr.heap[g3]? = some (.cells #[.int .i64 L, .int .i64 U, .int .i64 R, .slice B3 holds.length d3, .int .i64 V, .slice B5 sills.length d5, .slice B6 lots.length d6] 26 (0, 0))) ∧ Aside0 (Below w.heap.size w wr))
   case atStart => exact ⟨0, by omega, by omega, rfl, rfl, BK, BL, HB⟩
   case round =>
    clear BK BL HB; obtain ⟨k, hk, hgk, rfl, rfl, BK, BL, HB⟩ := hrel; by_cases hlt : k < lots.length
    ·
     (have hlz : (k : Int) < (lots.length : Int) := by omega); have hz_ := (blk_cell BK.out 6).trans rfl; have hy_ := (blk_cell BL.out 6).trans rfl
     go_upto_region 9 with (fail)
     clear hz_ hy_; have hd_ := below_drew1 (Below.refl wr.heap.size wr); replace BK := Aside0.mk (blk_below BK.out hd_); replace BL := Aside0.mk (blk_below BL.out hd_); replace HB := Aside0.mk (below_step HB.out hd_); clear hd_; obtain ⟨ad, e1_, p0, p1, p2⟩ := at_T79 (HX.out.below HB.out).l (k : Int) (by omega) hlz; obtain ⟨bd, e2_, r0, r1, r2⟩ := at_T79 (HY.out.below HB.out).l (k : Int) (by omega) hlz; (cases e1_); (cases e2_); rw [Int.toNat_natCast] at p0 p1 p2 r0 r1 r2; refine start_ (n := 12) (S := fun w' => w'.cell? ⟨g2, 6, none⟩ = some (.slice (some ad) lots.length c6) ∧ w'.cell? ⟨g3, 6, none⟩ = some (.slice (some bd) lots.length d6) ∧ w'.cell? (ad.add (k * 3)) = some (.int .i64 (rd_T79 lots (k : Int)).f0.f0) ∧ w'.cell? ⟨(ad.add (k * 3)).block, (ad.add (k * 3)).off + 1, none⟩ = some (.int .i64 (rd_T79 lots (k : Int)).f0.f1) ∧ w'.cell? ⟨(ad.add (k * 3)).block, (ad.add (k * 3)).off + 2, none⟩ = some (.int .i64 (rd_T79 lots (k : Int)).f1) ∧ w'.cell? (bd.add (k * 3)) = some (.int .i64 (rd_T79 lots (k : Int)).f0.f0) ∧ w'.cell? ⟨(bd.add (k * 3)).block, (bd.add (k * 3)).off + 1, none⟩ = some (.int .i64 (rd_T79 lots (k : Int)).f0.f1) ∧ w'.cell? ⟨(bd.add (k * 3)).block, (bd.add (k * 3)).off + 2, none⟩ = some (.int .i64 (rd_T79 lots (k : Int)).f1)) (ds := []) #[false, false, false, false, false, false, false, false, false, false, false, false] (by kernel_rfl) rfl rfl ⟨(blk_cell BK.out 6).trans rfl, (blk_cell BL.out 6).trans rfl, p0, p1, p2, r0, r1, r2⟩ (fun hHeld => ?_); generalize wr.drew = wd at BK BL HB hHeld ⊢; refine pure_y 0 (some 96) (bz 12 1) ?_; refine pure_y 2 (some 98) (bz 12 5) ?_; refine pure_y 5 (some 101) (bz 12 37) ?_; refine pure_y 7 (some 103) (bz 12 165) ?_; refine take_y 1 (some 97) (bz 12 167) hHeld ?_; refine pure_y 3 (some 99) (bz 12 175) ?_; refine take_y 4 (some 100) (bz 12 191) hHeld ?_; refine take_y 6 (some 102) (bz 12 255) hHeld ?_; refine pure_y 8 (some 104) (bz 12 511) ?_; refine take_y 9 (some 105) (bz 12 1023) hHeld ?_; refine pure_y 10 (some 106) (bz 12 2047) ?_; refine pure_y 11 (some 5) (bz 12 4095) ?_; refine done_ (by kernel_rfl) ?_; clear hHeld p0 r0 p1 r1 p2 r2; go_wp2; go_roundg (lots.length - (k + 1))
     case measure => omega
     case rel => exact ⟨k + 1, by omega, by omega, rfl, by go_num, BK, BL, HB⟩
    ·
     (have : k = lots.length := by omega); subst this; have hz_ := (blk_cell BK.out 6).trans rfl; have hy_ := (blk_cell BL.out 6).trans rfl
     go_upto_region 10 with (fail)
     clear hz_ hy_; go_wp2
     go_loopg [5, 8] sills.length (fun gk v5 v8 wr => ∃ k : Nat, k ≤ sills.length ∧ sills.length - k ≤ gk ∧ v5 = .bool true ∧ v8 = .int .i64 k ∧ Aside0 (wr.heap[g2]? = some (.cells #[.int .i64 L, .int .i64 U, .int .i64 R, .slice A3 holds.length c3, .int .i64 V, .slice A5 sills.length c5, .slice A6 lots.length c6] 26 (0, 0))) ∧ Aside0 (wr.heap[g3]? = some (.cells #[.int .i64 L, .int .i64 U, .int .i64 R, .slice B3 holds.length d3, .int .i64 V, .slice B5 sills.length d5, .slice B6 lots.length d6] 26 (0, 0))) ∧ Aside0 (Below w.heap.size w wr))
     case atStart => exact ⟨0, by omega, by omega, rfl, rfl, BK, BL, HB⟩
     case round =>
      clear BK BL HB; obtain ⟨k, hk, hgk, rfl, rfl, BK, BL, HB⟩ := hrel; by_cases hlt : k < sills.length
      ·
       (have hlz : (k : Int) < (sills.length : Int) := by omega); have hln := HSL.out _ (getD_mem25_ sills k z59 hlt); have hz_ := (blk_cell BK.out 5).trans rfl; have hy_ := (blk_cell BL.out 5).trans rfl
       go_upto_region 13 with (fail)
       clear hz_ hy_; have hd_ := below_drew1 (Below.refl wr.heap.size wr); replace BK := Aside0.mk (blk_below BK.out hd_); replace BL := Aside0.mk (blk_below BL.out hd_); replace HB := Aside0.mk (below_step HB.out hd_); clear hd_; obtain ⟨ad, A2, c2, e1_, p0, p1, p2, pl, pc⟩ := at_T59 HX.out.s (k : Int) (by omega) hlz; obtain ⟨bd, B2, d2, e2_, r0, r1, r2, rl, rc⟩ := at_T59 HY.out.s (k : Int) (by omega) hlz; (cases e1_); (cases e2_); rw [Int.toNat_natCast] at p0 p1 p2 r0 r1 r2; rw [show rd_T59 sills (k : Int) = sills.getD k z59 from by simp [rd_T59]] at p0 p1 p2 pl pc r0 r1 r2 rl rc; generalize sills.getD k z59 = sl at *; have P0 := Aside0.mk p0; have P1 := Aside0.mk p1; have P2 := Aside0.mk p2; have R0 := Aside0.mk r0; have R1 := Aside0.mk r1; have R2 := Aside0.mk r2; have PC := Aside0.mk pc; have RC := Aside0.mk rc; clear p0 p1 p2 r0 r1 r2 pc rc; refine start_ (n := 14) (S := fun w' => w'.cell? ⟨g2, 5, none⟩ = some (.slice (some ad) sills.length c5) ∧ w'.cell? ⟨g3, 5, none⟩ = some (.slice (some bd) sills.length d5) ∧ w'.cell? (ad.add (k * 3)) = some (.int .i64 sl.f0.f0) ∧ w'.cell? ⟨(ad.add (k * 3)).block, (ad.add (k * 3)).off + 1, none⟩ = some (.int .i64 sl.f0.f1) ∧ w'.cell? ⟨(ad.add (k * 3)).block, (ad.add (k * 3)).off + 2, none⟩ = some (.slice A2 sl.f1.length c2) ∧ w'.cell? (bd.add (k * 3)) = some (.int .i64 sl.f0.f0) ∧ w'.cell? ⟨(bd.add (k * 3)).block, (bd.add (k * 3)).off + 1, none⟩ = some (.int .i64 sl.f0.f1) ∧ w'.cell? ⟨(bd.add (k * 3)).block, (bd.add (k * 3)).off + 2, none⟩ = some (.slice B2 sl.f1.length d2)) (ds := [13]) #[false, false, false, false, false, false, false, false, false, false, false, false, false, false] (by kernel_rfl) rfl rfl ⟨(blk_cell BK.out 5).trans rfl, (blk_cell BL.out 5).trans rfl, cb_y HB.out P0.out, cb_y HB.out P1.out, cb_y HB.out P2.out, cb_y HB.out R0.out, cb_y HB.out R1.out, cb_y HB.out R2.out⟩ (fun hHeld => ?_); generalize wr.drew = wd at BK BL HB hHeld ⊢; refine pure_y 0 (some 117) (bz 14 1) ?_; refine pure_y 2 (some 119) (bz 14 5) ?_; refine pure_y 5 (some 122) (bz 14 37) ?_; refine pure_y 7 (some 124) (bz 14 165) ?_; refine take_y 1 (some 118) (bz 14 167) hHeld ?_; refine pure_y 3 (some 120) (bz 14 175) ?_; refine take_y 4 (some 121) (bz 14 191) hHeld ?_; refine take_y 6 (some 123) (bz 14 255) hHeld ?_; refine pure_y 8 (some 125) (bz 14 511) ?_; refine take_y 9 (some 126) (bz 14 1023) hHeld ?_; refine join_ (σ := Nat × Nat) 2 (bz 14 4095) (fun s_ => [(9, .pointer (some ⟨s_.1, 0, none⟩)), (10, .pointer (some ⟨s_.2, 0, none⟩))]) (fun s_ w' => (w'.cell? ⟨g2, 5, none⟩ = some (.slice (some ad) sills.length c5) ∧ w'.cell? ⟨g3, 5, none⟩ = some (.slice (some bd) sills.length d5) ∧ w'.cell? (ad.add (k * 3)) = some (.int .i64 sl.f0.f0) ∧ w'.cell? ⟨(ad.add (k * 3)).block, (ad.add (k * 3)).off + 1, none⟩ = some (.int .i64 sl.f0.f1) ∧ w'.cell? ⟨(ad.add (k * 3)).block, (ad.add (k * 3)).off + 2, none⟩ = some (.slice A2 sl.f1.length c2) ∧ w'.cell? (bd.add (k * 3)) = some (.int .i64 sl.f0.f0) ∧ w'.cell? ⟨(bd.add (k * 3)).block, (bd.add (k * 3)).off + 1, none⟩ = some (.int .i64 sl.f0.f1) ∧ w'.cell? ⟨(bd.add (k * 3)).block, (bd.add (k * 3)).off + 2, none⟩ = some (.slice B2 sl.f1.length d2)) ∧ Aside0 (w'.heap[g2]? = some (.cells #[.int .i64 L, .int .i64 U, .int .i64 R, .slice A3 holds.length c3, .int .i64 V, .slice (some ad) sills.length c5, .slice A6 lots.length c6] 26 (0, 0))) ∧ Aside0 (w'.heap[g3]? = some (.cells #[.int .i64 L, .int .i64 U, .int .i64 R, .slice B3 holds.length d3, .int .i64 V, .slice (some bd) sills.length d5, .slice B6 lots.length d6] 26 (0, 0))) ∧ Aside0 (w'.heap[s_.1]? = some (.cells #[.int .i64 0, .int .i64 0, .slice none 0 0] 59 (0, 0))) ∧ Aside0 (w'.heap[s_.2]? = some (.cells #[.int .i64 0, .int .i64 0, .slice none 0 0] 59 (0, 0))) ∧ w.heap.size ≤ s_.1 ∧ w.heap.size ≤ s_.2 ∧ s_.1 ≠ s_.2 ∧ Aside0 (Below w.heap.size w w')) ?_ ?_; rotate_left
       ·
        intro hCont; refine two_ (i := 10) (j := 11) (Ni := some 9) (Nj := some 10) (bz 14 2047) (bz 14 3071) rfl rfl rfl rfl (by kernel_rfl) (by decide) (by decide) (fun K hK => ?_) (fun K hK => ?_)
        ·
         skip
         refine value_ (w1 := ?_) (v := ?_) (by rfl) rfl ?_ ?_; rotate_left 2
         ·
          go_simp
          constructor
          ·
           rfl
          ·
           rfl
         obtain ⟨g9, hg_⟩ : ∃ b, b = wd.heap.size := ⟨_, rfl⟩; (have GEg9 : w.heap.size ≤ g9 := by rw [hg_]; exact HB.out.size); have B9 := Aside0.mk (blk_new wd (.cells #[.int .i64 0, .int .i64 0, .slice none 0 0] 59 (0, 0))); have hb10_ : Below wd.heap.size wd (wd.alloc (.cells #[.int .i64 0, .int .i64 0, .slice none 0 0] 59 (0, 0))) := below_alloc (Below.refl _ _) _; generalize hw_ : wd.alloc (.cells #[.int .i64 0, .int .i64 0, .slice none 0 0] 59 (0, 0)) = wp10 at *; rw [← hg_] at B9 ⊢; replace BK := Aside0.mk (blk_below BK.out hb10_); replace BL := Aside0.mk (blk_below BL.out hb10_); replace HB := Aside0.mk (below_step HB.out hb10_); clear hw_ hg_; refine hK.out _ _ ⟨(blk_cell BK.out 5).trans rfl, (blk_cell BL.out 5).trans rfl, cb_y HB.out P0.out, cb_y HB.out P1.out, cb_y HB.out P2.out, cb_y HB.out R0.out, cb_y HB.out R1.out, cb_y HB.out R2.out⟩ (fun hHeld => ?_); clear hK K; refine norm_y (some 9) ?_; (refine one_y 11 (some 10) (bz 14 4095) fun K hK => ?_); refine value_ (w1 := ?_) (v := ?_) (by rfl) rfl ?_ ?_; rotate_left 2
         ·
          go_simp
          constructor
          ·
           rfl
          ·
           rfl
         obtain ⟨g10, hg_⟩ : ∃ b, b = wp10.heap.size := ⟨_, rfl⟩; (have GEg10 : w.heap.size ≤ g10 := by rw [hg_]; exact HB.out.size); (have N910 : g9 ≠ g10 := by have := blk_lt B9.out; rw [hg_]; omega); have B10 := Aside0.mk (blk_new wp10 (.cells #[.int .i64 0, .int .i64 0, .slice none 0 0] 59 (0, 0))); have hb11_ : Below wp10.heap.size wp10 (wp10.alloc (.cells #[.int .i64 0, .int .i64 0, .slice none 0 0] 59 (0, 0))) := below_alloc (Below.refl _ _) _; generalize hw_ : wp10.alloc (.cells #[.int .i64 0, .int .i64 0, .slice none 0 0] 59 (0, 0)) = wp10_11 at *; rw [← hg_] at B10 ⊢; replace BK := Aside0.mk (blk_below BK.out hb11_); replace BL := Aside0.mk (blk_below BL.out hb11_); replace B9 := Aside0.mk (blk_below B9.out hb11_); replace HB := Aside0.mk (below_step HB.out hb11_); clear hw_ hg_; refine hK.out _ _ ⟨(blk_cell BK.out 5).trans rfl, (blk_cell BL.out 5).trans rfl, cb_y HB.out P0.out, cb_y HB.out P1.out, cb_y HB.out P2.out, cb_y HB.out R0.out, cb_y HB.out R1.out, cb_y HB.out R2.out⟩ (fun hHeld => ?_); clear hK K; refine norm_y (some 10) ?_; exact norm_ (by simp only [putAll, Act.put, put_x]) (hCont (g9, g10) _ ⟨hHeld, BK, BL, B9, B10, GEg9, GEg10, N910, HB⟩)
        ·
         skip
         refine value_ (w1 := ?_) (v := ?_) (by rfl) rfl ?_ ?_; rotate_left 2
         ·
          go_simp
          constructor
          ·
           rfl
          ·
           rfl
         obtain ⟨g10, hg_⟩ : ∃ b, b = wd.heap.size := ⟨_, rfl⟩; (have GEg10 : w.heap.size ≤ g10 := by rw [hg_]; exact HB.out.size); have B10 := Aside0.mk (blk_new wd (.cells #[.int .i64 0, .int .i64 0, .slice none 0 0] 59 (0, 0))); have hb11_ : Below wd.heap.size wd (wd.alloc (.cells #[.int .i64 0, .int .i64 0, .slice none 0 0] 59 (0, 0))) := below_alloc (Below.refl _ _) _; generalize hw_ : wd.alloc (.cells #[.int .i64 0, .int .i64 0, .slice none 0 0] 59 (0, 0)) = wp11 at *; rw [← hg_] at B10 ⊢; replace BK := Aside0.mk (blk_below BK.out hb11_); replace BL := Aside0.mk (blk_below BL.out hb11_); replace HB := Aside0.mk (below_step HB.out hb11_); clear hw_ hg_; refine hK.out _ _ ⟨(blk_cell BK.out 5).trans rfl, (blk_cell BL.out 5).trans rfl, cb_y HB.out P0.out, cb_y HB.out P1.out, cb_y HB.out P2.out, cb_y HB.out R0.out, cb_y HB.out R1.out, cb_y HB.out R2.out⟩ (fun hHeld => ?_); clear hK K; refine norm_y (some 10) ?_; (refine one_y 10 (some 9) (bz 14 4095) fun K hK => ?_); refine value_ (w1 := ?_) (v := ?_) (by rfl) rfl ?_ ?_; rotate_left 2
         ·
          go_simp
          constructor
          ·
           rfl
          ·
           rfl
         obtain ⟨g9, hg_⟩ : ∃ b, b = wp11.heap.size := ⟨_, rfl⟩; (have GEg9 : w.heap.size ≤ g9 := by rw [hg_]; exact HB.out.size); (have N910 : g9 ≠ g10 := by have := blk_lt B10.out; rw [hg_]; omega); have B9 := Aside0.mk (blk_new wp11 (.cells #[.int .i64 0, .int .i64 0, .slice none 0 0] 59 (0, 0))); have hb10_ : Below wp11.heap.size wp11 (wp11.alloc (.cells #[.int .i64 0, .int .i64 0, .slice none 0 0] 59 (0, 0))) := below_alloc (Below.refl _ _) _; generalize hw_ : wp11.alloc (.cells #[.int .i64 0, .int .i64 0, .slice none 0 0] 59 (0, 0)) = wp11_10 at *; rw [← hg_] at B9 ⊢; replace BK := Aside0.mk (blk_below BK.out hb10_); replace BL := Aside0.mk (blk_below BL.out hb10_); replace B10 := Aside0.mk (blk_below B10.out hb10_); replace HB := Aside0.mk (below_step HB.out hb10_); clear hw_ hg_; refine hK.out _ _ ⟨(blk_cell BK.out 5).trans rfl, (blk_cell BL.out 5).trans rfl, cb_y HB.out P0.out, cb_y HB.out P1.out, cb_y HB.out P2.out, cb_y HB.out R0.out, cb_y HB.out R1.out, cb_y HB.out R2.out⟩ (fun hHeld => ?_); clear hK K; refine norm_y (some 9) ?_; exact norm_ (by simp only [putAll, Act.put, put_x]) (hCont (g9, g10) _ ⟨hHeld, BK, BL, B9, B10, GEg9, GEg10, N910, HB⟩)
       clear BK BL HB; rintro ⟨g9, g10⟩ wk ⟨hHeld, BK, BL, B9, B10, GEg9, GEg10, N910, HB⟩; refine norm_ (a' := ?_) ?_ ?_; rotate_left
       ·
        simp only [putAll, Act.put, put_x]; rfl
       (refine one_y 12 (none) (bz 14 8191) fun K hK => ?_); have hz0_ := (blk_cell B9.out 0).trans rfl; have hz1_ := (blk_cell B9.out 1).trans rfl; have hz2_ := (blk_cell B9.out 2).trans rfl; have hf0_ := blk_frozen B9.out 0; have hf1_ := blk_frozen B9.out 1; have hf2_ := blk_frozen B9.out 2; refine skip_ (w1 := ?_) (by rfl) rfl ?_ ?_; rotate_left; (go_simp; rfl); clear hz0_ hz1_ hz2_ hf0_ hf1_ hf2_; replace BK := Aside0.mk (blk_far BK.out (p := ⟨g9, 0, none⟩) (blk_ne_ BK.out B9.out (by decide)) (.int .i64 sl.f0.f0)); replace BL := Aside0.mk (blk_far BL.out (p := ⟨g9, 0, none⟩) (blk_ne_ BL.out B9.out (by decide)) (.int .i64 sl.f0.f0)); replace B10 := Aside0.mk (blk_far B10.out (p := ⟨g9, 0, none⟩) N910.symm (.int .i64 sl.f0.f0)); replace HB := Aside0.mk (below_set (g := g9) (j := 0) (v := .int .i64 sl.f0.f0) HB.out GEg9); have B9n := Aside0.mk (blk_set B9.out 0 (.int .i64 sl.f0.f0)); clear B9; have B9 := B9n; clear B9n; replace BK := Aside0.mk (blk_far BK.out (p := ⟨g9, 1, none⟩) (blk_ne_ BK.out B9.out (by decide)) (.int .i64 sl.f0.f1)); replace BL := Aside0.mk (blk_far BL.out (p := ⟨g9, 1, none⟩) (blk_ne_ BL.out B9.out (by decide)) (.int .i64 sl.f0.f1)); replace B10 := Aside0.mk (blk_far B10.out (p := ⟨g9, 1, none⟩) N910.symm (.int .i64 sl.f0.f1)); replace HB := Aside0.mk (below_set (g := g9) (j := 1) (v := .int .i64 sl.f0.f1) HB.out GEg9); have B9n := Aside0.mk (blk_set B9.out 1 (.int .i64 sl.f0.f1)); clear B9; have B9 := B9n; clear B9n; replace BK := Aside0.mk (blk_far BK.out (p := ⟨g9, 2, none⟩) (blk_ne_ BK.out B9.out (by decide)) (.slice A2 sl.f1.length c2)); replace BL := Aside0.mk (blk_far BL.out (p := ⟨g9, 2, none⟩) (blk_ne_ BL.out B9.out (by decide)) (.slice A2 sl.f1.length c2)); replace B10 := Aside0.mk (blk_far B10.out (p := ⟨g9, 2, none⟩) N910.symm (.slice A2 sl.f1.length c2)); replace HB := Aside0.mk (below_set (g := g9) (j := 2) (v := .slice A2 sl.f1.length c2) HB.out GEg9); have B9n := Aside0.mk (blk_put (cs' := #[.int .i64 sl.f0.f0, .int .i64 sl.f0.f1, .slice A2 sl.f1.length c2]) B9.out 2 (.slice A2 sl.f1.length c2) rfl); clear B9; have B9 := B9n; clear B9n; generalize hw_ : ((wk.setCell ⟨g9, 0, none⟩ (.int .i64 sl.f0.f0)).setCell ⟨g9, 1, none⟩ (.int .i64 sl.f0.f1)).setCell ⟨g9, 2, none⟩ (.slice A2 sl.f1.length c2) = w7 at *; clear hw_; refine hK.out _ _ ⟨(blk_cell BK.out 5).trans rfl, (blk_cell BL.out 5).trans rfl, cb_y HB.out P0.out, cb_y HB.out P1.out, cb_y HB.out P2.out, cb_y HB.out R0.out, cb_y HB.out R1.out, cb_y HB.out R2.out⟩ (fun hHeld => ?_); clear hK K; refine last_ (i := 13) (N := none) (bz 14 16383) rfl rfl (by kernel_rfl) (by decide) (fun K hK => ?_); have hz0_ := (blk_cell B10.out 0).trans rfl; have hf0_ := blk_frozen B10.out 0; have hz1_ := (blk_cell B10.out 1).trans rfl; have hf1_ := blk_frozen B10.out 1; have hz2_ := (blk_cell B10.out 2).trans rfl; have hf2_ := blk_frozen B10.out 2; refine skip_ (w1 := ?_) (by rfl) rfl ?_ ?_; rotate_left; (go_simp; rfl); refine hK.out _ _ ?_; clear hK K; refine done_ (by kernel_rfl) ?_; clear hHeld hz0_ hf0_ hz1_ hf1_ hz2_ hf2_; replace BK := Aside0.mk (blk_far BK.out (p := ⟨g10, 0, none⟩) (blk_ne_ BK.out B10.out (by decide)) (.int .i64 sl.f0.f0)); replace BL := Aside0.mk (blk_far BL.out (p := ⟨g10, 0, none⟩) (blk_ne_ BL.out B10.out (by decide)) (.int .i64 sl.f0.f0)); replace B9 := Aside0.mk (blk_far B9.out (p := ⟨g10, 0, none⟩) N910 (.int .i64 sl.f0.f0)); replace HB := Aside0.mk (below_set (g := g10) (j := 0) (v := .int .i64 sl.f0.f0) HB.out GEg10); have B10n := Aside0.mk (blk_set B10.out 0 (.int .i64 sl.f0.f0)); clear B10; have B10 := B10n; clear B10n; replace BK := Aside0.mk (blk_far BK.out (p := ⟨g10, 1, none⟩) (blk_ne_ BK.out B10.out (by decide)) (.int .i64 sl.f0.f1)); replace BL := Aside0.mk (blk_far BL.out (p := ⟨g10, 1, none⟩) (blk_ne_ BL.out B10.out (by decide)) (.int .i64 sl.f0.f1)); replace B9 := Aside0.mk (blk_far B9.out (p := ⟨g10, 1, none⟩) N910 (.int .i64 sl.f0.f1)); replace HB := Aside0.mk (below_set (g := g10) (j := 1) (v := .int .i64 sl.f0.f1) HB.out GEg10); have B10n := Aside0.mk (blk_set B10.out 1 (.int .i64 sl.f0.f1)); clear B10; have B10 := B10n; clear B10n; replace BK := Aside0.mk (blk_far BK.out (p := ⟨g10, 2, none⟩) (blk_ne_ BK.out B10.out (by decide)) (.slice B2 sl.f1.length d2)); replace BL := Aside0.mk (blk_far BL.out (p := ⟨g10, 2, none⟩) (blk_ne_ BL.out B10.out (by decide)) (.slice B2 sl.f1.length d2)); replace B9 := Aside0.mk (blk_far B9.out (p := ⟨g10, 2, none⟩) N910 (.slice B2 sl.f1.length d2)); replace HB := Aside0.mk (below_set (g := g10) (j := 2) (v := .slice B2 sl.f1.length d2) HB.out GEg10); have B10n := Aside0.mk (blk_put (cs' := #[.int .i64 sl.f0.f0, .int .i64 sl.f0.f1, .slice B2 sl.f1.length d2]) B10.out 2 (.slice B2 sl.f1.length d2) rfl); clear B10; have B10 := B10n; clear B10n; generalize hw_ : ((w7.setCell ⟨g10, 0, none⟩ (.int .i64 sl.f0.f0)).setCell ⟨g10, 1, none⟩ (.int .i64 sl.f0.f1)).setCell ⟨g10, 2, none⟩ (.slice B2 sl.f1.length d2) = w8 at *; clear hw_; have hz0_ := (blk_cell B9.out 0).trans rfl; have hy0_ := (blk_cell B10.out 0).trans rfl; have hz1_ := (blk_cell B9.out 1).trans rfl; have hy1_ := (blk_cell B10.out 1).trans rfl; have hz2_ := (blk_cell B9.out 2).trans rfl; have hy2_ := (blk_cell B10.out 2).trans rfl
       go_upto_region 15 with (fail)
       clear hz0_ hz1_ hz2_ hy0_ hy1_ hy2_; go_wp2
       go_loopg [5, 11] sl.f1.length (fun gk v5 v11 wr => ∃ j : Nat, j ≤ sl.f1.length ∧ sl.f1.length - j ≤ gk ∧ v5 = .bool true ∧ v11 = .int .i64 j ∧ Aside0 (wr.heap[g2]? = some (.cells #[.int .i64 L, .int .i64 U, .int .i64 R, .slice A3 holds.length c3, .int .i64 V, .slice (some ad) sills.length c5, .slice A6 lots.length c6] 26 (0, 0))) ∧ Aside0 (wr.heap[g3]? = some (.cells #[.int .i64 L, .int .i64 U, .int .i64 R, .slice B3 holds.length d3, .int .i64 V, .slice (some bd) sills.length d5, .slice B6 lots.length d6] 26 (0, 0))) ∧ Aside0 (Below w.heap.size w wr) ∧ Aside0 (wr.heap[g9]? = some (.cells #[.int .i64 sl.f0.f0, .int .i64 sl.f0.f1, .slice A2 sl.f1.length c2] 59 (0, 0))) ∧ Aside0 (wr.heap[g10]? = some (.cells #[.int .i64 sl.f0.f0, .int .i64 sl.f0.f1, .slice B2 sl.f1.length d2] 59 (0, 0))))
       case atStart => exact ⟨0, by omega, by omega, rfl, rfl, BK, BL, HB, B9, B10⟩
       case round =>
        clear BK BL HB B9 B10; obtain ⟨j, hj, hgj, rfl, rfl, BK, BL, HB, B9, B10⟩ := hrel; by_cases hjl : j < sl.f1.length
        ·
         (have hjz : (j : Int) < (sl.f1.length : Int) := by omega); have hz_ := (blk_cell B9.out 2).trans rfl; have hy_ := (blk_cell B10.out 2).trans rfl
         go_upto_region 18 with (fail)
         clear hz_ hy_; have hd_ := below_drew1 (Below.refl wr.heap.size wr); replace BK := Aside0.mk (blk_below BK.out hd_); replace BL := Aside0.mk (blk_below BL.out hd_); replace B9 := Aside0.mk (blk_below B9.out hd_); replace B10 := Aside0.mk (blk_below B10.out hd_); replace HB := Aside0.mk (below_step HB.out hd_); clear hd_; obtain ⟨ae, e1_, p0, p1, p2⟩ := at_T62 (Kd.C_below PC.out HB.out) (j : Int) (by omega) hjz; obtain ⟨be, e2_, r0, r1, r2⟩ := at_T62 (Kd.C_below RC.out HB.out) (j : Int) (by omega) hjz; (cases e1_); (cases e2_); rw [Int.toNat_natCast] at p0 p1 p2 r0 r1 r2; refine start_ (n := 12) (S := fun w' => w'.cell? ⟨g9, 2, none⟩ = some (.slice (some ae) sl.f1.length c2) ∧ w'.cell? ⟨g10, 2, none⟩ = some (.slice (some be) sl.f1.length d2) ∧ w'.cell? (ae.add (j * 3)) = some (.int .i64 (rd_T62 sl.f1 (j : Int)).f0) ∧ w'.cell? ⟨(ae.add (j * 3)).block, (ae.add (j * 3)).off + 1, none⟩ = some (.int .i64 (rd_T62 sl.f1 (j : Int)).f1.f0) ∧ w'.cell? ⟨(ae.add (j * 3)).block, (ae.add (j * 3)).off + 2, none⟩ = some (.int .i64 (rd_T62 sl.f1 (j : Int)).f1.f1) ∧ w'.cell? (be.add (j * 3)) = some (.int .i64 (rd_T62 sl.f1 (j : Int)).f0) ∧ w'.cell? ⟨(be.add (j * 3)).block, (be.add (j * 3)).off + 1, none⟩ = some (.int .i64 (rd_T62 sl.f1 (j : Int)).f1.f0) ∧ w'.cell? ⟨(be.add (j * 3)).block, (be.add (j * 3)).off + 2, none⟩ = some (.int .i64 (rd_T62 sl.f1 (j : Int)).f1.f1)) (ds := []) #[false, false, false, false, false, false, false, false, false, false, false, false] (by kernel_rfl) rfl rfl ⟨(blk_cell B9.out 2).trans rfl, (blk_cell B10.out 2).trans rfl, p0, p1, p2, r0, r1, r2⟩ (fun hHeld => ?_); generalize wr.drew = wd at BK BL HB B9 B10 hHeld ⊢; refine pure_y 0 (some 151) (bz 12 1) ?_; refine pure_y 2 (some 153) (bz 12 5) ?_; refine pure_y 5 (some 156) (bz 12 37) ?_; refine pure_y 7 (some 158) (bz 12 165) ?_; refine take_y 1 (some 152) (bz 12 167) hHeld ?_; refine pure_y 3 (some 154) (bz 12 175) ?_; refine take_y 4 (some 155) (bz 12 191) hHeld ?_; refine take_y 6 (some 157) (bz 12 255) hHeld ?_; refine pure_y 8 (some 159) (bz 12 511) ?_; refine take_y 9 (some 160) (bz 12 1023) hHeld ?_; refine pure_y 10 (some 161) (bz 12 2047) ?_; refine pure_y 11 (some 5) (bz 12 4095) ?_; refine done_ (by kernel_rfl) ?_; clear hHeld p0 p1 p2 r0 r1 r2; go_wp2; go_roundg (sl.f1.length - (j + 1))
         case measure => omega
         case rel => exact ⟨j + 1, by omega, by omega, rfl, by go_num, BK, BL, HB, B9, B10⟩
        ·
         (have : j = sl.f1.length := by omega); subst this; have hz_ := (blk_cell B9.out 2).trans rfl; have hy_ := (blk_cell B10.out 2).trans rfl; go_wp2; go_roundg (sills.length - (k + 1))
         case measure => omega
         case rel => exact ⟨k + 1, by omega, by omega, rfl, by go_num, BK, BL, HB⟩
      ·
       (have : k = sills.length := by omega); subst this; have hz_ := (blk_cell BK.out 5).trans rfl; have hy_ := (blk_cell BL.out 5).trans rfl; go_wp2; go_ret; exact ⟨rfl, HB.out⟩
structure SailQ (L U R : Int) (holds : List S85) (V : Int) (sills : List S59) (lots : List S79) (l : List Int) : Prop where
 c : swarfkit_CopyVoyage.f L U R holds V sills lots = some (L, U, R, holds, V, sills, lots)
 i : swarfkit_Ints.f l = some l
 s : ∃ (v : Int) (o : List S56) (e : Int) (kr ko : Nat), ship_Sail.f L U R holds V sills lots l = some (v, o, e) ∧ swarfref07_Sail.f kr L U R holds V sills lots l = some (v, o, e) ∧ swarfkit_EqualRanges.f ko o o = some true
 v : holds.length ≤ 100000 ∧ lots.length ≤ 100000 ∧ lensOK sills
 n : ∃ k, swarfkit_EqualInts.f k l l = some true
theorem cells_at3 {w : World} {g t : Nat} {cs : Array Value} (h : w.heap[g]? = some (.cells cs t (0, 0))) (ys : Array Value) (b : Nat) (hh : ∀ j v, ys[j]? = some v → cs[b + j]? = some v) : ∀ j v, ys[j]? = some v → w.cell? ⟨g, b + j, none⟩ = some v := fun j v hj => (blk_cell h (b + j)).trans (hh j v hj)
set_option maxHeartbeats 8000000 in
set_option maxRecDepth 100000 in
theorem sails_wide (x : VoyV) (Ag : Option Addr) (cg : Nat) (sg : List Int) (A1 : Option Addr) (c1 : Nat) (l1 : List Int) (w : World) (hx : x.Ok w) (hrg : Kd.C (Kd.int .i64) w Ag sg.length sg) (hcg : sg.length ≤ cg) {kw ka : Nat} {wd_ : Bool} (hw : swarflaw07_wide.f kw x.light x.under x.trim x.holds x.leaves x.sills x.lots = some wd_) (hwide : wd_ = true ∨ wd_ = false ∧ (sg.length : Int) > 20) (haw : swarflaw07_awake.f ka = some true) :
  Calls Try.prog 3 #[.agg #[.int .i64 x.light, .int .i64 x.under, .int .i64 x.trim, .slice x.A3 x.holds.length x.c3, .int .i64 x.leaves, .slice x.A5 x.sills.length x.c5, .slice x.A6 x.lots.length x.c6], .slice Ag sg.length cg, .slice A1 l1.length c1] w fun e w' => e = .returned (.bool true) ∧ Below w.heap.size w w' := by
 have hu26 := Try.underlying26
 have hu56 := Try.underlying56
 have HX := Aside0.mk hx
 have HRG := Aside0.mk hrg
 have HWD := Aside0.mk hw
 have HAW := Aside0.mk haw
 clear hx hrg hw haw
 go_enter Try.func3, Try.ntmps3
 go_wp2_with (first | (refine box_r (N := 3) rfl (cs := #[.int .i64 x.light, .int .i64 x.under, .int .i64 x.trim, .slice x.A3 x.holds.length x.c3, .int .i64 x.leaves, .slice x.A5 x.sills.length x.c5, .slice x.A6 x.lots.length x.c6]) (t := 26) ?_; intro gx hg w2 hbox hb2; have BK := Aside0.mk hbox; have HB := Aside0.mk hb2; clear hg hbox hb2; have hz0_ := (blk_cell BK.out 0).trans rfl; have hz1_ := (blk_cell BK.out 1).trans rfl; have hz2_ := (blk_cell BK.out 2).trans rfl; have hz3_ := (blk_cell BK.out 3).trans rfl; have hz4_ := (blk_cell BK.out 4).trans rfl; have hz5_ := (blk_cell BK.out 5).trans rfl; have hz6_ := (blk_cell BK.out 6).trans rfl))
 refine (swarflaw07_wide.calls kw x.light x.under x.trim x.A3 x.c3 x.holds x.leaves x.A5 x.c5 x.sills x.A6 x.c6 x.lots wd_ w2 (HX.out.below HB.out).h (HX.out.below HB.out).hc (HX.out.below HB.out).s (HX.out.below HB.out).sc (HX.out.below HB.out).l (HX.out.below HB.out).lc HWD.out).mono ?_
 rintro e w3 ⟨rfl, hb_⟩
 replace BK := Aside0.mk (blk_below BK.out hb_)
 replace HB := Aside0.mk (below_step HB.out hb_)
 clear hb_ hz0_ hz1_ hz2_ hz3_ hz4_ hz5_ hz6_
 rcases hwide with rfl | ⟨rfl, hlg⟩
 all_goals
  go_wp2_with (fail)
  refine (swarflaw07_awake.calls ka true _ HAW.out).mono ?_; rintro e z4 ⟨rfl, hb_⟩; replace HB := Aside0.mk (below_step HB.out hb_); clear hb_; go_wp2; go_ret; exact ⟨rfl, HB.out⟩
set_option maxHeartbeats 8000000 in
set_option maxRecDepth 100000 in
theorem sails_walk (x : VoyV) (Ag : Option Addr) (cg : Nat) (sg : List Int) (A1 : Option Addr) (c1 : Nat) (l1 : List Int) (w : World) (hx : x.Ok w) (hrg : Kd.C (Kd.int .i64) w Ag sg.length sg) (hcg : sg.length ≤ cg) (hr1 : Kd.C (Kd.int .i64) w A1 l1.length l1) (hc1 : l1.length ≤ c1) {fd T s1 s2 s3 mL mU mR mV : Int} {kv ks : Nat} {mh : List S85} {ms : List S59} {ml : List S79} {st : List Int} {kw ka : Nat} (hw : swarflaw07_wide.f kw x.light x.under x.trim x.holds x.leaves x.sills x.lots = some false) (hlg : ¬ (sg.length : Int) > 20) (hf : swarfkit_FeedOf.f l1 = some fd) (he : swarfkit_Feed_Either.f fd [4, 30] = some (T, s1)) (hv : swarfkit_VoyageOf.f kv s1 3 4 4 T = some (mL, mU, mR, mh, mV, ms, ml, s2)) (hs : swarfkit_StowageOf.f ks s2 mL mU mR mh mV ms ml = some (st, s3))
  (hq1 : SailQ x.light x.under x.trim x.holds x.leaves x.sills x.lots sg) (hq2 : SailQ mL mU mR mh mV ms ml st) (haw : swarflaw07_awake.f ka = some true) :
  Calls Try.prog 3 #[.agg #[.int .i64 x.light, .int .i64 x.under, .int .i64 x.trim, .slice x.A3 x.holds.length x.c3, .int .i64 x.leaves, .slice x.A5 x.sills.length x.c5, .slice x.A6 x.lots.length x.c6], .slice Ag sg.length cg, .slice A1 l1.length c1] w fun e w' => e = .returned (.bool true) ∧ Below w.heap.size w w' := by
 obtain ⟨wd_, hwd_⟩ : ∃ b : Bool, b = false := ⟨_, rfl⟩
 rw [← hwd_] at hw
 have HR1 := Aside0.mk hr1
 have HF := Aside0.mk hf
 have HE := Aside0.mk he
 have HV := Aside0.mk hv
 have HS := Aside0.mk hs
 have HQ1 := Aside0.mk hq1
 have HQ2 := Aside0.mk hq2
 clear hr1 hf he hv hs hq1 hq2
 have hu26 := Try.underlying26
 have hu56 := Try.underlying56
 have HX := Aside0.mk hx
 have HRG := Aside0.mk hrg
 have HWD := Aside0.mk hw
 have HAW := Aside0.mk haw
 clear hx hrg hw haw
 go_enter Try.func3, Try.ntmps3
 go_wp2_with (first | (refine box_r (N := 3) rfl (cs := #[.int .i64 x.light, .int .i64 x.under, .int .i64 x.trim, .slice x.A3 x.holds.length x.c3, .int .i64 x.leaves, .slice x.A5 x.sills.length x.c5, .slice x.A6 x.lots.length x.c6]) (t := 26) ?_; intro gx hg w2 hbox hb2; have BK := Aside0.mk hbox; have HB := Aside0.mk hb2; clear hg hbox hb2; have hz0_ := (blk_cell BK.out 0).trans rfl; have hz1_ := (blk_cell BK.out 1).trans rfl; have hz2_ := (blk_cell BK.out 2).trans rfl; have hz3_ := (blk_cell BK.out 3).trans rfl; have hz4_ := (blk_cell BK.out 4).trans rfl; have hz5_ := (blk_cell BK.out 5).trans rfl; have hz6_ := (blk_cell BK.out 6).trans rfl))
 refine (swarflaw07_wide.calls kw x.light x.under x.trim x.A3 x.c3 x.holds x.leaves x.A5 x.c5 x.sills x.A6 x.c6 x.lots wd_ w2 (HX.out.below HB.out).h (HX.out.below HB.out).hc (HX.out.below HB.out).s (HX.out.below HB.out).sc (HX.out.below HB.out).l (HX.out.below HB.out).lc HWD.out).mono ?_
 rintro e w3 ⟨rfl, hb_⟩
 replace BK := Aside0.mk (blk_below BK.out hb_)
 replace HB := Aside0.mk (below_step HB.out hb_)
 clear hb_ hz0_ hz1_ hz2_ hz3_ hz4_ hz5_ hz6_
 subst hwd_
 go_wp2_with (fail)
 refine (swarfkit_FeedOf.calls A1 c1 l1 fd w _ HB.out HR1.out hc1 HF.out).mono ?_
 rintro e w4 ⟨g, rfl, hi_, hb_, hk_⟩
 replace BK := Aside0.mk (blk_below BK.out hk_)
 have HI := Aside0.mk hi_
 replace HB := Aside0.mk hb_
 clear hi_ hb_ hk_
 go_wp2_with ((with_reducible refine gate_dst (N := 32) rfl ?_); refine Kd.R_lit (Kd.int .i64) _ 3 ?hg (N := 32) ?hd (xs := ([4, 30] : List Int)) (inner := [.int .i64 4, .int .i64 30]) (ok := fun _ => True) (okp := fun _ => True) ?hr ?hp (fun _ hk => hk) trivial (Below.refl _ _) (Nat.le_refl _) (by simp) ?_; (case hd => rfl); (case hg => rfl); (case hr => first | (go_simp; done) | (go_simp; rfl)); (case hp => exact (Reps.one (show Kd.M (Kd.int .i64) _ _ _ 4 [.int .i64 4] from rfl) (Reps.one (show Kd.M (Kd.int .i64) _ _ _ 30 [.int .i64 30] from rfl) (Reps.none _ _)))); intro vl w5 ho_ hb_ hg_ hnew_; obtain ⟨Al, cl, rfl⟩ := Kd.R_slice ho_; have RL := Aside0.mk ho_; have HFL := Aside0.mk (show ∀ ad, Al = some ad → 0 < [(4 : Int), 30].length → ad.block ≠ g from fun ad ha _ => by subst ha; have h1 := HI.out.lt; have h2 := Kd.R_base ho_ ad.block (by simp [Value.ownBlock]); omega); replace BK := Aside0.mk (blk_below BK.out hb_); replace HI := Aside0.mk (IsS90.below HI.out hb_); replace HB := Aside0.mk (below_step HB.out hb_); clear ho_ hb_ hg_ hnew_)
 refine (swarfkit_Feed_Either.calls g fd Al cl [4, 30] T s1 w w5 HI.out HB.out (Kd.R_reads' RL.out).2.2 (Kd.R_reads' RL.out).2.1 HFL.out HE.out).mono ?_
 rintro e w6 ⟨rfl, hi_, hb_, hk_⟩
 replace BK := Aside0.mk (blk_kb BK.out hk_ (IsS90.ne_blk HI.out BK.out (by decide)).symm)
 replace HI := Aside0.mk hi_
 replace HB := Aside0.mk hb_
 clear hi_ hb_ hk_ RL HFL
 go_wp2_with (fail)
 refine (swarfkit_VoyageOf.calls kv g s1 3 4 4 T mL mU mR mh mV ms ml s2 w w6 HI.out HB.out HV.out).mono ?_
 rintro e w7 ⟨v3, v5, v6, rfl, ho3, ho5, ho6, hi_, hb_, hk_⟩
 obtain ⟨M3, d3, rfl⟩ := Kd.R_slice ho3
 obtain ⟨M5, d5, rfl⟩ := Kd.S_slice ho5
 obtain ⟨M6, d6, rfl⟩ := Kd.R_slice ho6
 obtain ⟨Nv, hNv⟩ : ∃ n, n = w6.heap.size := ⟨_, rfl⟩
 have GNv : Aside0 (g < Nv) := ⟨by rw [hNv]; exact HI.out.lt⟩
 rw [← hNv] at ho3 ho5 ho6
 replace BK := Aside0.mk (blk_kb BK.out hk_ (IsS90.ne_blk HI.out BK.out (by decide)).symm)
 replace HI := Aside0.mk hi_
 replace HB := Aside0.mk hb_
 have R3 := Aside0.mk ho3
 have R5 := Aside0.mk ho5
 have R6 := Aside0.mk ho6
 clear hi_ hb_ hk_ ho3 ho5 ho6 hNv
 go_upto_region 5 with (fail)
 obtain ⟨g8, hg_⟩ : ∃ b, b = w7.heap.size := ⟨_, rfl⟩
 have B8 := Aside0.mk (blk_new w7 (.cells #[.int .i64 mL, .int .i64 mU, .int .i64 mR, .slice M3 mh.length d3, .int .i64 mV, .slice M5 ms.length d5, .slice M6 ml.length d6] 26 (0, 0)))
 have hbw : Below w7.heap.size w7 (w7.alloc (.cells #[.int .i64 mL, .int .i64 mU, .int .i64 mR, .slice M3 mh.length d3, .int .i64 mV, .slice M5 ms.length d5, .slice M6 ml.length d6] 26 (0, 0))) := below_alloc (Below.refl _ _) _
 have hgs_ : w.heap.size ≤ g8 := by rw [hg_]; exact HB.out.size
 generalize hw_ : w7.alloc (.cells #[.int .i64 mL, .int .i64 mU, .int .i64 mR, .slice M3 mh.length d3, .int .i64 mV, .slice M5 ms.length d5, .slice M6 ml.length d6] 26 (0, 0)) = w8 at *
 rw [← hg_] at B8 ⊢
 replace BK := Aside0.mk (blk_below BK.out hbw)
 replace R3 := Aside0.mk (Kd.R_below R3.out hbw)
 replace R6 := Aside0.mk (Kd.R_below R6.out hbw)
 replace R5 := Aside0.mk (Kd.S_below R5.out hbw)
 replace HI := Aside0.mk (IsS90.below HI.out hbw)
 replace HB := Aside0.mk (below_step HB.out hbw)
 have GEg8 : Aside0 (w.heap.size ≤ g8) := ⟨hgs_⟩
 clear hbw hw_ hg_ hgs_
 have hd_ := below_drew1 (Below.refl w8.heap.size w8)
 replace BK := Aside0.mk (blk_below BK.out hd_)
 replace B8 := Aside0.mk (blk_below B8.out hd_)
 replace R3 := Aside0.mk (Kd.R_below R3.out hd_)
 replace R6 := Aside0.mk (Kd.R_below R6.out hd_)
 replace R5 := Aside0.mk (Kd.S_below R5.out hd_)
 replace HI := Aside0.mk (IsS90.below HI.out hd_)
 replace HB := Aside0.mk (below_step HB.out hd_)
 clear hd_
 refine start_ (n := 10) (S := fun w' => w'.cell? ⟨gx, 0, none⟩ = some (.int .i64 x.light) ∧ w'.cell? ⟨gx, 1, none⟩ = some (.int .i64 x.under) ∧ w'.cell? ⟨gx, 2, none⟩ = some (.int .i64 x.trim) ∧ w'.cell? ⟨gx, 3, none⟩ = some (.slice x.A3 x.holds.length x.c3) ∧ w'.cell? ⟨gx, 4, none⟩ = some (.int .i64 x.leaves) ∧ w'.cell? ⟨gx, 5, none⟩ = some (.slice x.A5 x.sills.length x.c5) ∧ w'.cell? ⟨gx, 6, none⟩ = some (.slice x.A6 x.lots.length x.c6) ∧ w'.cell? ⟨g8, 0, none⟩ = some (.int .i64 mL) ∧ w'.cell? ⟨g8, 1, none⟩ = some (.int .i64 mU) ∧ w'.cell? ⟨g8, 2, none⟩ = some (.int .i64 mR) ∧ w'.cell? ⟨g8, 3, none⟩ = some (.slice M3 mh.length d3) ∧ w'.cell? ⟨g8, 4, none⟩ = some (.int .i64 mV) ∧ w'.cell? ⟨g8, 5, none⟩ = some (.slice M5 ms.length d5) ∧ w'.cell? ⟨g8, 6, none⟩ = some (.slice M6 ml.length d6)) (ds := []) #[false, false, false, false, false, false, false, false, false, false] (by kernel_rfl) rfl rfl ⟨(blk_cell BK.out 0).trans rfl, (blk_cell BK.out 1).trans rfl, (blk_cell BK.out 2).trans rfl, (blk_cell BK.out 3).trans rfl, (blk_cell BK.out 4).trans rfl, (blk_cell BK.out 5).trans rfl, (blk_cell BK.out 6).trans rfl, (blk_cell B8.out 0).trans rfl, (blk_cell B8.out 1).trans rfl, (blk_cell B8.out 2).trans rfl, (blk_cell B8.out 3).trans rfl, (blk_cell B8.out 4).trans rfl, (blk_cell B8.out 5).trans rfl, (blk_cell B8.out 6).trans rfl⟩ (fun hHeld => ?_)
 generalize w8.drew = wd at BK B8 R3 R5 R6 HI HB hHeld ⊢
 refine pure_y 3 (some 38) (bz 10 8) ?_
 refine pure_y 4 (some 39) (bz 10 24) ?_
 refine take_y 0 (some 35) (bz 10 25) hHeld ?_
 refine take_y 1 (some 36) (bz 10 27) hHeld ?_
 refine take_y 5 (some 40) (bz 10 59) hHeld ?_
 refine join_ (σ := Nat × Nat × Option Addr × Nat) 1 (bz 10 511) (fun s_ => [(37, .slice (some ⟨s_.1, 0, none⟩) 2 2), (41, .slice s_.2.2.1 st.length s_.2.2.2), (42, .slice (some ⟨s_.2.1, 0, none⟩) 2 2), (9, .slice (some ⟨s_.1, 0, none⟩) 2 2)]) (fun s_ w' => (w'.cell? ⟨gx, 0, none⟩ = some (.int .i64 x.light) ∧ w'.cell? ⟨gx, 1, none⟩ = some (.int .i64 x.under) ∧ w'.cell? ⟨gx, 2, none⟩ = some (.int .i64 x.trim) ∧ w'.cell? ⟨gx, 3, none⟩ = some (.slice x.A3 x.holds.length x.c3) ∧ w'.cell? ⟨gx, 4, none⟩ = some (.int .i64 x.leaves) ∧ w'.cell? ⟨gx, 5, none⟩ = some (.slice x.A5 x.sills.length x.c5) ∧ w'.cell? ⟨gx, 6, none⟩ = some (.slice x.A6 x.lots.length x.c6) ∧ w'.cell? ⟨g8, 0, none⟩ = some (.int .i64 mL) ∧ w'.cell? ⟨g8, 1, none⟩ = some (.int .i64 mU) ∧ w'.cell? ⟨g8, 2, none⟩ = some (.int .i64 mR) ∧ w'.cell? ⟨g8, 3, none⟩ = some (.slice M3 mh.length d3) ∧ w'.cell? ⟨g8, 4, none⟩ = some (.int .i64 mV) ∧ w'.cell? ⟨g8, 5, none⟩ = some (.slice M5 ms.length d5) ∧ w'.cell? ⟨g8, 6, none⟩ = some (.slice M6 ml.length d6)) ∧ Aside0 (w'.heap[s_.1]? = some (.cells #[.int .i64 x.light, .int .i64 x.under, .int .i64 x.trim, .slice x.A3 x.holds.length x.c3, .int .i64 x.leaves, .slice x.A5 x.sills.length x.c5, .slice x.A6 x.lots.length x.c6, .int .i64 mL, .int .i64 mU, .int .i64 mR, .slice M3 mh.length d3, .int .i64 mV, .slice M5 ms.length d5, .slice M6 ml.length d6] 26 (0, 0))) ∧ Aside0 (w'.heap[s_.2.1]? = some (.cells #[.slice Ag sg.length cg, .slice s_.2.2.1 st.length s_.2.2.2] 27 (0, 0))) ∧ Aside0 (Below w.heap.size w w') ∧ Aside0 ((⟨mL, mU, mR, M3, d3, mh, mV, M5, d5, ms, M6, d6, ml⟩ : VoyV).Ok w') ∧ Aside0 (Kd.C (Kd.int .i64) w' s_.2.2.1 st.length st) ∧ Aside0 (st.length ≤ s_.2.2.2)) ?_ ?_
 rotate_left
 ·
  intro hCont; refine two_ (i := 2) (j := 6) (Ni := some 37) (Nj := some 41) (bz 10 63) (bz 10 123) rfl rfl rfl rfl (by kernel_rfl) (by decide) (by decide) (fun K hK => ?_) (fun K hK => ?_)
  ·
   skip
   refine value_ (w1 := ?_) (v := ?_) (by rfl) rfl ?_ ?_; rotate_left 2
   ·
    go_simp
    constructor
    ·
     rfl
    ·
     rfl
   obtain ⟨ga, hg_⟩ : ∃ b, b = wd.heap.size := ⟨_, rfl⟩; have BA := Aside0.mk (blk_new wd (.cells #[.int .i64 x.light, .int .i64 x.under, .int .i64 x.trim, .slice x.A3 x.holds.length x.c3, .int .i64 x.leaves, .slice x.A5 x.sills.length x.c5, .slice x.A6 x.lots.length x.c6, .int .i64 mL, .int .i64 mU, .int .i64 mR, .slice M3 mh.length d3, .int .i64 mV, .slice M5 ms.length d5, .slice M6 ml.length d6] 26 (0, 0))); have hb2_ : Below wd.heap.size wd (wd.alloc (.cells #[.int .i64 x.light, .int .i64 x.under, .int .i64 x.trim, .slice x.A3 x.holds.length x.c3, .int .i64 x.leaves, .slice x.A5 x.sills.length x.c5, .slice x.A6 x.lots.length x.c6, .int .i64 mL, .int .i64 mU, .int .i64 mR, .slice M3 mh.length d3, .int .i64 mV, .slice M5 ms.length d5, .slice M6 ml.length d6] 26 (0, 0))) := below_alloc (Below.refl _ _) _; generalize hw_ : wd.alloc (.cells #[.int .i64 x.light, .int .i64 x.under, .int .i64 x.trim, .slice x.A3 x.holds.length x.c3, .int .i64 x.leaves, .slice x.A5 x.sills.length x.c5, .slice x.A6 x.lots.length x.c6, .int .i64 mL, .int .i64 mU, .int .i64 mR, .slice M3 mh.length d3, .int .i64 mV, .slice M5 ms.length d5, .slice M6 ml.length d6] 26 (0, 0)) = wq2 at *; rw [← hg_] at BA ⊢; replace BK := Aside0.mk (blk_below BK.out hb2_); replace B8 := Aside0.mk (blk_below B8.out hb2_); replace R3 := Aside0.mk (Kd.R_below R3.out hb2_); replace R6 := Aside0.mk (Kd.R_below R6.out hb2_); replace R5 := Aside0.mk (Kd.S_below R5.out hb2_); replace HI := Aside0.mk (IsS90.below HI.out hb2_); replace HB := Aside0.mk (below_step HB.out hb2_); clear hw_ hg_; refine hK.out _ _ (cbs_y hb2_ hHeld) (fun hHeld => ?_); clear hK K; refine norm_y (some 37) ?_; (refine one_y 6 (some 41) (bz 10 127) fun K hK => ?_); refine goes_x Try.func19 #[.pointer (some ⟨g, 0, none⟩), .agg #[.int .i64 mL, .int .i64 mU, .int .i64 mR, .slice M3 mh.length d3, .int .i64 mV, .slice M5 ms.length d5, .slice M6 ml.length d6]] ?_
   with_reducible refine (swarfkit_StowageOf.calls ks g s2 mL mU mR M3 d3 mh mV M5 d5 ms M6 d6 ml st s3 w _ HI.out HB.out (fun W_ hk_ => (Kd.R_reads' (R_kb R3.out hk_ GNv.out)).2.2) (Kd.R_reads' R3.out).2.1 (fun W_ hk_ => (Kd.S_reads' (S_kb R5.out hk_ GNv.out)).2.2) (Kd.S_reads' R5.out).2.1 (fun W_ hk_ => (Kd.R_reads' (R_kb R6.out hk_ GNv.out)).2.2) (Kd.R_reads' R6.out).2.1 HS.out).mono ?_
   rintro e wq2_6 ⟨vs_, rfl, ho_, hi_, hb_, hk_⟩; obtain ⟨Ao, co, rfl⟩ := Kd.R_slice ho_; have RO := Aside0.mk (Kd.R_reads' ho_).2.2; have lo_ := (Kd.R_reads' ho_).2.1; have hgx_ := (IsS90.ne_blk HI.out BK.out (by decide)).symm; have hg8_ := (IsS90.ne_blk HI.out B8.out (by decide)).symm; replace BK := Aside0.mk (blk_kb BK.out hk_ (IsS90.ne_blk HI.out BK.out (by decide)).symm); replace B8 := Aside0.mk (blk_kb B8.out hk_ (IsS90.ne_blk HI.out B8.out (by decide)).symm); replace BA := Aside0.mk (blk_kb BA.out hk_ (IsS90.ne_blk HI.out BA.out (by decide)).symm); replace R3 := Aside0.mk (R_kb R3.out hk_ GNv.out); replace R6 := Aside0.mk (R_kb R6.out hk_ GNv.out); replace R5 := Aside0.mk (S_kb R5.out hk_ GNv.out); replace HB := Aside0.mk hb_; replace HI := Aside0.mk hi_; refine ⟨_, rfl, ?_⟩; refine hK.out _ _ ⟨keep_cell hk_ (hHeld.1) hgx_, keep_cell hk_ (hHeld.2.1) hgx_, keep_cell hk_ (hHeld.2.2.1) hgx_, keep_cell hk_ (hHeld.2.2.2.1) hgx_, keep_cell hk_ (hHeld.2.2.2.2.1) hgx_, keep_cell hk_ (hHeld.2.2.2.2.2.1) hgx_, keep_cell hk_ (hHeld.2.2.2.2.2.2.1) hgx_, keep_cell hk_ (hHeld.2.2.2.2.2.2.2.1) hg8_, keep_cell hk_ (hHeld.2.2.2.2.2.2.2.2.1) hg8_, keep_cell hk_ (hHeld.2.2.2.2.2.2.2.2.2.1) hg8_, keep_cell hk_ (hHeld.2.2.2.2.2.2.2.2.2.2.1) hg8_, keep_cell hk_ (hHeld.2.2.2.2.2.2.2.2.2.2.2.1) hg8_, keep_cell hk_ (hHeld.2.2.2.2.2.2.2.2.2.2.2.2.1) hg8_, keep_cell hk_ (hHeld.2.2.2.2.2.2.2.2.2.2.2.2.2) hg8_⟩ (fun hHeld => ?_); clear hK K; refine norm_y (some 41) ?_; refine pure_y 8 (some 9) (bz 10 383) ?_; (refine one_y 7 (some 42) (bz 10 511) fun K hK => ?_); refine value_ (w1 := ?_) (v := ?_) (by rfl) rfl ?_ ?_; rotate_left 2
   ·
    go_simp
    constructor
    ·
     rfl
    ·
     rfl
   obtain ⟨gl, hg_⟩ : ∃ b, b = wq2_6.heap.size := ⟨_, rfl⟩; have BL := Aside0.mk (blk_new wq2_6 (.cells #[.slice Ag sg.length cg, .slice Ao st.length co] 27 (0, 0))); have hb7_ : Below wq2_6.heap.size wq2_6 (wq2_6.alloc (.cells #[.slice Ag sg.length cg, .slice Ao st.length co] 27 (0, 0))) := below_alloc (Below.refl _ _) _; generalize hw_ : wq2_6.alloc (.cells #[.slice Ag sg.length cg, .slice Ao st.length co] 27 (0, 0)) = wq2_6_7 at *; rw [← hg_] at BL ⊢; replace BK := Aside0.mk (blk_below BK.out hb7_); replace B8 := Aside0.mk (blk_below B8.out hb7_); replace BA := Aside0.mk (blk_below BA.out hb7_); replace R3 := Aside0.mk (Kd.R_below R3.out hb7_); replace R6 := Aside0.mk (Kd.R_below R6.out hb7_); replace R5 := Aside0.mk (Kd.S_below R5.out hb7_); replace HI := Aside0.mk (IsS90.below HI.out hb7_); replace HB := Aside0.mk (below_step HB.out hb7_); replace RO := Aside0.mk (Kd.C_below RO.out hb7_); clear hw_ hg_; refine hK.out _ _ (cbs_y hb7_ hHeld) (fun hHeld => ?_); clear hK K; refine norm_y (some 42) ?_; exact norm_ (by simp only [putAll, Act.put, put_x]) (hCont (ga, gl, Ao, co) _ ⟨hHeld, BA, BL, HB, ⟨⟨(Kd.R_reads' R3.out).2.2, (Kd.R_reads' R3.out).2.1, (Kd.S_reads' R5.out).2.2, (Kd.S_reads' R5.out).2.1, (Kd.R_reads' R6.out).2.2, (Kd.R_reads' R6.out).2.1⟩⟩, RO, ⟨lo_⟩⟩)
  ·
   skip
   refine goes_x Try.func19 #[.pointer (some ⟨g, 0, none⟩), .agg #[.int .i64 mL, .int .i64 mU, .int .i64 mR, .slice M3 mh.length d3, .int .i64 mV, .slice M5 ms.length d5, .slice M6 ml.length d6]] ?_
   with_reducible refine (swarfkit_StowageOf.calls ks g s2 mL mU mR M3 d3 mh mV M5 d5 ms M6 d6 ml st s3 w _ HI.out HB.out (fun W_ hk_ => (Kd.R_reads' (R_kb R3.out hk_ GNv.out)).2.2) (Kd.R_reads' R3.out).2.1 (fun W_ hk_ => (Kd.S_reads' (S_kb R5.out hk_ GNv.out)).2.2) (Kd.S_reads' R5.out).2.1 (fun W_ hk_ => (Kd.R_reads' (R_kb R6.out hk_ GNv.out)).2.2) (Kd.R_reads' R6.out).2.1 HS.out).mono ?_
   rintro e wq6 ⟨vs_, rfl, ho_, hi_, hb_, hk_⟩; obtain ⟨Ao, co, rfl⟩ := Kd.R_slice ho_; have RO := Aside0.mk (Kd.R_reads' ho_).2.2; have lo_ := (Kd.R_reads' ho_).2.1; have hgx_ := (IsS90.ne_blk HI.out BK.out (by decide)).symm; have hg8_ := (IsS90.ne_blk HI.out B8.out (by decide)).symm; replace BK := Aside0.mk (blk_kb BK.out hk_ (IsS90.ne_blk HI.out BK.out (by decide)).symm); replace B8 := Aside0.mk (blk_kb B8.out hk_ (IsS90.ne_blk HI.out B8.out (by decide)).symm); replace R3 := Aside0.mk (R_kb R3.out hk_ GNv.out); replace R6 := Aside0.mk (R_kb R6.out hk_ GNv.out); replace R5 := Aside0.mk (S_kb R5.out hk_ GNv.out); replace HB := Aside0.mk hb_; replace HI := Aside0.mk hi_; refine ⟨_, rfl, ?_⟩; refine hK.out _ _ ⟨keep_cell hk_ (hHeld.1) hgx_, keep_cell hk_ (hHeld.2.1) hgx_, keep_cell hk_ (hHeld.2.2.1) hgx_, keep_cell hk_ (hHeld.2.2.2.1) hgx_, keep_cell hk_ (hHeld.2.2.2.2.1) hgx_, keep_cell hk_ (hHeld.2.2.2.2.2.1) hgx_, keep_cell hk_ (hHeld.2.2.2.2.2.2.1) hgx_, keep_cell hk_ (hHeld.2.2.2.2.2.2.2.1) hg8_, keep_cell hk_ (hHeld.2.2.2.2.2.2.2.2.1) hg8_, keep_cell hk_ (hHeld.2.2.2.2.2.2.2.2.2.1) hg8_, keep_cell hk_ (hHeld.2.2.2.2.2.2.2.2.2.2.1) hg8_, keep_cell hk_ (hHeld.2.2.2.2.2.2.2.2.2.2.2.1) hg8_, keep_cell hk_ (hHeld.2.2.2.2.2.2.2.2.2.2.2.2.1) hg8_, keep_cell hk_ (hHeld.2.2.2.2.2.2.2.2.2.2.2.2.2) hg8_⟩ (fun hHeld => ?_); clear hK K; refine norm_y (some 41) ?_; refine two_ (i := 2) (j := 7) (Ni := some 37) (Nj := some 42) (bz 10 127) (bz 10 251) rfl rfl rfl rfl (by kernel_rfl) (by decide) (by decide) (fun K hK => ?_) (fun K hK => ?_)
   ·
    skip
    refine value_ (w1 := ?_) (v := ?_) (by rfl) rfl ?_ ?_; rotate_left 2
    ·
     go_simp
     constructor
     ·
      rfl
     ·
      rfl
    obtain ⟨ga, hg_⟩ : ∃ b, b = wq6.heap.size := ⟨_, rfl⟩; have BA := Aside0.mk (blk_new wq6 (.cells #[.int .i64 x.light, .int .i64 x.under, .int .i64 x.trim, .slice x.A3 x.holds.length x.c3, .int .i64 x.leaves, .slice x.A5 x.sills.length x.c5, .slice x.A6 x.lots.length x.c6, .int .i64 mL, .int .i64 mU, .int .i64 mR, .slice M3 mh.length d3, .int .i64 mV, .slice M5 ms.length d5, .slice M6 ml.length d6] 26 (0, 0))); have hb2_ : Below wq6.heap.size wq6 (wq6.alloc (.cells #[.int .i64 x.light, .int .i64 x.under, .int .i64 x.trim, .slice x.A3 x.holds.length x.c3, .int .i64 x.leaves, .slice x.A5 x.sills.length x.c5, .slice x.A6 x.lots.length x.c6, .int .i64 mL, .int .i64 mU, .int .i64 mR, .slice M3 mh.length d3, .int .i64 mV, .slice M5 ms.length d5, .slice M6 ml.length d6] 26 (0, 0))) := below_alloc (Below.refl _ _) _; generalize hw_ : wq6.alloc (.cells #[.int .i64 x.light, .int .i64 x.under, .int .i64 x.trim, .slice x.A3 x.holds.length x.c3, .int .i64 x.leaves, .slice x.A5 x.sills.length x.c5, .slice x.A6 x.lots.length x.c6, .int .i64 mL, .int .i64 mU, .int .i64 mR, .slice M3 mh.length d3, .int .i64 mV, .slice M5 ms.length d5, .slice M6 ml.length d6] 26 (0, 0)) = wq6_2 at *; rw [← hg_] at BA ⊢; replace BK := Aside0.mk (blk_below BK.out hb2_); replace B8 := Aside0.mk (blk_below B8.out hb2_); replace R3 := Aside0.mk (Kd.R_below R3.out hb2_); replace R6 := Aside0.mk (Kd.R_below R6.out hb2_); replace R5 := Aside0.mk (Kd.S_below R5.out hb2_); replace HI := Aside0.mk (IsS90.below HI.out hb2_); replace HB := Aside0.mk (below_step HB.out hb2_); replace RO := Aside0.mk (Kd.C_below RO.out hb2_); clear hw_ hg_; refine hK.out _ _ (cbs_y hb2_ hHeld) (fun hHeld => ?_); clear hK K; refine norm_y (some 37) ?_; refine pure_y 8 (some 9) (bz 10 383) ?_; (refine one_y 7 (some 42) (bz 10 511) fun K hK => ?_); refine value_ (w1 := ?_) (v := ?_) (by rfl) rfl ?_ ?_; rotate_left 2
    ·
     go_simp
     constructor
     ·
      rfl
     ·
      rfl
    obtain ⟨gl, hg_⟩ : ∃ b, b = wq6_2.heap.size := ⟨_, rfl⟩; have BL := Aside0.mk (blk_new wq6_2 (.cells #[.slice Ag sg.length cg, .slice Ao st.length co] 27 (0, 0))); have hb7_ : Below wq6_2.heap.size wq6_2 (wq6_2.alloc (.cells #[.slice Ag sg.length cg, .slice Ao st.length co] 27 (0, 0))) := below_alloc (Below.refl _ _) _; generalize hw_ : wq6_2.alloc (.cells #[.slice Ag sg.length cg, .slice Ao st.length co] 27 (0, 0)) = wq6_2_7 at *; rw [← hg_] at BL ⊢; replace BK := Aside0.mk (blk_below BK.out hb7_); replace B8 := Aside0.mk (blk_below B8.out hb7_); replace BA := Aside0.mk (blk_below BA.out hb7_); replace R3 := Aside0.mk (Kd.R_below R3.out hb7_); replace R6 := Aside0.mk (Kd.R_below R6.out hb7_); replace R5 := Aside0.mk (Kd.S_below R5.out hb7_); replace HI := Aside0.mk (IsS90.below HI.out hb7_); replace HB := Aside0.mk (below_step HB.out hb7_); replace RO := Aside0.mk (Kd.C_below RO.out hb7_); clear hw_ hg_; refine hK.out _ _ (cbs_y hb7_ hHeld) (fun hHeld => ?_); clear hK K; refine norm_y (some 42) ?_; exact norm_ (by simp only [putAll, Act.put, put_x]) (hCont (ga, gl, Ao, co) _ ⟨hHeld, BA, BL, HB, ⟨⟨(Kd.R_reads' R3.out).2.2, (Kd.R_reads' R3.out).2.1, (Kd.S_reads' R5.out).2.2, (Kd.S_reads' R5.out).2.1, (Kd.R_reads' R6.out).2.2, (Kd.R_reads' R6.out).2.1⟩⟩, RO, ⟨lo_⟩⟩)
   ·
    skip
    refine value_ (w1 := ?_) (v := ?_) (by rfl) rfl ?_ ?_; rotate_left 2
    ·
     go_simp
     constructor
     ·
      rfl
     ·
      rfl
    obtain ⟨gl, hg_⟩ : ∃ b, b = wq6.heap.size := ⟨_, rfl⟩; have BL := Aside0.mk (blk_new wq6 (.cells #[.slice Ag sg.length cg, .slice Ao st.length co] 27 (0, 0))); have hb7_ : Below wq6.heap.size wq6 (wq6.alloc (.cells #[.slice Ag sg.length cg, .slice Ao st.length co] 27 (0, 0))) := below_alloc (Below.refl _ _) _; generalize hw_ : wq6.alloc (.cells #[.slice Ag sg.length cg, .slice Ao st.length co] 27 (0, 0)) = wq6_7 at *; rw [← hg_] at BL ⊢; replace BK := Aside0.mk (blk_below BK.out hb7_); replace B8 := Aside0.mk (blk_below B8.out hb7_); replace R3 := Aside0.mk (Kd.R_below R3.out hb7_); replace R6 := Aside0.mk (Kd.R_below R6.out hb7_); replace R5 := Aside0.mk (Kd.S_below R5.out hb7_); replace HI := Aside0.mk (IsS90.below HI.out hb7_); replace HB := Aside0.mk (below_step HB.out hb7_); replace RO := Aside0.mk (Kd.C_below RO.out hb7_); clear hw_ hg_; refine hK.out _ _ (cbs_y hb7_ hHeld) (fun hHeld => ?_); clear hK K; refine norm_y (some 42) ?_; (refine one_y 2 (some 37) (bz 10 255) fun K hK => ?_); refine value_ (w1 := ?_) (v := ?_) (by rfl) rfl ?_ ?_; rotate_left 2
    ·
     go_simp
     constructor
     ·
      rfl
     ·
      rfl
    obtain ⟨ga, hg_⟩ : ∃ b, b = wq6_7.heap.size := ⟨_, rfl⟩; have BA := Aside0.mk (blk_new wq6_7 (.cells #[.int .i64 x.light, .int .i64 x.under, .int .i64 x.trim, .slice x.A3 x.holds.length x.c3, .int .i64 x.leaves, .slice x.A5 x.sills.length x.c5, .slice x.A6 x.lots.length x.c6, .int .i64 mL, .int .i64 mU, .int .i64 mR, .slice M3 mh.length d3, .int .i64 mV, .slice M5 ms.length d5, .slice M6 ml.length d6] 26 (0, 0))); have hb2_ : Below wq6_7.heap.size wq6_7 (wq6_7.alloc (.cells #[.int .i64 x.light, .int .i64 x.under, .int .i64 x.trim, .slice x.A3 x.holds.length x.c3, .int .i64 x.leaves, .slice x.A5 x.sills.length x.c5, .slice x.A6 x.lots.length x.c6, .int .i64 mL, .int .i64 mU, .int .i64 mR, .slice M3 mh.length d3, .int .i64 mV, .slice M5 ms.length d5, .slice M6 ml.length d6] 26 (0, 0))) := below_alloc (Below.refl _ _) _; generalize hw_ : wq6_7.alloc (.cells #[.int .i64 x.light, .int .i64 x.under, .int .i64 x.trim, .slice x.A3 x.holds.length x.c3, .int .i64 x.leaves, .slice x.A5 x.sills.length x.c5, .slice x.A6 x.lots.length x.c6, .int .i64 mL, .int .i64 mU, .int .i64 mR, .slice M3 mh.length d3, .int .i64 mV, .slice M5 ms.length d5, .slice M6 ml.length d6] 26 (0, 0)) = wq6_7_2 at *; rw [← hg_] at BA ⊢; replace BK := Aside0.mk (blk_below BK.out hb2_); replace B8 := Aside0.mk (blk_below B8.out hb2_); replace BL := Aside0.mk (blk_below BL.out hb2_); replace R3 := Aside0.mk (Kd.R_below R3.out hb2_); replace R6 := Aside0.mk (Kd.R_below R6.out hb2_); replace R5 := Aside0.mk (Kd.S_below R5.out hb2_); replace HI := Aside0.mk (IsS90.below HI.out hb2_); replace HB := Aside0.mk (below_step HB.out hb2_); replace RO := Aside0.mk (Kd.C_below RO.out hb2_); clear hw_ hg_; refine hK.out _ _ (cbs_y hb2_ hHeld) (fun hHeld => ?_); clear hK K; refine norm_y (some 37) ?_; refine pure_y 8 (some 9) (bz 10 511) ?_; exact norm_ (by simp only [putAll, Act.put, put_x]) (hCont (ga, gl, Ao, co) _ ⟨hHeld, BA, BL, HB, ⟨⟨(Kd.R_reads' R3.out).2.2, (Kd.R_reads' R3.out).2.1, (Kd.S_reads' R5.out).2.2, (Kd.S_reads' R5.out).2.1, (Kd.R_reads' R6.out).2.2, (Kd.R_reads' R6.out).2.1⟩⟩, RO, ⟨lo_⟩⟩)
 clear BK B8 R3 R5 R6 HI HB
 rintro ⟨ga, gl, Ao, co⟩ wj ⟨hHeld, BA, BL, HBj, MJ, RO, LO⟩
 refine norm_ (a' := ?_) ?_ ?_
 rotate_left
 ·
  simp only [putAll, Act.put, put_x]; rfl
 refine pure_y 9 (some 10) (bz 10 1023) ?_
 refine done_ (by kernel_rfl) ?_
 clear hHeld
 go_wp2
 have HEE : Aside0 (∀ k : Nat, k < 2 → ∃ (y : VoyV) (B : Option Addr) (c : Nat) (l : List Int), y.Ok wj ∧ Kd.C (Kd.int .i64) wj B l.length l ∧ l.length ≤ c ∧ SailQ y.light y.under y.trim y.holds y.leaves y.sills y.lots l ∧ (∀ j v, (#[.int .i64 y.light, .int .i64 y.under, .int .i64 y.trim, .slice y.A3 y.holds.length y.c3, .int .i64 y.leaves, .slice y.A5 y.sills.length y.c5, .slice y.A6 y.lots.length y.c6] : Array Value)[j]? = some v → wj.cell? ⟨ga, k * 7 + j, none⟩ = some v) ∧ wj.cell? ⟨gl, k, none⟩ = some (.slice B l.length c)) := by
  have hr1 := Kd.C_below HRG.out HBj.out; have hx1 := HX.out.below HBj.out; refine ⟨fun k hk => ?_⟩; rcases k with _ | _ | k
  ·
   refine ⟨x, Ag, cg, sg, hx1, hr1, hcg, HQ1.out, cells_at3 BA.out _ _ (fun j v hj => ?_), (blk_cell BL.out 0).trans rfl⟩; rcases j with _ | _ | _ | _ | _ | _ | _ | j <;> first | exact hj | (simp at hj)
  ·
   refine ⟨(⟨mL, mU, mR, M3, d3, mh, mV, M5, d5, ms, M6, d6, ml⟩ : VoyV), Ao, co, st, MJ.out, RO.out, LO.out, HQ2.out, cells_at3 BA.out _ _ (fun j v hj => ?_), (blk_cell BL.out 1).trans rfl⟩; rcases j with _ | _ | _ | _ | _ | _ | _ | j <;> first | exact hj | (simp at hj)
  ·
   omega
 clear BA BL MJ RO LO HQ1 HQ2
 go_loopg [11] 2 (fun gk v11 wr => ∃ k : Nat, k ≤ 2 ∧ 2 - k ≤ gk ∧ v11 = .int .i64 k ∧ Aside0 (Below wj.heap.size wj wr))
 case atStart => exact ⟨0, by omega, by omega, rfl, ⟨Below.refl _ _⟩⟩
 case round =>
  obtain ⟨k, hk, hgk, rfl, HBr⟩ := hrel; by_cases hlt : k < 2
  ·
   obtain ⟨y, B, c, l, hy, hr, hc, hq, hcells, hcl⟩ := HEE.out k hlt; (have hlz : (k : Int) < 2 := by omega); obtain ⟨qc, qi, ⟨v, o, e_, kr, ko, qs, qr, qo⟩, qv, kn, qn⟩ := hq; have QC := Aside0.mk qc; have QI := Aside0.mk qi; have QS := Aside0.mk qs; have QR := Aside0.mk qr; have QO := Aside0.mk qo; have QV := Aside0.mk qv; have QN := Aside0.mk qn; have YO := Aside0.mk hy; have RB := Aside0.mk hr; have CE := Aside0.mk hcells; have CL := Aside0.mk hcl; clear hy hr hcells hcl qc qi qs qr qo qv qn
   go_upto_region 9 with (fail)
   have hd_ := below_drew1 (Below.refl wr.heap.size wr); replace HBr := Aside0.mk (below_step HBr.out hd_); clear hd_; have hs0_ : wr.drew.cell? ⟨ga, k * 7, none⟩ = some (.int .i64 y.light) := (HBr.out.cell (World.block_lt_of_cell? _ _ (CE.out 0 _ rfl))).trans (CE.out 0 _ rfl); have hs1_ : wr.drew.cell? ⟨ga, k * 7 + 1, none⟩ = some (.int .i64 y.under) := (HBr.out.cell (World.block_lt_of_cell? _ _ (CE.out 1 _ rfl))).trans (CE.out 1 _ rfl); have hs2_ : wr.drew.cell? ⟨ga, k * 7 + 2, none⟩ = some (.int .i64 y.trim) := (HBr.out.cell (World.block_lt_of_cell? _ _ (CE.out 2 _ rfl))).trans (CE.out 2 _ rfl); have hs3_ : wr.drew.cell? ⟨ga, k * 7 + 3, none⟩ = some (.slice y.A3 y.holds.length y.c3) := (HBr.out.cell (World.block_lt_of_cell? _ _ (CE.out 3 _ rfl))).trans (CE.out 3 _ rfl); have hs4_ : wr.drew.cell? ⟨ga, k * 7 + 4, none⟩ = some (.int .i64 y.leaves) := (HBr.out.cell (World.block_lt_of_cell? _ _ (CE.out 4 _ rfl))).trans (CE.out 4 _ rfl); have hs5_ : wr.drew.cell? ⟨ga, k * 7 + 5, none⟩ = some (.slice y.A5 y.sills.length y.c5) := (HBr.out.cell (World.block_lt_of_cell? _ _ (CE.out 5 _ rfl))).trans (CE.out 5 _ rfl); have hs6_ : wr.drew.cell? ⟨ga, k * 7 + 6, none⟩ = some (.slice y.A6 y.lots.length y.c6) := (HBr.out.cell (World.block_lt_of_cell? _ _ (CE.out 6 _ rfl))).trans (CE.out 6 _ rfl); have hs7_ : wr.drew.cell? ⟨gl, k, none⟩ = some (.slice B l.length c) := cb_y HBr.out CL.out; refine start_ (n := 13) (S := fun w' => w'.cell? ⟨ga, k * 7, none⟩ = some (.int .i64 y.light) ∧ w'.cell? ⟨ga, k * 7 + 1, none⟩ = some (.int .i64 y.under) ∧ w'.cell? ⟨ga, k * 7 + 2, none⟩ = some (.int .i64 y.trim) ∧ w'.cell? ⟨ga, k * 7 + 3, none⟩ = some (.slice y.A3 y.holds.length y.c3) ∧ w'.cell? ⟨ga, k * 7 + 4, none⟩ = some (.int .i64 y.leaves) ∧ w'.cell? ⟨ga, k * 7 + 5, none⟩ = some (.slice y.A5 y.sills.length y.c5) ∧ w'.cell? ⟨ga, k * 7 + 6, none⟩ = some (.slice y.A6 y.lots.length y.c6) ∧ w'.cell? ⟨gl, k, none⟩ = some (.slice B l.length c)) (ds := [11]) #[false, false, false, false, false, false, false, false, false, false, false, false, false] (by kernel_rfl) rfl rfl ⟨hs0_, hs1_, hs2_, hs3_, hs4_, hs5_, hs6_, hs7_⟩ (fun hHeld => ?_); generalize wr.drew = wd at HBr hHeld ⊢; refine pure_y 0 (some 49) (bz 13 1) ?_; refine pure_y 1 (some 50) (bz 13 3) ?_; refine pure_y 2 (some 51) (bz 13 7) ?_; refine pure_y 5 (some 54) (bz 13 39) ?_; refine pure_y 6 (some 55) (bz 13 103) ?_; refine pure_y 7 (some 56) (bz 13 231) ?_; refine take_y 3 (some 52) (bz 13 239) hHeld ?_; refine take_y 8 (some 57) (bz 13 495) hHeld ?_; refine join_ (σ := Nat × Option Addr × Nat × Option Addr × Nat × Option Addr × Nat × Option Addr × Nat) 2 (bz 13 2047) (fun s_ => [(12, .pointer (some ⟨s_.1, 0, none⟩)), (53, .agg #[.int .i64 y.light, .int .i64 y.under, .int .i64 y.trim, .slice s_.2.1 y.holds.length s_.2.2.1, .int .i64 y.leaves, .slice s_.2.2.2.1 y.sills.length s_.2.2.2.2.1, .slice s_.2.2.2.2.2.1 y.lots.length s_.2.2.2.2.2.2.1]), (58, .slice s_.2.2.2.2.2.2.2.1 l.length s_.2.2.2.2.2.2.2.2)]) (fun s_ w' => (w'.cell? ⟨ga, k * 7, none⟩ = some (.int .i64 y.light) ∧ w'.cell? ⟨ga, k * 7 + 1, none⟩ = some (.int .i64 y.under) ∧ w'.cell? ⟨ga, k * 7 + 2, none⟩ = some (.int .i64 y.trim) ∧ w'.cell? ⟨ga, k * 7 + 3, none⟩ = some (.slice y.A3 y.holds.length y.c3) ∧ w'.cell? ⟨ga, k * 7 + 4, none⟩ = some (.int .i64 y.leaves) ∧ w'.cell? ⟨ga, k * 7 + 5, none⟩ = some (.slice y.A5 y.sills.length y.c5) ∧ w'.cell? ⟨ga, k * 7 + 6, none⟩ = some (.slice y.A6 y.lots.length y.c6) ∧ w'.cell? ⟨gl, k, none⟩ = some (.slice B l.length c)) ∧ Aside0 (w'.heap[s_.1]? = some (.cells #[.int .i64 0, .int .i64 0, .int .i64 0, .slice none 0 0, .int .i64 0, .slice none 0 0, .slice none 0 0] 26 (0, 0))) ∧ wj.heap.size ≤ s_.1 ∧ Aside0 (Below wj.heap.size wj w') ∧ Aside0 (Kd.R k85 85 w' 0 (fun _ => True) (.slice s_.2.1 y.holds.length s_.2.2.1) y.holds) ∧ Aside0 (Kd.S k59 59 w' 0 (fun _ => True) (.slice s_.2.2.2.1 y.sills.length s_.2.2.2.2.1) y.sills) ∧ Aside0 (Kd.R k79 79 w' 0 (fun _ => True) (.slice s_.2.2.2.2.2.1 y.lots.length s_.2.2.2.2.2.2.1) y.lots) ∧ Aside0 (Kd.R (Kd.int .i64) 3 w' 0 (fun _ => True) (.slice s_.2.2.2.2.2.2.2.1 l.length s_.2.2.2.2.2.2.2.2) l)) ?_ ?_; rotate_left
   ·
    intro hCont; refine two_ (i := 4) (j := 10) (Ni := some 53) (Nj := some 12) (bz 13 511) (bz 13 1519) rfl rfl rfl rfl (by kernel_rfl) (by decide) (by decide) (fun K hK => ?_) (fun K hK => ?_)
    ·
     skip
     refine goes_x Try.func20 #[.agg #[.int .i64 y.light, .int .i64 y.under, .int .i64 y.trim, .slice y.A3 y.holds.length y.c3, .int .i64 y.leaves, .slice y.A5 y.sills.length y.c5, .slice y.A6 y.lots.length y.c6]] ?_
     with_reducible refine (swarfkit_CopyVoyage.calls y.light y.under y.trim y.A3 y.c3 y.holds y.leaves y.A5 y.c5 y.sills y.A6 y.c6 y.lots y.light y.under y.trim y.holds y.leaves y.sills y.lots _ (YO.out.below HBr.out).h (YO.out.below HBr.out).hc (YO.out.below HBr.out).s (YO.out.below HBr.out).sc (YO.out.below HBr.out).l (YO.out.below HBr.out).lc QC.out).mono ?_
     rintro e wp4 ⟨v3, v5, v6, rfl, ho3, ho5, ho6, hb4_⟩; obtain ⟨X3, e3, rfl⟩ := Kd.R_slice ho3; obtain ⟨X5, e5, rfl⟩ := Kd.S_slice ho5; obtain ⟨X6, e6, rfl⟩ := Kd.R_slice ho6; replace HBr := Aside0.mk (below_step HBr.out hb4_); have C3 := Aside0.mk (Kd.R_lower ho3 (Nat.zero_le _)); have C5 := Aside0.mk (Kd.S_lower ho5 (Nat.zero_le _)); have C6 := Aside0.mk (Kd.R_lower ho6 (Nat.zero_le _)); refine ⟨_, rfl, ?_⟩; refine hK.out _ _ (cbs_y hb4_ hHeld) (fun hHeld => ?_); clear hK K; refine norm_y (some 53) ?_; refine two_ (i := 9) (j := 10) (Ni := some 58) (Nj := some 12) (bz 13 1023) (bz 13 1535) rfl rfl rfl rfl (by kernel_rfl) (by decide) (by decide) (fun K hK => ?_) (fun K hK => ?_)
     ·
      skip
      refine goes_x Try.func21 #[.slice B l.length c] ?_
      with_reducible refine (swarfkit_Ints.calls B c l l _ (Kd.C_below RB.out HBr.out) hc QI.out).mono ?_
      rintro e wp4_9 ⟨vi_, rfl, hoi_, hb9_⟩; obtain ⟨Ai, ci, rfl⟩ := Kd.R_slice hoi_; replace HBr := Aside0.mk (below_step HBr.out hb9_); replace C3 := Aside0.mk (Kd.R_below C3.out hb9_); replace C6 := Aside0.mk (Kd.R_below C6.out hb9_); replace C5 := Aside0.mk (Kd.S_below C5.out hb9_); have RI := Aside0.mk (Kd.R_lower hoi_ (Nat.zero_le _)); refine ⟨_, rfl, ?_⟩; refine hK.out _ _ (cbs_y hb9_ hHeld) (fun hHeld => ?_); clear hK K; refine norm_y (some 58) ?_; (refine one_y 10 (some 12) (bz 13 2047) fun K hK => ?_); refine value_ (w1 := ?_) (v := ?_) (by rfl) rfl ?_ ?_; rotate_left 2
      ·
       go_simp
       constructor
       ·
        rfl
       ·
        rfl
      obtain ⟨go, hg_⟩ : ∃ b, b = wp4_9.heap.size := ⟨_, rfl⟩; (have hgo_ : wj.heap.size ≤ go := by rw [hg_]; exact HBr.out.size); have BO := Aside0.mk (blk_new wp4_9 (.cells #[.int .i64 0, .int .i64 0, .int .i64 0, .slice none 0 0, .int .i64 0, .slice none 0 0, .slice none 0 0] 26 (0, 0))); have hb10_ : Below wp4_9.heap.size wp4_9 (wp4_9.alloc (.cells #[.int .i64 0, .int .i64 0, .int .i64 0, .slice none 0 0, .int .i64 0, .slice none 0 0, .slice none 0 0] 26 (0, 0))) := below_alloc (Below.refl _ _) _; generalize hw_ : wp4_9.alloc (.cells #[.int .i64 0, .int .i64 0, .int .i64 0, .slice none 0 0, .int .i64 0, .slice none 0 0, .slice none 0 0] 26 (0, 0)) = wp4_9_10 at *; rw [← hg_] at BO ⊢; replace HBr := Aside0.mk (below_step HBr.out hb10_); replace C3 := Aside0.mk (Kd.R_below C3.out hb10_); replace C6 := Aside0.mk (Kd.R_below C6.out hb10_); replace C5 := Aside0.mk (Kd.S_below C5.out hb10_); replace RI := Aside0.mk (Kd.R_below RI.out hb10_); clear hw_ hg_; refine hK.out _ _ (cbs_y hb10_ hHeld) (fun hHeld => ?_); clear hK K; refine norm_y (some 12) ?_; exact norm_ (by simp only [putAll, Act.put, put_x]) (hCont (go, X3, e3, X5, e5, X6, e6, Ai, ci) _ ⟨hHeld, BO, hgo_, HBr, C3, C5, C6, RI⟩)
     ·
      skip
      refine value_ (w1 := ?_) (v := ?_) (by rfl) rfl ?_ ?_; rotate_left 2
      ·
       go_simp
       constructor
       ·
        rfl
       ·
        rfl
      obtain ⟨go, hg_⟩ : ∃ b, b = wp4.heap.size := ⟨_, rfl⟩; (have hgo_ : wj.heap.size ≤ go := by rw [hg_]; exact HBr.out.size); have BO := Aside0.mk (blk_new wp4 (.cells #[.int .i64 0, .int .i64 0, .int .i64 0, .slice none 0 0, .int .i64 0, .slice none 0 0, .slice none 0 0] 26 (0, 0))); have hb10_ : Below wp4.heap.size wp4 (wp4.alloc (.cells #[.int .i64 0, .int .i64 0, .int .i64 0, .slice none 0 0, .int .i64 0, .slice none 0 0, .slice none 0 0] 26 (0, 0))) := below_alloc (Below.refl _ _) _; generalize hw_ : wp4.alloc (.cells #[.int .i64 0, .int .i64 0, .int .i64 0, .slice none 0 0, .int .i64 0, .slice none 0 0, .slice none 0 0] 26 (0, 0)) = wp4_10 at *; rw [← hg_] at BO ⊢; replace HBr := Aside0.mk (below_step HBr.out hb10_); replace C3 := Aside0.mk (Kd.R_below C3.out hb10_); replace C6 := Aside0.mk (Kd.R_below C6.out hb10_); replace C5 := Aside0.mk (Kd.S_below C5.out hb10_); clear hw_ hg_; refine hK.out _ _ (cbs_y hb10_ hHeld) (fun hHeld => ?_); clear hK K; refine norm_y (some 12) ?_; (refine one_y 9 (some 58) (bz 13 2047) fun K hK => ?_); refine goes_x Try.func21 #[.slice B l.length c] ?_
      with_reducible refine (swarfkit_Ints.calls B c l l _ (Kd.C_below RB.out HBr.out) hc QI.out).mono ?_
      rintro e wp4_10_9 ⟨vi_, rfl, hoi_, hb9_⟩; obtain ⟨Ai, ci, rfl⟩ := Kd.R_slice hoi_; replace HBr := Aside0.mk (below_step HBr.out hb9_); replace BO := Aside0.mk (blk_below BO.out hb9_); replace C3 := Aside0.mk (Kd.R_below C3.out hb9_); replace C6 := Aside0.mk (Kd.R_below C6.out hb9_); replace C5 := Aside0.mk (Kd.S_below C5.out hb9_); have RI := Aside0.mk (Kd.R_lower hoi_ (Nat.zero_le _)); refine ⟨_, rfl, ?_⟩; refine hK.out _ _ (cbs_y hb9_ hHeld) (fun hHeld => ?_); clear hK K; refine norm_y (some 58) ?_; exact norm_ (by simp only [putAll, Act.put, put_x]) (hCont (go, X3, e3, X5, e5, X6, e6, Ai, ci) _ ⟨hHeld, BO, hgo_, HBr, C3, C5, C6, RI⟩)
    ·
     skip
     refine value_ (w1 := ?_) (v := ?_) (by rfl) rfl ?_ ?_; rotate_left 2
     ·
      go_simp
      constructor
      ·
       rfl
      ·
       rfl
     obtain ⟨go, hg_⟩ : ∃ b, b = wd.heap.size := ⟨_, rfl⟩; (have hgo_ : wj.heap.size ≤ go := by rw [hg_]; exact HBr.out.size); have BO := Aside0.mk (blk_new wd (.cells #[.int .i64 0, .int .i64 0, .int .i64 0, .slice none 0 0, .int .i64 0, .slice none 0 0, .slice none 0 0] 26 (0, 0))); have hb10_ : Below wd.heap.size wd (wd.alloc (.cells #[.int .i64 0, .int .i64 0, .int .i64 0, .slice none 0 0, .int .i64 0, .slice none 0 0, .slice none 0 0] 26 (0, 0))) := below_alloc (Below.refl _ _) _; generalize hw_ : wd.alloc (.cells #[.int .i64 0, .int .i64 0, .int .i64 0, .slice none 0 0, .int .i64 0, .slice none 0 0, .slice none 0 0] 26 (0, 0)) = wp10 at *; rw [← hg_] at BO ⊢; replace HBr := Aside0.mk (below_step HBr.out hb10_); clear hw_ hg_; refine hK.out _ _ (cbs_y hb10_ hHeld) (fun hHeld => ?_); clear hK K; refine norm_y (some 12) ?_; (refine one_y 4 (some 53) (bz 13 1535) fun K hK => ?_); refine goes_x Try.func20 #[.agg #[.int .i64 y.light, .int .i64 y.under, .int .i64 y.trim, .slice y.A3 y.holds.length y.c3, .int .i64 y.leaves, .slice y.A5 y.sills.length y.c5, .slice y.A6 y.lots.length y.c6]] ?_
     with_reducible refine (swarfkit_CopyVoyage.calls y.light y.under y.trim y.A3 y.c3 y.holds y.leaves y.A5 y.c5 y.sills y.A6 y.c6 y.lots y.light y.under y.trim y.holds y.leaves y.sills y.lots _ (YO.out.below HBr.out).h (YO.out.below HBr.out).hc (YO.out.below HBr.out).s (YO.out.below HBr.out).sc (YO.out.below HBr.out).l (YO.out.below HBr.out).lc QC.out).mono ?_
     rintro e wp10_4 ⟨v3, v5, v6, rfl, ho3, ho5, ho6, hb4_⟩; obtain ⟨X3, e3, rfl⟩ := Kd.R_slice ho3; obtain ⟨X5, e5, rfl⟩ := Kd.S_slice ho5; obtain ⟨X6, e6, rfl⟩ := Kd.R_slice ho6; replace HBr := Aside0.mk (below_step HBr.out hb4_); replace BO := Aside0.mk (blk_below BO.out hb4_); have C3 := Aside0.mk (Kd.R_lower ho3 (Nat.zero_le _)); have C5 := Aside0.mk (Kd.S_lower ho5 (Nat.zero_le _)); have C6 := Aside0.mk (Kd.R_lower ho6 (Nat.zero_le _)); refine ⟨_, rfl, ?_⟩; refine hK.out _ _ (cbs_y hb4_ hHeld) (fun hHeld => ?_); clear hK K; refine norm_y (some 53) ?_; (refine one_y 9 (some 58) (bz 13 2047) fun K hK => ?_); refine goes_x Try.func21 #[.slice B l.length c] ?_
     with_reducible refine (swarfkit_Ints.calls B c l l _ (Kd.C_below RB.out HBr.out) hc QI.out).mono ?_
     rintro e wp10_4_9 ⟨vi_, rfl, hoi_, hb9_⟩; obtain ⟨Ai, ci, rfl⟩ := Kd.R_slice hoi_; replace HBr := Aside0.mk (below_step HBr.out hb9_); replace BO := Aside0.mk (blk_below BO.out hb9_); replace C3 := Aside0.mk (Kd.R_below C3.out hb9_); replace C6 := Aside0.mk (Kd.R_below C6.out hb9_); replace C5 := Aside0.mk (Kd.S_below C5.out hb9_); have RI := Aside0.mk (Kd.R_lower hoi_ (Nat.zero_le _)); refine ⟨_, rfl, ?_⟩; refine hK.out _ _ (cbs_y hb9_ hHeld) (fun hHeld => ?_); clear hK K; refine norm_y (some 58) ?_; exact norm_ (by simp only [putAll, Act.put, put_x]) (hCont (go, X3, e3, X5, e5, X6, e6, Ai, ci) _ ⟨hHeld, BO, hgo_, HBr, C3, C5, C6, RI⟩)
   clear HBr; rintro ⟨go, X3, e3, X5, e5, X6, e6, Ai, ci⟩ wk ⟨hHeld, BO, hgo_, HBr, C3, C5, C6, RI⟩; refine norm_ (a' := ?_) ?_ ?_; rotate_left
   ·
    simp only [putAll, Act.put, put_x]; rfl
   refine last_ (i := 11) (N := none) (bz 13 4095) rfl rfl (by kernel_rfl) (by decide) (fun K hK => ?_); have hz0_ := (blk_cell BO.out 0).trans rfl; have hf0_ := blk_frozen BO.out 0; have hz1_ := (blk_cell BO.out 1).trans rfl; have hf1_ := blk_frozen BO.out 1; have hz2_ := (blk_cell BO.out 2).trans rfl; have hf2_ := blk_frozen BO.out 2; have hz3_ := (blk_cell BO.out 3).trans rfl; have hf3_ := blk_frozen BO.out 3; have hz4_ := (blk_cell BO.out 4).trans rfl; have hf4_ := blk_frozen BO.out 4; have hz5_ := (blk_cell BO.out 5).trans rfl; have hf5_ := blk_frozen BO.out 5; have hz6_ := (blk_cell BO.out 6).trans rfl; have hf6_ := blk_frozen BO.out 6; refine skip_ (w1 := ?_) (by rfl) rfl ?_ ?_; rotate_left; (go_simp; rfl); refine hK.out _ _ ?_; clear hK K; refine pure_y 12 (some 13) (bz 13 8191) ?_; refine done_ (by kernel_rfl) ?_; clear hHeld hz0_ hf0_ hz1_ hf1_ hz2_ hf2_ hz3_ hf3_ hz4_ hf4_ hz5_ hf5_ hz6_ hf6_ hs0_ hs1_ hs2_ hs3_ hs4_ hs5_ hs6_ hs7_; replace C3 := Aside0.mk (Kd.R_set C3.out BO.out (by decide) 0 (.int .i64 y.light)); replace C6 := Aside0.mk (Kd.R_set C6.out BO.out (by decide) 0 (.int .i64 y.light)); replace RI := Aside0.mk (Kd.R_set RI.out BO.out (by decide) 0 (.int .i64 y.light)); replace C5 := Aside0.mk (Kd.S_set C5.out BO.out (by decide) 0 (.int .i64 y.light)); replace HBr := Aside0.mk (below_set (g := go) (j := 0) (v := .int .i64 y.light) HBr.out hgo_); have BOn := Aside0.mk (blk_set BO.out 0 (.int .i64 y.light)); clear BO; have BO := BOn; clear BOn; replace C3 := Aside0.mk (Kd.R_set C3.out BO.out (by decide) 1 (.int .i64 y.under)); replace C6 := Aside0.mk (Kd.R_set C6.out BO.out (by decide) 1 (.int .i64 y.under)); replace RI := Aside0.mk (Kd.R_set RI.out BO.out (by decide) 1 (.int .i64 y.under)); replace C5 := Aside0.mk (Kd.S_set C5.out BO.out (by decide) 1 (.int .i64 y.under)); replace HBr := Aside0.mk (below_set (g := go) (j := 1) (v := .int .i64 y.under) HBr.out hgo_); have BOn := Aside0.mk (blk_set BO.out 1 (.int .i64 y.under)); clear BO; have BO := BOn; clear BOn; replace C3 := Aside0.mk (Kd.R_set C3.out BO.out (by decide) 2 (.int .i64 y.trim)); replace C6 := Aside0.mk (Kd.R_set C6.out BO.out (by decide) 2 (.int .i64 y.trim)); replace RI := Aside0.mk (Kd.R_set RI.out BO.out (by decide) 2 (.int .i64 y.trim)); replace C5 := Aside0.mk (Kd.S_set C5.out BO.out (by decide) 2 (.int .i64 y.trim)); replace HBr := Aside0.mk (below_set (g := go) (j := 2) (v := .int .i64 y.trim) HBr.out hgo_); have BOn := Aside0.mk (blk_set BO.out 2 (.int .i64 y.trim)); clear BO; have BO := BOn; clear BOn; replace C3 := Aside0.mk (Kd.R_set C3.out BO.out (by decide) 3 (.slice X3 y.holds.length e3)); replace C6 := Aside0.mk (Kd.R_set C6.out BO.out (by decide) 3 (.slice X3 y.holds.length e3)); replace RI := Aside0.mk (Kd.R_set RI.out BO.out (by decide) 3 (.slice X3 y.holds.length e3)); replace C5 := Aside0.mk (Kd.S_set C5.out BO.out (by decide) 3 (.slice X3 y.holds.length e3)); replace HBr := Aside0.mk (below_set (g := go) (j := 3) (v := .slice X3 y.holds.length e3) HBr.out hgo_); have BOn := Aside0.mk (blk_set BO.out 3 (.slice X3 y.holds.length e3)); clear BO; have BO := BOn; clear BOn; replace C3 := Aside0.mk (Kd.R_set C3.out BO.out (by decide) 4 (.int .i64 y.leaves)); replace C6 := Aside0.mk (Kd.R_set C6.out BO.out (by decide) 4 (.int .i64 y.leaves)); replace RI := Aside0.mk (Kd.R_set RI.out BO.out (by decide) 4 (.int .i64 y.leaves)); replace C5 := Aside0.mk (Kd.S_set C5.out BO.out (by decide) 4 (.int .i64 y.leaves)); replace HBr := Aside0.mk (below_set (g := go) (j := 4) (v := .int .i64 y.leaves) HBr.out hgo_); have BOn := Aside0.mk (blk_set BO.out 4 (.int .i64 y.leaves)); clear BO; have BO := BOn; clear BOn; replace C3 := Aside0.mk (Kd.R_set C3.out BO.out (by decide) 5 (.slice X5 y.sills.length e5)); replace C6 := Aside0.mk (Kd.R_set C6.out BO.out (by decide) 5 (.slice X5 y.sills.length e5)); replace RI := Aside0.mk (Kd.R_set RI.out BO.out (by decide) 5 (.slice X5 y.sills.length e5)); replace C5 := Aside0.mk (Kd.S_set C5.out BO.out (by decide) 5 (.slice X5 y.sills.length e5)); replace HBr := Aside0.mk (below_set (g := go) (j := 5) (v := .slice X5 y.sills.length e5) HBr.out hgo_); have BOn := Aside0.mk (blk_set BO.out 5 (.slice X5 y.sills.length e5)); clear BO; have BO := BOn; clear BOn; replace C3 := Aside0.mk (Kd.R_set C3.out BO.out (by decide) 6 (.slice X6 y.lots.length e6)); replace C6 := Aside0.mk (Kd.R_set C6.out BO.out (by decide) 6 (.slice X6 y.lots.length e6)); replace RI := Aside0.mk (Kd.R_set RI.out BO.out (by decide) 6 (.slice X6 y.lots.length e6)); replace C5 := Aside0.mk (Kd.S_set C5.out BO.out (by decide) 6 (.slice X6 y.lots.length e6)); replace HBr := Aside0.mk (below_set (g := go) (j := 6) (v := .slice X6 y.lots.length e6) HBr.out hgo_); have BOn := Aside0.mk (blk_put (cs' := #[.int .i64 y.light, .int .i64 y.under, .int .i64 y.trim, .slice X3 y.holds.length e3, .int .i64 y.leaves, .slice X5 y.sills.length e5, .slice X6 y.lots.length e6]) BO.out 6 (.slice X6 y.lots.length e6) rfl); clear BO; have BO := BOn; clear BOn; generalize hW_ : ((((((wk.setCell ⟨go, 0, none⟩ (.int .i64 y.light)).setCell ⟨go, 1, none⟩ (.int .i64 y.under)).setCell ⟨go, 2, none⟩ (.int .i64 y.trim)).setCell ⟨go, 3, none⟩ (.slice X3 y.holds.length e3)).setCell ⟨go, 4, none⟩ (.int .i64 y.leaves)).setCell ⟨go, 5, none⟩ (.slice X5 y.sills.length e5)).setCell ⟨go, 6, none⟩ (.slice X6 y.lots.length e6) = w9 at *; clear hW_; have OX := Aside0.mk (show (⟨y.light, y.under, y.trim, X3, e3, y.holds, y.leaves, X5, e5, y.sills, X6, e6, y.lots⟩ : VoyV).Ok w9 from ⟨(Kd.R_reads' C3.out).2.2, (Kd.R_reads' C3.out).2.1, (Kd.S_reads' C5.out).2.2, (Kd.S_reads' C5.out).2.1, (Kd.R_reads' C6.out).2.2, (Kd.R_reads' C6.out).2.1⟩); have li_ := (Kd.R_reads' RI.out).2.1; replace RI := Aside0.mk (Kd.R_reads' RI.out).2.2; clear C3 C5 C6; have hz0_ := (blk_cell BO.out 0).trans rfl; have hz1_ := (blk_cell BO.out 1).trans rfl; have hz2_ := (blk_cell BO.out 2).trans rfl; have hz3_ := (blk_cell BO.out 3).trans rfl; have hz4_ := (blk_cell BO.out 4).trans rfl; have hz5_ := (blk_cell BO.out 5).trans rfl; have hz6_ := (blk_cell BO.out 6).trans rfl
   go_wp2_with (fail)
   refine (ship_Sail.calls y.light y.under y.trim X3 e3 y.holds y.leaves X5 e5 y.sills X6 e6 y.lots Ai ci l v o e_ w9 OX.out.h OX.out.hc OX.out.s OX.out.sc OX.out.l OX.out.lc RI.out li_ QS.out).mono ?_; rintro e w10 ⟨vo_, rfl, ho_, hb_⟩; replace HBr := Aside0.mk (below_step HBr.out hb_); replace BO := Aside0.mk (blk_below BO.out hb_); replace OX := Aside0.mk (OX.out.below hb_); replace RI := Aside0.mk (Kd.C_below RI.out hb_); obtain ⟨Ao1, co1, rfl⟩ := Kd.R_slice ho_; have OV1 := Aside0.mk (Kd.R_reads' ho_).2.2; have ho1_ := (Kd.R_reads' ho_).2.1; clear ho_ hb_ hz0_ hz1_ hz2_ hz3_ hz4_ hz5_ hz6_
   go_upto_region 11 with (fail)
   have hd_ := below_drew1 (Below.refl w10.heap.size w10); replace HBr := Aside0.mk (below_step HBr.out hd_); replace BO := Aside0.mk (blk_below BO.out hd_); replace OX := Aside0.mk (OX.out.below hd_); replace RI := Aside0.mk (Kd.C_below RI.out hd_); replace OV1 := Aside0.mk (Kd.C_below OV1.out hd_); clear hd_; have hs0_ : w10.drew.cell? ⟨ga, k * 7, none⟩ = some (.int .i64 y.light) := (HBr.out.cell (World.block_lt_of_cell? _ _ (CE.out 0 _ rfl))).trans (CE.out 0 _ rfl); have hs1_ : w10.drew.cell? ⟨ga, k * 7 + 1, none⟩ = some (.int .i64 y.under) := (HBr.out.cell (World.block_lt_of_cell? _ _ (CE.out 1 _ rfl))).trans (CE.out 1 _ rfl); have hs2_ : w10.drew.cell? ⟨ga, k * 7 + 2, none⟩ = some (.int .i64 y.trim) := (HBr.out.cell (World.block_lt_of_cell? _ _ (CE.out 2 _ rfl))).trans (CE.out 2 _ rfl); have hs3_ : w10.drew.cell? ⟨ga, k * 7 + 3, none⟩ = some (.slice y.A3 y.holds.length y.c3) := (HBr.out.cell (World.block_lt_of_cell? _ _ (CE.out 3 _ rfl))).trans (CE.out 3 _ rfl); have hs4_ : w10.drew.cell? ⟨ga, k * 7 + 4, none⟩ = some (.int .i64 y.leaves) := (HBr.out.cell (World.block_lt_of_cell? _ _ (CE.out 4 _ rfl))).trans (CE.out 4 _ rfl); have hs5_ : w10.drew.cell? ⟨ga, k * 7 + 5, none⟩ = some (.slice y.A5 y.sills.length y.c5) := (HBr.out.cell (World.block_lt_of_cell? _ _ (CE.out 5 _ rfl))).trans (CE.out 5 _ rfl); have hs6_ : w10.drew.cell? ⟨ga, k * 7 + 6, none⟩ = some (.slice y.A6 y.lots.length y.c6) := (HBr.out.cell (World.block_lt_of_cell? _ _ (CE.out 6 _ rfl))).trans (CE.out 6 _ rfl); have hs7_ : w10.drew.cell? ⟨gl, k, none⟩ = some (.slice B l.length c) := cb_y HBr.out CL.out; refine start_ (n := 16) (S := fun w' => w'.cell? ⟨ga, k * 7, none⟩ = some (.int .i64 y.light) ∧ w'.cell? ⟨ga, k * 7 + 1, none⟩ = some (.int .i64 y.under) ∧ w'.cell? ⟨ga, k * 7 + 2, none⟩ = some (.int .i64 y.trim) ∧ w'.cell? ⟨ga, k * 7 + 3, none⟩ = some (.slice y.A3 y.holds.length y.c3) ∧ w'.cell? ⟨ga, k * 7 + 4, none⟩ = some (.int .i64 y.leaves) ∧ w'.cell? ⟨ga, k * 7 + 5, none⟩ = some (.slice y.A5 y.sills.length y.c5) ∧ w'.cell? ⟨ga, k * 7 + 6, none⟩ = some (.slice y.A6 y.lots.length y.c6) ∧ w'.cell? ⟨gl, k, none⟩ = some (.slice B l.length c)) (ds := []) #[false, false, false, false, false, false, false, false, false, false, false, false, false, false, false, false] (by kernel_rfl) rfl rfl ⟨hs0_, hs1_, hs2_, hs3_, hs4_, hs5_, hs6_, hs7_⟩ (fun hHeld => ?_); generalize w10.drew = wd11 at HBr BO OX RI OV1 hHeld ⊢; refine pure_y 0 (some 67) (bz 16 1) ?_; refine pure_y 1 (some 68) (bz 16 3) ?_; refine pure_y 2 (some 69) (bz 16 7) ?_; refine pure_y 4 (some 71) (bz 16 23) ?_; refine pure_y 5 (some 72) (bz 16 55) ?_; refine pure_y 6 (some 73) (bz 16 119) ?_; refine take_y 3 (some 70) (bz 16 127) hHeld ?_; refine take_y 7 (some 74) (bz 16 255) hHeld ?_; (refine one_y 8 (some 75) (bz 16 511) fun K hK => ?_); refine goes_x Try.func23 #[.agg #[.int .i64 y.light, .int .i64 y.under, .int .i64 y.trim, .slice y.A3 y.holds.length y.c3, .int .i64 y.leaves, .slice y.A5 y.sills.length y.c5, .slice y.A6 y.lots.length y.c6], .slice B l.length c] ?_
   with_reducible refine (swarfref07_Sail.calls kr y.light y.under y.trim y.A3 y.c3 y.holds y.leaves y.A5 y.c5 y.sills y.A6 y.c6 y.lots B c l v o e_ _ (YO.out.below HBr.out).h (YO.out.below HBr.out).hc (YO.out.below HBr.out).s (YO.out.below HBr.out).sc (YO.out.below HBr.out).l (YO.out.below HBr.out).lc (Kd.C_below RB.out HBr.out) hc QR.out).mono ?_
   rintro e w12 ⟨vo_, rfl, ho_, hb_⟩; replace HBr := Aside0.mk (below_step HBr.out hb_); replace BO := Aside0.mk (blk_below BO.out hb_); replace OX := Aside0.mk (OX.out.below hb_); replace RI := Aside0.mk (Kd.C_below RI.out hb_); replace OV1 := Aside0.mk (Kd.C_below OV1.out hb_); obtain ⟨Ao2, co2, rfl⟩ := Kd.R_slice ho_; have OV2 := Aside0.mk (Kd.R_reads' ho_).2.2; have ho2_ := (Kd.R_reads' ho_).2.1; clear ho_; refine ⟨_, rfl, ?_⟩; refine hK.out _ _ ⟨(HBr.out.cell (World.block_lt_of_cell? _ _ (CE.out 0 _ rfl))).trans (CE.out 0 _ rfl), (HBr.out.cell (World.block_lt_of_cell? _ _ (CE.out 1 _ rfl))).trans (CE.out 1 _ rfl), (HBr.out.cell (World.block_lt_of_cell? _ _ (CE.out 2 _ rfl))).trans (CE.out 2 _ rfl), (HBr.out.cell (World.block_lt_of_cell? _ _ (CE.out 3 _ rfl))).trans (CE.out 3 _ rfl), (HBr.out.cell (World.block_lt_of_cell? _ _ (CE.out 4 _ rfl))).trans (CE.out 4 _ rfl), (HBr.out.cell (World.block_lt_of_cell? _ _ (CE.out 5 _ rfl))).trans (CE.out 5 _ rfl), (HBr.out.cell (World.block_lt_of_cell? _ _ (CE.out 6 _ rfl))).trans (CE.out 6 _ rfl), cb_y HBr.out CL.out⟩ (fun hHeld => ?_); clear hK K; refine norm_y (some 75) ?_; refine pure_y 9 (some 66) (bz 16 1023) ?_; refine pure_y 10 (some 76) (bz 16 2047) ?_; refine pure_y 11 (some 77) (bz 16 4095) ?_; refine pure_y 12 (some 78) (bz 16 8191) ?_; refine pure_y 13 (some 17) (bz 16 16383) ?_; refine pure_y 14 (some 18) (bz 16 32767) ?_; refine pure_y 15 (some 19) (bz 16 65535) ?_; refine done_ (by kernel_rfl) ?_; clear hHeld hb_ hs0_ hs1_ hs2_ hs3_ hs4_ hs5_ hs6_ hs7_
   go_upto_region 12 with (fail)
   have hd_ := below_drew1 (Below.refl w12.heap.size w12); replace HBr := Aside0.mk (below_step HBr.out hd_); replace BO := Aside0.mk (blk_below BO.out hd_); replace OX := Aside0.mk (OX.out.below hd_); replace RI := Aside0.mk (Kd.C_below RI.out hd_); replace OV1 := Aside0.mk (Kd.C_below OV1.out hd_); replace OV2 := Aside0.mk (Kd.C_below OV2.out hd_); clear hd_; have hs0_ : w12.drew.cell? ⟨ga, k * 7, none⟩ = some (.int .i64 y.light) := (HBr.out.cell (World.block_lt_of_cell? _ _ (CE.out 0 _ rfl))).trans (CE.out 0 _ rfl); have hs1_ : w12.drew.cell? ⟨ga, k * 7 + 1, none⟩ = some (.int .i64 y.under) := (HBr.out.cell (World.block_lt_of_cell? _ _ (CE.out 1 _ rfl))).trans (CE.out 1 _ rfl); have hs2_ : w12.drew.cell? ⟨ga, k * 7 + 2, none⟩ = some (.int .i64 y.trim) := (HBr.out.cell (World.block_lt_of_cell? _ _ (CE.out 2 _ rfl))).trans (CE.out 2 _ rfl); have hs3_ : w12.drew.cell? ⟨ga, k * 7 + 3, none⟩ = some (.slice y.A3 y.holds.length y.c3) := (HBr.out.cell (World.block_lt_of_cell? _ _ (CE.out 3 _ rfl))).trans (CE.out 3 _ rfl); have hs4_ : w12.drew.cell? ⟨ga, k * 7 + 4, none⟩ = some (.int .i64 y.leaves) := (HBr.out.cell (World.block_lt_of_cell? _ _ (CE.out 4 _ rfl))).trans (CE.out 4 _ rfl); have hs5_ : w12.drew.cell? ⟨ga, k * 7 + 5, none⟩ = some (.slice y.A5 y.sills.length y.c5) := (HBr.out.cell (World.block_lt_of_cell? _ _ (CE.out 5 _ rfl))).trans (CE.out 5 _ rfl); have hs6_ : w12.drew.cell? ⟨ga, k * 7 + 6, none⟩ = some (.slice y.A6 y.lots.length y.c6) := (HBr.out.cell (World.block_lt_of_cell? _ _ (CE.out 6 _ rfl))).trans (CE.out 6 _ rfl); have hs7_ : w12.drew.cell? ⟨gl, k, none⟩ = some (.slice B l.length c) := cb_y HBr.out CL.out; refine start_ (n := 32) (S := fun w' => w'.cell? ⟨go, 0, none⟩ = some (.int .i64 y.light) ∧ w'.cell? ⟨go, 1, none⟩ = some (.int .i64 y.under) ∧ w'.cell? ⟨go, 2, none⟩ = some (.int .i64 y.trim) ∧ w'.cell? ⟨go, 3, none⟩ = some (.slice X3 y.holds.length e3) ∧ w'.cell? ⟨go, 4, none⟩ = some (.int .i64 y.leaves) ∧ w'.cell? ⟨go, 5, none⟩ = some (.slice X5 y.sills.length e5) ∧ w'.cell? ⟨go, 6, none⟩ = some (.slice X6 y.lots.length e6) ∧ w'.cell? ⟨ga, k * 7, none⟩ = some (.int .i64 y.light) ∧ w'.cell? ⟨ga, k * 7 + 1, none⟩ = some (.int .i64 y.under) ∧ w'.cell? ⟨ga, k * 7 + 2, none⟩ = some (.int .i64 y.trim) ∧ w'.cell? ⟨ga, k * 7 + 3, none⟩ = some (.slice y.A3 y.holds.length y.c3) ∧ w'.cell? ⟨ga, k * 7 + 4, none⟩ = some (.int .i64 y.leaves) ∧ w'.cell? ⟨ga, k * 7 + 5, none⟩ = some (.slice y.A5 y.sills.length y.c5) ∧ w'.cell? ⟨ga, k * 7 + 6, none⟩ = some (.slice y.A6 y.lots.length y.c6) ∧ w'.cell? ⟨gl, k, none⟩ = some (.slice B l.length c)) (ds := []) #[false, false, false, false, false, false, false, false, false, false, false, false, false, false, false, false, false, false, false, false, false, false, false, false, false, false, false, false, false, false, false, false] (by kernel_rfl) rfl rfl ⟨(blk_cell BO.out 0).trans rfl, (blk_cell BO.out 1).trans rfl, (blk_cell BO.out 2).trans rfl, (blk_cell BO.out 3).trans rfl, (blk_cell BO.out 4).trans rfl, (blk_cell BO.out 5).trans rfl, (blk_cell BO.out 6).trans rfl, hs0_, hs1_, hs2_, hs3_, hs4_, hs5_, hs6_, hs7_⟩ (fun hHeld => ?_); generalize w12.drew = wd12 at HBr BO OX RI OV1 OV2 hHeld ⊢; refine pure_y 0 (some 79) (bz 32 1) ?_; refine pure_y 1 (some 80) (bz 32 3) ?_; refine pure_y 2 (some 81) (bz 32 7) ?_; refine pure_y 3 (some 82) (bz 32 15) ?_; refine pure_y 4 (some 83) (bz 32 31) ?_; refine pure_y 5 (some 84) (bz 32 63) ?_; refine pure_y 6 (some 85) (bz 32 127) ?_; refine pure_y 7 (some 86) (bz 32 255) ?_; refine pure_y 8 (some 87) (bz 32 511) ?_; refine pure_y 9 (some 88) (bz 32 1023) ?_; refine pure_y 10 (some 89) (bz 32 2047) ?_; (refine one_y 11 (some 90) (bz 32 4095) fun K hK => ?_); refine goes_x Try.func24 #[.slice Ao1 o.length co1, .slice Ao2 o.length co2] ?_
   with_reducible refine (swarfkit_EqualRanges.calls ko Ao1 co1 o Ao2 co2 o true _ OV1.out ho1_ OV2.out ho2_ QO.out).mono ?_
   rintro e w13 ⟨rfl, hd_⟩; have hb_ := hd_.below; clear hd_; replace HBr := Aside0.mk (below_step HBr.out hb_); replace BO := Aside0.mk (blk_below BO.out hb_); replace OX := Aside0.mk (OX.out.below hb_); replace RI := Aside0.mk (Kd.C_below RI.out hb_); replace OV1 := Aside0.mk (Kd.C_below OV1.out hb_); replace OV2 := Aside0.mk (Kd.C_below OV2.out hb_); clear hb_; refine ⟨_, rfl, ?_⟩; refine hK.out _ _ ⟨(blk_cell BO.out 0).trans rfl, (blk_cell BO.out 1).trans rfl, (blk_cell BO.out 2).trans rfl, (blk_cell BO.out 3).trans rfl, (blk_cell BO.out 4).trans rfl, (blk_cell BO.out 5).trans rfl, (blk_cell BO.out 6).trans rfl, (HBr.out.cell (World.block_lt_of_cell? _ _ (CE.out 0 _ rfl))).trans (CE.out 0 _ rfl), (HBr.out.cell (World.block_lt_of_cell? _ _ (CE.out 1 _ rfl))).trans (CE.out 1 _ rfl), (HBr.out.cell (World.block_lt_of_cell? _ _ (CE.out 2 _ rfl))).trans (CE.out 2 _ rfl), (HBr.out.cell (World.block_lt_of_cell? _ _ (CE.out 3 _ rfl))).trans (CE.out 3 _ rfl), (HBr.out.cell (World.block_lt_of_cell? _ _ (CE.out 4 _ rfl))).trans (CE.out 4 _ rfl), (HBr.out.cell (World.block_lt_of_cell? _ _ (CE.out 5 _ rfl))).trans (CE.out 5 _ rfl), (HBr.out.cell (World.block_lt_of_cell? _ _ (CE.out 6 _ rfl))).trans (CE.out 6 _ rfl), cb_y HBr.out CL.out⟩ (fun hHeld => ?_); clear hK K; refine norm_y (some 90) ?_; refine pure_y 12 (some 91) (bz 32 8191) ?_; refine pure_y 13 (some 92) (bz 32 16383) ?_; refine pure_y 14 (some 93) (bz 32 32767) ?_; refine pure_y 16 (some 95) (bz 32 98303) ?_; refine pure_y 17 (some 96) (bz 32 229375) ?_; refine pure_y 18 (some 97) (bz 32 491519) ?_; refine take_y 15 (some 94) (bz 32 524287) hHeld ?_; refine take_y 19 (some 98) (bz 32 1048575) hHeld ?_; (refine one_y 20 (some 99) (bz 32 2097151) fun K hK => ?_); refine goes_x Try.func25 #[.agg #[.int .i64 y.light, .int .i64 y.under, .int .i64 y.trim, .slice X3 y.holds.length e3, .int .i64 y.leaves, .slice X5 y.sills.length e5, .slice X6 y.lots.length e6], .agg #[.int .i64 y.light, .int .i64 y.under, .int .i64 y.trim, .slice y.A3 y.holds.length y.c3, .int .i64 y.leaves, .slice y.A5 y.sills.length y.c5, .slice y.A6 y.lots.length y.c6]] ?_
   with_reducible refine (sameV_calls y.light y.under y.trim y.leaves X3 y.A3 e3 y.c3 y.holds X5 y.A5 e5 y.c5 y.sills X6 y.A6 e6 y.c6 y.lots _ OX.out (YO.out.below HBr.out) QV.out.1 QV.out.2.1 QV.out.2.2).mono ?_
   rintro e w14 ⟨rfl, hb_⟩; replace HBr := Aside0.mk (below_step HBr.out hb_); replace BO := Aside0.mk (blk_below BO.out hb_); replace OX := Aside0.mk (OX.out.below hb_); replace RI := Aside0.mk (Kd.C_below RI.out hb_); replace OV1 := Aside0.mk (Kd.C_below OV1.out hb_); replace OV2 := Aside0.mk (Kd.C_below OV2.out hb_); clear hb_; refine ⟨_, rfl, ?_⟩; refine hK.out _ _ ⟨(blk_cell BO.out 0).trans rfl, (blk_cell BO.out 1).trans rfl, (blk_cell BO.out 2).trans rfl, (blk_cell BO.out 3).trans rfl, (blk_cell BO.out 4).trans rfl, (blk_cell BO.out 5).trans rfl, (blk_cell BO.out 6).trans rfl, (HBr.out.cell (World.block_lt_of_cell? _ _ (CE.out 0 _ rfl))).trans (CE.out 0 _ rfl), (HBr.out.cell (World.block_lt_of_cell? _ _ (CE.out 1 _ rfl))).trans (CE.out 1 _ rfl), (HBr.out.cell (World.block_lt_of_cell? _ _ (CE.out 2 _ rfl))).trans (CE.out 2 _ rfl), (HBr.out.cell (World.block_lt_of_cell? _ _ (CE.out 3 _ rfl))).trans (CE.out 3 _ rfl), (HBr.out.cell (World.block_lt_of_cell? _ _ (CE.out 4 _ rfl))).trans (CE.out 4 _ rfl), (HBr.out.cell (World.block_lt_of_cell? _ _ (CE.out 5 _ rfl))).trans (CE.out 5 _ rfl), (HBr.out.cell (World.block_lt_of_cell? _ _ (CE.out 6 _ rfl))).trans (CE.out 6 _ rfl), cb_y HBr.out CL.out⟩ (fun hHeld => ?_); clear hK K; refine norm_y (some 99) ?_; refine pure_y 21 (some 100) (bz 32 4194303) ?_; refine pure_y 22 (some 101) (bz 32 8388607) ?_; refine pure_y 23 (some 102) (bz 32 16777215) ?_; refine pure_y 24 (some 103) (bz 32 33554431) ?_; refine pure_y 25 (some 104) (bz 32 67108863) ?_; refine pure_y 26 (some 105) (bz 32 134217727) ?_; refine pure_y 27 (some 106) (bz 32 268435455) ?_; refine take_y 28 (some 107) (bz 32 536870911) hHeld ?_; (refine one_y 29 (some 108) (bz 32 1073741823) fun K hK => ?_); refine goes_x Try.func26 #[.slice Ai l.length ci, .slice B l.length c] ?_
   with_reducible refine (swarfkit_EqualInts.calls kn Ai ci l B c l true _ RI.out li_ (Kd.C_below RB.out HBr.out) hc QN.out).mono ?_
   rintro e w15 ⟨rfl, hd_⟩; have hb_ := hd_.below; clear hd_; replace HBr := Aside0.mk (below_step HBr.out hb_); replace BO := Aside0.mk (blk_below BO.out hb_); replace OX := Aside0.mk (OX.out.below hb_); replace RI := Aside0.mk (Kd.C_below RI.out hb_); replace OV1 := Aside0.mk (Kd.C_below OV1.out hb_); replace OV2 := Aside0.mk (Kd.C_below OV2.out hb_); clear hb_; refine ⟨_, rfl, ?_⟩; refine hK.out _ _ ⟨(blk_cell BO.out 0).trans rfl, (blk_cell BO.out 1).trans rfl, (blk_cell BO.out 2).trans rfl, (blk_cell BO.out 3).trans rfl, (blk_cell BO.out 4).trans rfl, (blk_cell BO.out 5).trans rfl, (blk_cell BO.out 6).trans rfl, (HBr.out.cell (World.block_lt_of_cell? _ _ (CE.out 0 _ rfl))).trans (CE.out 0 _ rfl), (HBr.out.cell (World.block_lt_of_cell? _ _ (CE.out 1 _ rfl))).trans (CE.out 1 _ rfl), (HBr.out.cell (World.block_lt_of_cell? _ _ (CE.out 2 _ rfl))).trans (CE.out 2 _ rfl), (HBr.out.cell (World.block_lt_of_cell? _ _ (CE.out 3 _ rfl))).trans (CE.out 3 _ rfl), (HBr.out.cell (World.block_lt_of_cell? _ _ (CE.out 4 _ rfl))).trans (CE.out 4 _ rfl), (HBr.out.cell (World.block_lt_of_cell? _ _ (CE.out 5 _ rfl))).trans (CE.out 5 _ rfl), (HBr.out.cell (World.block_lt_of_cell? _ _ (CE.out 6 _ rfl))).trans (CE.out 6 _ rfl), cb_y HBr.out CL.out⟩ (fun hHeld => ?_); clear hK K; refine norm_y (some 108) ?_; refine pure_y 30 (some 109) (bz 32 2147483647) ?_; refine pure_y 31 (some 110) (bz 32 4294967295) ?_; refine done_ (by kernel_rfl) ?_; clear hHeld hs0_ hs1_ hs2_ hs3_ hs4_ hs5_ hs6_ hs7_; go_wp2; go_roundg (2 - (k + 1))
   case measure => omega
   case rel => exact ⟨k + 1, by omega, by omega, by go_num, HBr⟩
  ·
   (have : k = 2 := by omega); subst this
   go_wp2_with (fail)
   refine (swarflaw07_awake.calls ka true _ HAW.out).mono ?_; rintro e z4 ⟨rfl, hb_⟩; have HBz := Aside0.mk (below_step HBj.out (below_step HBr.out hb_)); clear hb_; go_wp2; go_ret; exact ⟨rfl, HBz.out⟩
theorem sailQ_of {L U R V : Int} {holds : List S85} {sills : List S59} {lots : List S79} (hn : Narrow holds sills lots) (hc : swarfkit_CopyVoyage.f L U R holds V sills lots = some (L, U, R, holds, V, sills, lots)) (s : List Int) (hsl : s.length ≤ 1000) : SailQ L U R holds V sills lots s := by
  obtain ⟨v, o, e, hol, h1, h2⟩ := sail_both (L := L) (U := U) (R := R) (V := V) hn s hsl
  obtain ⟨kr, h2⟩ := h2.rounds
  obtain ⟨ko, h3⟩ := (selfRanges_ev o (by omega)).rounds
  refine ⟨hc, ?_, ⟨v, o, e, kr, ko, h1, h2, h3⟩, ⟨by have := hn.h; omega, by have := hn.l; omega, by have := hn.s; omega, fun y hy => by have := hn.n y hy; omega⟩, (selfInts_ev s (by omega)).rounds⟩
  unfold swarfkit_Ints.f
  simp only [Option.bind_some, List.length_nil, Nat.zero_add, List.nil_append]
  rw [if_pos (by omega)]
theorem sails_all (x : VoyV) (Ag : Option Addr) (cg : Nat) (sg : List Int) (A1 : Option Addr) (c1 : Nat) (l1 : List Int) (w : World) (hx : x.Ok w) (hrg : Kd.C (Kd.int .i64) w Ag sg.length sg) (hcg : sg.length ≤ cg) (hbg : sg.length * 8 ≤ 140737488351232) (hr1 : Kd.C (Kd.int .i64) w A1 l1.length l1) (hc1 : l1.length ≤ c1) (hb8 : l1.length * 8 ≤ 140737488351232) :
    Calls Try.prog 3 #[.agg #[.int .i64 x.light, .int .i64 x.under, .int .i64 x.trim, .slice x.A3 x.holds.length x.c3, .int .i64 x.leaves, .slice x.A5 x.sills.length x.c5, .slice x.A6 x.lots.length x.c6], .slice Ag sg.length cg, .slice A1 l1.length c1] w fun e w' => e = .returned (.bool true) ∧ Below w.heap.size w w' := by
  obtain ⟨b, hb, hnar⟩ := wide_res x.light x.under x.trim x.leaves x.holds x.sills x.lots
  obtain ⟨kw, hkw⟩ := hb.rounds
  obtain ⟨ka, hka⟩ := awake_ev.rounds
  cases b with
  | true => exact sails_wide x Ag cg sg A1 c1 l1 w hx hrg hcg hkw (.inl rfl) hka
  | false =>
    by_cases hlg : (sg.length : Int) > 20
    · exact sails_wide x Ag cg sg A1 c1 l1 w hx hrg hcg hkw (.inr ⟨rfl, hlg⟩) hka
    · obtain ⟨hn, n1, n2, n3, n4⟩ := hnar rfl
      have e0 : swarfkit_FeedOf.f l1 = some (feedAll l1) := by unfold swarfkit_FeedOf.f; rw [if_pos (by omega)]
      obtain ⟨T, f1, e1, hT⟩ := either_ok (feedAll l1) [4, 30] (by simp) (show 2 ≤ 1000 by decide)
      have hTb : 1 ≤ T ∧ T ≤ 1000 := by
        rcases List.mem_cons.1 hT with rfl | hT
        · omega
        · rw [List.mem_singleton.1 hT]; omega
      obtain ⟨⟨L, U, R, holds, V, sills, lots, f2⟩, e2, hv⟩ := voyageOf_res f1 3 4 4 T (by decide) (by decide) (by decide) (by decide) hTb.1 hTb.2
      obtain ⟨⟨s, f3⟩, e3, hs⟩ := stowageOf_res hv (by decide) (by decide) hTb.2 f2
      replace hs : StowOK holds lots s := hs
      replace hv : VoyOK 3 4 4 T L U R holds V sills lots := hv
      obtain ⟨kv, e2⟩ := e2.rounds
      obtain ⟨ks, e3⟩ := e3.rounds
      have hnm : Narrow holds sills lots := ⟨by have := hv.hn; omega, by have := hv.sn; omega, fun y hy => by obtain ⟨_, _, _, _, a5, _⟩ := hv.si y hy; omega, by have := hv.ln; omega⟩
      have hcx : swarfkit_CopyVoyage.f x.light x.under x.trim x.holds x.leaves x.sills x.lots = some (x.light, x.under, x.trim, x.holds, x.leaves, x.sills, x.lots) := by
        unfold swarfkit_CopyVoyage.f
        rw [if_pos ⟨by omega, by omega, by omega, fun y hy => by have := n4 y hy; omega⟩]
      exact sails_walk x Ag cg sg A1 c1 l1 w hx hrg hcg hr1 hc1 hkw hlg e0 e1 e2 e3 (sailQ_of hn hcx sg (by omega)) (sailQ_of hnm (copy_ok hv (by decide) (by decide) (by decide)) s (by have := hs.len; have := hv.ln; omega)) hka
end Go.Proofs.Ytodmemndaaiolaa.PC7
namespace Go.Proofs.Ytodmemndaaiolaa.shipSails
open Go.ChangeShapes Go.WideShapes Go.ChangeAt Go.RowKit Go.Proofs.Ytodmemndaaiolaa Go.Proofs.YtodmemndaaiolaaW
open Go.ChangeMaps (open_string shut_string)
set_option linter.unusedVariables false
theorem own : ownKnob Try.prog.godebug = none := by kernel_rfl
theorem laidOut : laidOutB Try.prog = true := by kernel_rfl
set_option maxRecDepth 100000 in
theorem lifted (os : Os) (started : os.Started) (H : Type) (enc : TypeId × Value → H) :
    ReturnsInHanded {} Try.checked os 3 .any (Rows.shipSailsSpec.pre6 enc Try.prog Try.f3 Rows.shipSailsRow.domain false) (Rows.shipSailsSpec.post enc Try.prog Try.f3 false true false false) := by
  refine returnsInHanded_of_change_sized (C := Try.checked) own started (by kernel_rfl) Try.func3
    (ChangeSpec.witness6 (enc := enc) (C := Try.checked) false ⟨#[], #[.agg #[.int .i64 0, .int .i64 0, .int .i64 0, .slice none 0 0, .int .i64 0, .slice none 0 0, .slice none 0 0], .slice none 0 0, .slice none 0 0], []⟩ 8 (by kernel_rfl) (by kernel_rfl) (by kernel_rfl) (by kernel_rfl)) ?_
  intro W base args ds gs before hval0 hW hcnd hsz0 _
  have hsz : (DataW.weightsEach Try.prog (Try.f3.params.toList ++ Rows.shipSailsSpec.plain.varTypes Try.prog) (ds ++ gs)).all (· ≤ reachBytes) = true := hsz0
  have hval : ∀ (j : Nat) t v, Try.f3.params[j]? = some t → args[j]? = some v → Value.okWide Try.prog W .any base t v := hval0
  have hW' := hW
  obtain ⟨p, q, hA0, hV, rfl, hfz, hnd⟩ := hW
  have hA : DataW.TrodAll enc Try.prog W 0 (fun _ => true) true Try.f3.params.toList args.toList ds p := hA0
  rw [Try.params3] at hA hval hsz
  obtain ⟨v0, vs0, d0, ds0, p0, q0, hargs, rfl, rfl, h0, r0⟩ := trodAll_cons hA
  obtain ⟨v1, vs1, d1, ds1, p1, q1, rfl, rfl, rfl, h1, r1⟩ := trodAll_cons r0
  obtain ⟨v2, vs2, d2, ds2, p2, q2, rfl, rfl, rfl, h2, r2⟩ := trodAll_cons r1
  obtain ⟨rfl, rfl, rfl⟩ := trodAll_nil r2
  obtain rfl : args = #[v0, v1, v2] := by cases args; simp_all
  obtain ⟨rfl, rfl⟩ := trodVars_none hV
  have k0 := h0
  have lt0 : ∀ x ∈ p0, x.block < W.heap.size := by obtain ⟨m, hm⟩ := k0; exact DataW.trod_lt m _ _ _ hm
  obtain ⟨x0, rfl, hx0⟩ := PC7.open_voy (hval 0 26 v0 rfl rfl) h0
  obtain ⟨a1, len1, cap1, rfl⟩ := okWide_slice Try.underlying27 (hval 1 27 v1 rfl rfl)
  have k1 := h1
  have lt1 : ∀ x ∈ p1, x.block < W.heap.size := by obtain ⟨m, hm⟩ := k1; exact DataW.trod_lt m _ _ _ hm
  have y1 : len1 * 8 ≤ 140737488351232 := Go.Proofs.YtodmemndaaiolaaW.PrintWords.sized_ints hsz (j := 1) (t := 27) rfl rfl Try.underlying27 Try.underlying3 (by kernel_rfl) (by kernel_rfl) h1
  obtain ⟨A1, c1, l1, e1, hl1, _, hC1⟩ := (fun h => let ⟨_, hf⟩ := h; PC7.open_row (d := PrintWords.Kd.int .i64) (e := 3) Try.underlying27 (by kernel_rfl) (PC7.opens_int Try.underlying3) hf : _ → _) h1
  have f1 : [Value.slice a1 len1 cap1] = [Value.slice A1 l1.length c1] := e1
  injection f1 with f1 _
  injection f1 with f1 g1 k_1
  subst f1; subst g1; subst k_1
  obtain ⟨a2, len2, cap2, rfl⟩ := okWide_slice Try.underlying27 (hval 2 27 v2 rfl rfl)
  have k2 := h2
  have lt2 : ∀ x ∈ p2, x.block < W.heap.size := by obtain ⟨m, hm⟩ := k2; exact DataW.trod_lt m _ _ _ hm
  have y2 : len2 * 8 ≤ 140737488351232 := Go.Proofs.YtodmemndaaiolaaW.PrintWords.sized_ints hsz (j := 2) (t := 27) rfl rfl Try.underlying27 Try.underlying3 (by kernel_rfl) (by kernel_rfl) h2
  obtain ⟨A2, c2, l2, e2, hl2, _, hC2⟩ := (fun h => let ⟨_, hf⟩ := h; PC7.open_row (d := PrintWords.Kd.int .i64) (e := 3) Try.underlying27 (by kernel_rfl) (PC7.opens_int Try.underlying3) hf : _ → _) h2
  have f2 : [Value.slice a2 len2 cap2] = [Value.slice A2 l2.length c2] := e2
  injection f2 with f2 _
  injection f2 with f2 g2 k_2
  subst f2; subst g2; subst k_2
  clear hA0 hval0 hsz0 hsz
  refine (PC7.sails_all x0 a1 cap1 l1 a2 cap2 l2 W hx0 hC1 hl1 (by omega) hC2 hl2 (by omega)).mono fun e W' ⟨he, bel⟩ => ?_
  subst he
  exact ⟨_, rfl, _, _, _, [], _, [], hW', trodAll_mk1 (shut_bool Try.underlying4 _), (trodAll_cons_mk (Below.trod laidOut (by kernel_rfl) (of_decide_eq_true (by kernel_rfl)) k0 bel lt0) (trodAll_cons_mk (Below.trod laidOut (by kernel_rfl) (of_decide_eq_true (by kernel_rfl)) k1 bel lt1) (trodAll_cons_mk (Below.trod laidOut (by kernel_rfl) (of_decide_eq_true (by kernel_rfl)) k2 bel lt2) trodAll_mk0))), rfl, bel.frame _, fun h => by cases h⟩
theorem over : Rows.shipSailsRow.holds Try.pinned (OpenSpec.ofChange Rows.shipSailsSpec) :=
  OpenClaim.holds_of_wide 3 Try.f3 rfl rfl rfl rfl rfl rfl rfl ⟨rfl, rfl, rfl, rfl, rfl⟩ rfl rfl rfl rfl rfl (by kernel_rfl) Try.func3 (by kernel_rfl)
    (of_decide_eq_true (by kernel_rfl)) (by unfold Func.isWrapper; first | (rw [if_pos (by decide +kernel)]; kernel_rfl) | (rw [if_neg (by decide +kernel)]; exact ⟨rfl, rfl⟩))
    (fun os started H enc _ => lifted os started H enc)
theorem proved : Rows.ShipSailsSaid := over
#print axioms proved
end Go.Proofs.Ytodmemndaaiolaa.shipSails
namespace Go.Proofs.Ytodmemndaaiolaa
theorem shipSails_holds : Rows.ShipSailsSaid := shipSails.proved
end Go.Proofs.Ytodmemndaaiolaa
