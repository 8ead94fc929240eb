/- Lemmas on the way to this: Which voyages and stowages are valid, how deep bow and stern may lie and whether the barge is level enough is said alike by the program and by the reference, and nothing is changed. -/
import Derived.Test.YtodmemndaaiolaaCShipDrafts1
namespace Go.Proofs.Ytodmemndaaiolaa.PC7
open Go.RowKit Go.Proofs.YtodmemndaaiolaaW.PrintWords Go.Proofs.YtodmemndaaiolaaW.PrintLast Go.Proofs.YtodmemndaaiolaaW.PrintMore
attribute [local go_sem] max2_int min2_int max_two min_two max_three min_three max_four min_four
set_option linter.unusedVariables false
set_option linter.unusedSimpArgs false
mutual
def swarfkit_VoyageOf.l0 : Nat → Int → Int → Int → Int → Int → Int → Int → Int → List (S85) → Int → Option (Int × Int × Int × (List (S85)) × Int × (List (S59)) × (List (S79)) × Int)
 | 0, _, _, _, _, _, _, _, _, _, _ => none
 | k + 1, x2, x3, x4, x12, x1000, x310000, x310001, x310002, x310003, x310004 => if x12 > 0 then ((swarfkit_Feed_Below.f x1000 (wrap64 (3 * x4))).bind fun bt312 => ((swarfkit_Feed_Either.f bt312.2 (([x4, wrap64 (3 * x4), bt312.1] : List Int))).bind fun bt317 => ((swarfkit_Feed_Below.f bt317.2 1500).bind fun bt319 => ((swarfkit_Feed_Below.f bt319.2 1500).bind fun bt321 => (if x310003.length < 5864062014805 then (swarfkit_VoyageOf.l0 k x2 x3 x4 (wrap64 (x12 - 1)) bt321.2 x310000 x310001 x310002 (x310003 ++ [(⟨bt317.1, bt319.1, bt321.1⟩ : S85)]) x310004) else (none)))))) else ((swarfkit_Feed_Below.f x1000 (wrap64 (x2 + 1))).bind fun bt326 => (swarfkit_VoyageOf.l1 k x3 x4 bt326.1 bt326.2 x310000 x310001 x310002 x310003 x310004 ([] : List (S59))))
def swarfkit_VoyageOf.l1 : Nat → Int → Int → Int → Int → Int → Int → Int → List (S85) → Int → List (S59) → Option (Int × Int × Int × (List (S85)) × Int × (List (S59)) × (List (S79)) × Int)
 | 0, _, _, _, _, _, _, _, _, _, _ => none
 | k + 1, x3, x4, x13, x1000, x310000, x310001, x310002, x310003, x310004, x310005 => if x13 > 0 then ((swarfkit_Feed_Either.f x1000 (([3, 12] : List Int))).bind fun bt331 => ((swarfkit_Feed_Range.f bt331.2 0 bt331.1).bind fun bt333 => ((swarfkit_Feed_Between.f bt333.2.2 1 4).bind fun bt337 => (swarfkit_VoyageOf.l2 k x3 x4 x13 0 bt337.1 bt337.2 x310000 x310001 x310002 x310003 x310004 x310005 bt333.1 bt333.2.1 ([] : List (S62)))))) else ((swarfkit_Feed_Below.f x1000 (wrap64 (x3 + 1))).bind fun bt352 => (swarfkit_VoyageOf.l3 k x4 bt352.1 bt352.2 x310000 x310001 x310002 x310003 x310004 x310005 ([] : List (S79))))
def swarfkit_VoyageOf.l2 : Nat → Int → Int → Int → Int → Int → Int → Int → Int → Int → List (S85) → Int → List (S59) → Int → Int → List (S62) → Option (Int × Int × Int × (List (S85)) × Int × (List (S59)) × (List (S79)) × Int)
 | 0, _, _, _, _, _, _, _, _, _, _, _, _, _, _, _ => none
 | k + 1, x3, x4, x13, x15, x16, x1000, x310000, x310001, x310002, x310003, x310004, x310005, x337000, x337001, x337002 => if x16 > 0 then ((swarfkit_Feed_Below.f x1000 12).bind fun bt339 => ((swarfkit_Feed_Range.f bt339.2 bt339.1 (wrap64 (12 + (wrap64 (2 * x4))))).bind fun bt341 => (if x337002.length < 5864062014805 then ((swarfkit_Feed_Between.f bt341.2.2 1 9).bind fun bt347 => (swarfkit_VoyageOf.l2 k x3 x4 x13 (wrap64 (x15 + bt347.1)) (wrap64 (x16 - 1)) bt347.2 x310000 x310001 x310002 x310003 x310004 x310005 x337000 x337001 (x337002 ++ [(⟨x15, (⟨bt341.1, bt341.2.1⟩ : S56)⟩ : S62)]))) else (none)))) else (if x310005.length < 3518437208883 then (swarfkit_VoyageOf.l1 k x3 x4 (wrap64 (x13 - 1)) x1000 x310000 x310001 x310002 x310003 x310004 (x310005 ++ [(⟨(⟨x337000, x337001⟩ : S56), x337002⟩ : S59)])) else (none))
def swarfkit_VoyageOf.l3 : Nat → Int → Int → Int → Int → Int → Int → List (S85) → Int → List (S59) → List (S79) → Option (Int × Int × Int × (List (S85)) × Int × (List (S59)) × (List (S79)) × Int)
 | 0, _, _, _, _, _, _, _, _, _, _ => none
 | k + 1, x4, x17, x1000, x310000, x310001, x310002, x310003, x310004, x310005, x310006 => if x17 > 0 then ((swarfkit_Feed_Range.f x1000 0 x4).bind fun bt354 => ((swarfkit_Feed_Below.f bt354.2.2 30).bind fun bt357 => (if x310006.length < 5864062014805 then (swarfkit_VoyageOf.l3 k x4 (wrap64 (x17 - 1)) bt357.2 x310000 x310001 x310002 x310003 x310004 x310005 (x310006 ++ [(⟨(⟨bt354.1, bt354.2.1⟩ : S56), bt357.1⟩ : S79)])) else (none)))) else (some (x310000, x310001, x310002, x310003, x310004, x310005, x310006, x1000))
end
def swarfkit_VoyageOf.f (k : Nat) (s0_0 : Int) (a1 : Int) (a2 : Int) (a3 : Int) (a4 : Int) : Option (Int × Int × Int × (List (S85)) × Int × (List (S59)) × (List (S79)) × Int) := (swarfkit_Feed_Below.f s0_0 9).bind fun bt296 => ((swarfkit_Feed_Below.f bt296.2 4).bind fun bt298 => ((swarfkit_Feed_Below.f bt298.2 9).bind fun bt300 => ((swarfkit_Feed_Either.f bt300.2 (([bt300.1, 40] : List Int))).bind fun bt305 => ((swarfkit_Feed_Below.f bt305.2 9).bind fun bt307 => ((swarfkit_Feed_Between.f bt307.2 1 a1).bind fun bt310 => (swarfkit_VoyageOf.l0 k a2 a3 a4 bt310.1 bt310.2 bt296.1 bt298.1 bt305.1 ([] : List (S85)) bt307.1))))))
def swarfkit_VoyageOf.T5 : Bool × List (List Nat × List Nat) := (true, [([], []), ([0], [0]), ([], []), ([], []), ([], []), ([4], [4]), ([], []), ([], []), ([7], [7]), ([6, 8], [6, 8]), ([3, 5, 9], [3, 5, 9]), ([2, 10, 9], [2, 10]), ([], []), ([12, 11], [12]), ([], []), ([14, 13], [14]), ([11, 13, 15], [11, 13, 15]), ([16], [16]), ([1, 17, 15], [1, 17]), ([0, 1, 2, 3, 4, 5, 6, 7, 8, 9, 10, 11, 12, 13, 14, 15, 16, 17, 18], []), ([19, 18, 18, 0, 1, 2, 3, 4, 5, 6, 7, 8, 9, 10, 11, 12, 13, 14, 15, 16, 17, 18], [18, 19])])
def swarfkit_VoyageOf.B5 : List Nat := [0, 1, 0, 0, 0, 16, 0, 0, 128, 448, 1016, 2044, 0, 8188, 0, 32764, 65532, 131068, 262143, 524287, 1048575]
theorem swarfkit_VoyageOf.tab5 : rtab .any (opsOf Try.f17 5) = swarfkit_VoyageOf.T5 := by kernel_rfl
theorem swarfkit_VoyageOf.bits5 : waitsOk swarfkit_VoyageOf.T5.2 swarfkit_VoyageOf.B5 = true := by kernel_rfl
def swarfkit_VoyageOf.T14 : Bool × List (List Nat × List Nat) := (true, [([], []), ([0], [0]), ([], []), ([], []), ([], []), ([4], [4]), ([], []), ([6], [6]), ([7], [7]), ([3, 5, 8, 5], [3, 5, 8]), ([2, 9], [2, 9]), ([10], [10]), ([1, 11, 9], [1, 11]), ([0, 1, 2, 3, 4, 5, 6, 7, 8, 9, 10, 11, 12], []), ([13, 12, 12, 0, 1, 2, 3, 4, 5, 6, 7, 8, 9, 10, 11, 12], [12, 13])])
def swarfkit_VoyageOf.B14 : List Nat := [0, 1, 0, 0, 0, 16, 0, 64, 192, 504, 1020, 2044, 4095, 8191, 16383]
theorem swarfkit_VoyageOf.tab14 : rtab .any (opsOf Try.f17 14) = swarfkit_VoyageOf.T14 := by kernel_rfl
theorem swarfkit_VoyageOf.bits14 : waitsOk swarfkit_VoyageOf.T14.2 swarfkit_VoyageOf.B14 = true := by kernel_rfl
def swarfkit_VoyageOf.T20 : Bool × List (List Nat × List Nat) := (true, [([], []), ([0], [0]), ([], []), ([], []), ([2, 3], [2, 3]), ([], []), ([5, 4], [5]), ([4, 6], [4, 6]), ([7], [7]), ([1, 8, 6], [1, 8]), ([0, 1, 2, 3, 4, 5, 6, 7, 8, 9], []), ([10, 9, 9, 0, 1, 2, 3, 4, 5, 6, 7, 8, 9], [9, 10])])
def swarfkit_VoyageOf.B20 : List Nat := [0, 1, 0, 0, 12, 0, 60, 124, 252, 511, 1023, 2047]
theorem swarfkit_VoyageOf.tab20 : rtab .any (opsOf Try.f17 20) = swarfkit_VoyageOf.T20 := by kernel_rfl
theorem swarfkit_VoyageOf.bits20 : waitsOk swarfkit_VoyageOf.T20.2 swarfkit_VoyageOf.B20 = true := by kernel_rfl
set_option maxHeartbeats 8000000 in
set_option maxRecDepth 100000 in
theorem swarfkit_VoyageOf.calls (k : Nat) (g : Nat) (s0_0 : Int) (a1 : Int) (a2 : Int) (a3 : Int) (a4 : Int) (r1 : Int) (r2 : Int) (r3 : Int) (r4 : List (S85)) (r5 : Int) (r6 : List (S59)) (r7 : List (S79)) (r8 : Int) (w0 w : World) (hI : IsS90 w0 w g s0_0) (hB : Below w0.heap.size w0 w) (h : swarfkit_VoyageOf.f k s0_0 a1 a2 a3 a4 = some (r1, r2, r3, r4, r5, r6, r7, r8)) :
  Calls Try.prog 17 #[.pointer (some ⟨g, 0, none⟩), .int .i64 a1, .int .i64 a2, .int .i64 a3, .int .i64 a4] w fun e w' => ∃ v3_ v5_ v6_ : Value, e = .returned (.agg #[.int .i64 r1, .int .i64 r2, .int .i64 r3, v3_, .int .i64 r5, v5_, v6_]) ∧ Kd.R k85 85 w' w.heap.size (fun _ => True) v3_ r4 ∧ Kd.S k59 59 w' w.heap.size (fun _ => True) v5_ r6 ∧ Kd.R k79 79 w' w.heap.size (fun _ => True) v6_ r7 ∧ IsS90 w0 w' g r8 ∧ Below w0.heap.size w0 w' ∧ KeepBut w w' g none := by
 have hu26 := Try.underlying26
 have hu85 := Try.underlying85
 have hu59 := Try.underlying59
 have hu62 := Try.underlying62
 have hu79 := Try.underlying79
 have HI0 := Aside0.mk hI
 have HK := Aside0.mk (KeepBut.refl w g none)
 have HL := Aside0.mk hB.size
 clear hI
 have HW0 := Aside0.mk hB.size
 have HB := Aside0.mk hB
 clear hB
 have H : ((swarfkit_Feed_Below.f s0_0 9).bind fun bt296 => ((swarfkit_Feed_Below.f bt296.2 4).bind fun bt298 => ((swarfkit_Feed_Below.f bt298.2 9).bind fun bt300 => ((swarfkit_Feed_Either.f bt300.2 (([bt300.1, 40] : List Int))).bind fun bt305 => ((swarfkit_Feed_Below.f bt305.2 9).bind fun bt307 => ((swarfkit_Feed_Between.f bt307.2 1 a1).bind fun bt310 => (swarfkit_VoyageOf.l0 k a2 a3 a4 bt310.1 bt310.2 bt296.1 bt298.1 bt305.1 ([] : List (S85)) bt307.1))))))) = some (r1, r2, r3, r4, r5, r6, r7, r8) := h
 clear h
 replace H := Option.bind_eq_some_iff.mp H
 obtain ⟨⟨t296, t297⟩, A60, H⟩ := H
 try dsimp only at H
 have A6 := Aside0.mk A60
 clear A60
 replace H := Option.bind_eq_some_iff.mp H
 obtain ⟨⟨t298, t299⟩, A70, H⟩ := H
 try dsimp only at H
 have A7 := Aside0.mk A70
 clear A70
 replace H := Option.bind_eq_some_iff.mp H
 obtain ⟨⟨t300, t301⟩, A80, H⟩ := H
 try dsimp only at H
 have A8 := Aside0.mk A80
 clear A80
 obtain ⟨y302, hy302⟩ : ∃ y_ : List Int, y_ = (([t300, 40] : List Int)) := ⟨_, rfl⟩
 replace H : ((swarfkit_Feed_Either.f t301 y302).bind fun bt305 => ((swarfkit_Feed_Below.f bt305.2 9).bind fun bt307 => ((swarfkit_Feed_Between.f bt307.2 1 a1).bind fun bt310 => (swarfkit_VoyageOf.l0 k a2 a3 a4 bt310.1 bt310.2 t296 t298 bt305.1 ([] : List (S85)) bt307.1)))) = some (r1, r2, r3, r4, r5, r6, r7, r8) := by first | (rw [hy302]; with_reducible exact H) | (have H2_ := (Option.bind_some _ _).symm.trans H; rw [hy302]; with_reducible exact H2_) | (have H2_ := (Option.bind_some _ _).symm.trans H; with_reducible exact H2_) | with_reducible exact H | (rw [hy302]; exact H) | exact H
 have Ny302 := Aside0.mk hy302
 clear hy302
 replace H := Option.bind_eq_some_iff.mp H
 obtain ⟨⟨t305, t306⟩, A90, H⟩ := H
 try dsimp only at H
 have A9 := Aside0.mk A90
 clear A90
 replace H := Option.bind_eq_some_iff.mp H
 obtain ⟨⟨t307, t308⟩, A100, H⟩ := H
 try dsimp only at H
 have A10 := Aside0.mk A100
 clear A100
 replace H := Option.bind_eq_some_iff.mp H
 obtain ⟨⟨t310, t311⟩, A110, H⟩ := H
 try dsimp only at H
 have A11 := Aside0.mk A110
 clear A110
 have H' := Aside0.mk H
 clear H
 go_enter Try.func17, Try.ntmps17
 go_wp2_with (first | (refine box_r (N := 10) rfl (cs := #[.int .i64 0, .int .i64 0, .int .i64 0, .slice none 0 0, .int .i64 0, .slice none 0 0, .slice none 0 0]) (t := 26) ?_; intro gb295 hg w12 hbox hb; replace HB := bl_x HB hb; have BK295 := Aside0.mk (hbox); have GW295 := Aside0.mk ((by rw [hg]; exact (keep_size (w := w) (g := g) (row := none) (by exact keep_y HK.out)) : w.heap.size ≤ gb295)); have GE295 := Aside0.mk ((Nat.le_trans HW0.out (by rw [hg]; exact (keep_size (w := w) (g := g) (row := none) (by exact keep_y HK.out)) : w.heap.size ≤ gb295) : w0.heap.size ≤ gb295)); replace HK := Aside0.mk (KeepBut.trans (by exact keep_y HK.out) (KeepBut.of_below hb g none) (.inl rfl)); have NB0_295 := Aside0.mk ((by rw [hg]; exact Nat.ne_of_lt (IsS90.lt (show IsS90 w0 _ g s0_0 from by exact IsS90.up HI0.out)) : g ≠ gb295)); have NB295_0 := Aside0.mk ((by rw [hg]; exact Nat.ne_of_gt (IsS90.lt (show IsS90 w0 _ g s0_0 from by exact IsS90.up HI0.out)) : gb295 ≠ g)); replace HI0 := Aside0.mk (IsS90.below (by exact IsS90.up HI0.out) hb); clear hb hbox hg) | (refine goesG_x 33 rfl (some 19) Try.func33 #[.pointer (some ⟨g, 0, none⟩), .int .i64 9] ?_; (with_reducible refine (swarfkit_Feed_Below.calls g s0_0 9 t296 t297 w0 _ ?side1 ?side2 A6.out).mono ?_); (case side1 => exact IsS90.up HI0.out); (case side2 => exact below_y HB.out); rintro e w13 ⟨rfl, hi, hb, hk⟩; refine ⟨_, rfl, ?_⟩; replace BK295 := Aside0.mk (KeepBut.blk hk (blk_x BK295.out) NB295_0.out (by simp)); replace HK := Aside0.mk (KeepBut.trans (by exact keep_y HK.out) hk (.inl rfl)); replace HB := Aside0.mk (hb); replace HI0 := Aside0.mk (hi); (try clear hb); (try clear hk); (try clear hi)) | (refine goesG_x 33 rfl (some 21) Try.func33 #[.pointer (some ⟨g, 0, none⟩), .int .i64 4] ?_; (with_reducible refine (swarfkit_Feed_Below.calls g t297 4 t298 t299 w0 _ ?side1 ?side2 A7.out).mono ?_); (case side1 => exact IsS90.up HI0.out); (case side2 => exact below_y HB.out); rintro e w14 ⟨rfl, hi, hb, hk⟩; refine ⟨_, rfl, ?_⟩; replace BK295 := Aside0.mk (KeepBut.blk hk (blk_x BK295.out) NB295_0.out (by simp)); replace HK := Aside0.mk (KeepBut.trans (by exact keep_y HK.out) hk (.inl rfl)); replace HB := Aside0.mk (hb); replace HI0 := Aside0.mk (hi); (try clear hb); (try clear hk); (try clear hi)) | (refine goesG_x 33 rfl (some 24) Try.func33 #[.pointer (some ⟨g, 0, none⟩), .int .i64 9] ?_; (with_reducible refine (swarfkit_Feed_Below.calls g t299 9 t300 t301 w0 _ ?side1 ?side2 A8.out).mono ?_); (case side1 => exact IsS90.up HI0.out); (case side2 => exact below_y HB.out); rintro e w15 ⟨rfl, hi, hb, hk⟩; refine ⟨_, rfl, ?_⟩; replace BK295 := Aside0.mk (KeepBut.blk hk (blk_x BK295.out) NB295_0.out (by simp)); replace HK := Aside0.mk (KeepBut.trans (by exact keep_y HK.out) hk (.inl rfl)); replace HB := Aside0.mk (hb); replace HI0 := Aside0.mk (hi); (try clear hb); (try clear hk); (try clear hi)) | ((with_reducible refine gate_dst (N := 25) rfl ?_); refine Kd.R_lit (Kd.int .i64) _ 3 ?hg (N := 25) ?hd (xs := ([t300, 40] : List Int)) (inner := [.int .i64 t300, .int .i64 40]) (ok := fun _ => True) (okp := fun _ => True) ?hr ?hp (fun _ hk => hk) trivial (Below.refl _ _) (Nat.le_refl _) (by simp) ?_; (case hd => rfl); (case hg => rfl); (case hr => first | (go_simp; done) | (go_simp; rfl)); (case hp => exact (Reps.one (show Kd.M (Kd.int .i64) _ _ _ t300 [.int .i64 t300] from rfl) (Reps.one (show Kd.M (Kd.int .i64) _ _ _ 40 [.int .i64 40] from rfl) (Reps.none _ _)))); intro v303 w16 ho17 hb hg_ hnew_; clear hg_ hnew_; (first | rw [← Ny302.out] at ho17 | (simp only [Int.reduceToNat] at ho17; rw [← Ny302.out] at ho17)); have HO304 := Aside0.mk (Kd.R_lower ho17 (keep_size (w := w) (g := g) (row := none) (by exact keep_y HK.out))); replace HI0 := Aside0.mk (IsS90.below (by exact IsS90.up HI0.out) hb); replace BK295 := bk_x BK295 hb; replace HK := Aside0.mk (KeepBut.trans (by exact keep_y HK.out) (KeepBut.of_below hb g none) (.inl rfl)); replace HB := bl_x HB hb; clear hb ho17; obtain ⟨Ao18, co18, eo18⟩ := Kd.R_slice HO304.out; subst eo18) | (refine goesG_x 18 rfl (some 26) Try.func18 #[.pointer (some ⟨g, 0, none⟩), .slice Ao18 y302.length co18] ?_; (with_reducible refine (swarfkit_Feed_Either.calls g t301 _ _ y302 t305 t306 w0 _ ?side1 ?side2 ?side3 ?side4 ?side5 A9.out).mono ?_); (case side1 => exact IsS90.up HI0.out); (case side2 => exact below_y HB.out); (case side3 => exact Kd.C_y (Kd.R_reads' HO304.out).2.2); (case side4 => exact (Kd.R_reads' HO304.out).2.1); (case side5 => exact far_slice (IsS90.own_ne HI0.out HO304.out (by decide))); rintro e w19 ⟨rfl, hi, hb, hk⟩; refine ⟨_, rfl, ?_⟩; replace BK295 := Aside0.mk (KeepBut.blk hk (blk_x BK295.out) NB295_0.out (by simp)); replace HO304 := Aside0.mk (Kd.R_mono (Kd.R_keep (IsS90.apart (show IsS90 w0 _ g t301 from by exact IsS90.up HI0.out) (Kd.R_x HO304.out) (by decide)) hk (fun _ h => h.2)) (fun _ h => h.1)); replace HK := Aside0.mk (KeepBut.trans (by exact keep_y HK.out) hk (.inl rfl)); replace HB := Aside0.mk (hb); replace HI0 := Aside0.mk (hi); (try clear hb); (try clear hk); (try clear hi)) | (refine goesG_x 33 rfl (some 28) Try.func33 #[.pointer (some ⟨g, 0, none⟩), .int .i64 9] ?_; (with_reducible refine (swarfkit_Feed_Below.calls g t306 9 t307 t308 w0 _ ?side1 ?side2 A10.out).mono ?_); (case side1 => exact IsS90.up HI0.out); (case side2 => exact below_y HB.out); rintro e w20 ⟨rfl, hi, hb, hk⟩; refine ⟨_, rfl, ?_⟩; replace BK295 := Aside0.mk (KeepBut.blk hk (blk_x BK295.out) NB295_0.out (by simp)); replace HO304 := Aside0.mk (Kd.R_mono (Kd.R_keep (IsS90.apart (show IsS90 w0 _ g t306 from by exact IsS90.up HI0.out) (Kd.R_x HO304.out) (by decide)) hk (fun _ h => h.2)) (fun _ h => h.1)); replace HK := Aside0.mk (KeepBut.trans (by exact keep_y HK.out) hk (.inl rfl)); replace HB := Aside0.mk (hb); replace HI0 := Aside0.mk (hi); (try clear hb); (try clear hk); (try clear hi)) | (refine box_r (N := 11) rfl (cs := #[.int .i64 0, .int .i64 0, .int .i64 0, .slice none 0 0, .int .i64 0, .slice none 0 0, .slice none 0 0]) (t := 26) ?_; intro gb309 hg w21 hbox hb; replace HO304 := Aside0.mk (Kd.R_below (Kd.R_x HO304.out) hb); replace HB := bl_x HB hb; have BK309 := Aside0.mk (hbox); have GW309 := Aside0.mk ((by rw [hg]; exact (keep_size (w := w) (g := g) (row := none) (by exact keep_y HK.out)) : w.heap.size ≤ gb309)); have GE309 := Aside0.mk ((Nat.le_trans HW0.out (by rw [hg]; exact (keep_size (w := w) (g := g) (row := none) (by exact keep_y HK.out)) : w.heap.size ≤ gb309) : w0.heap.size ≤ gb309)); replace HK := Aside0.mk (KeepBut.trans (by exact keep_y HK.out) (KeepBut.of_below hb g none) (.inl rfl)); have NB295_309 := nb_x hg BK295; have NB309_295 := nb_y hg BK295; replace BK295 := bk_x BK295 hb; have NB0_309 := Aside0.mk ((by rw [hg]; exact Nat.ne_of_lt (IsS90.lt (show IsS90 w0 _ g t308 from by exact IsS90.up HI0.out)) : g ≠ gb309)); have NB309_0 := Aside0.mk ((by rw [hg]; exact Nat.ne_of_gt (IsS90.lt (show IsS90 w0 _ g t308 from by exact IsS90.up HI0.out)) : gb309 ≠ g)); replace HI0 := Aside0.mk (IsS90.below (by exact IsS90.up HI0.out) hb); clear hb hbox hg; have hnb22 := NB309_295.out; have hnc22 := NB295_309.out; have hnb23 := NB309_0.out; have hnc23 := NB0_309.out; obtain ⟨hfz24_0, _, _, _, _, _, _, _⟩ := cf7 BK309) | (refine goesG_x 31 rfl (some 32) Try.func31 #[.pointer (some ⟨g, 0, none⟩), .int .i64 1, .int .i64 a1] ?_; (with_reducible refine (swarfkit_Feed_Between.calls g t308 1 a1 t310 t311 w0 _ ?side1 ?side2 A11.out).mono ?_); (case side1 => exact IsS90.up HI0.out); (case side2 => exact below_y HB.out); rintro e w25 ⟨rfl, hi, hb, hk⟩; refine ⟨_, rfl, ?_⟩; replace BK295 := Aside0.mk (KeepBut.blk hk (g' := gb295) (o := .cells #[.int .i64 0, .int .i64 0, .int .i64 0, .slice none 0 0, .int .i64 0, .slice none 0 0, .slice none 0 0] 26 (0, 0)) (blk_w BK295.out) NB295_0.out (by simp)); replace HO304 := Aside0.mk (Kd.R_mono (Kd.R_keep (IsS90.apart (show IsS90 w0 _ g t308 from by exact IsS90.up HI0.out) (by (with_reducible repeat (first | apply Kd.R_alloc | apply Kd.R_drewN | apply Kd.R_drew)); exact (Kd.R_mono (Kd.R_far (p := ⟨gb309, 6, none⟩) (Kd.R_far (p := ⟨gb309, 5, none⟩) (Kd.R_far (p := ⟨gb309, 4, none⟩) (Kd.R_far (p := ⟨gb309, 3, none⟩) (Kd.R_far (p := ⟨gb309, 2, none⟩) (Kd.R_far (p := ⟨gb309, 1, none⟩) (Kd.R_far (p := ⟨gb309, 0, none⟩) (Kd.R_types HO304.out BK309.out (by decide)) (fun _ hk => hk.2) (.int .i64 t296)) (fun _ hk => hk.2) (.int .i64 t298)) (fun _ hk => hk.2) (.int .i64 t305)) (fun _ hk => hk.2) (.slice none 0 0)) (fun _ hk => hk.2) (.int .i64 t307)) (fun _ hk => hk.2) (.slice none 0 0)) (fun _ hk => hk.2) (.slice none 0 0)) (fun _ h_ => h_.1))) (by decide)) hk (fun _ h => h.2)) (fun _ h => h.1)); replace BK309 := Aside0.mk (KeepBut.blk hk (g' := gb309) (o := .cells #[.int .i64 t296, .int .i64 t298, .int .i64 t305, .slice none 0 0, .int .i64 t307, .slice none 0 0, .slice none 0 0] 26 (0, 0)) (blk_z BK309.out) NB309_0.out (by simp)); replace HK := Aside0.mk (KeepBut.trans (by exact keep_y HK.out) hk (.inl rfl)); replace HB := Aside0.mk (hb); replace HI0 := Aside0.mk (hi); (try clear hb); (try clear hk); (try clear hi)))
 go_loopg [12] k (fun kq v12 w' => ∃ (x12_1 : Int) (x1000_1 : Int) (x310003_1 : List (S85)) (u310003 : Value), v12 = .int .i64 x12_1 ∧ Aside0 (swarfkit_VoyageOf.l0 kq a2 a3 a4 x12_1 x1000_1 t296 t298 t305 x310003_1 t307 = some (r1, r2, r3, r4, r5, r6, r7, r8)) ∧ Aside0 (kq ≤ k) ∧ Aside0 (Kd.R k85 85 w' w.heap.size (fun _ => True) u310003 x310003_1) ∧ Aside0 (w'.heap[gb295]? = some (.cells #[.int .i64 0, .int .i64 0, .int .i64 0, (.slice none 0 0), .int .i64 0, (.slice none 0 0), (.slice none 0 0)] 26 (0, 0))) ∧ Aside0 (w'.heap[gb309]? = some (.cells #[.int .i64 t296, .int .i64 t298, .int .i64 t305, u310003, .int .i64 t307, (.slice none 0 0), (.slice none 0 0)] 26 (0, 0))) ∧ Aside0 (IsS90 w0 w' g x1000_1) ∧ Aside0 (KeepBut w w' g none) ∧ Aside0 (Below w0.heap.size w0 w'))
 case atStart => exact ⟨(t310), (t311), (([] : List (S85))), (.slice none 0 0), (by first | rfl | (simp; done) | (simp [*]; done)), H', ⟨Nat.le_refl _⟩, ⟨by first | exact Kd.R_nil _ _ _ _ _ | exact Kd.N_nil _ _ _ _ _ | exact Kd.V_nil _ _ _ _ _ | exact Kd.Q_nil _ _ _ _ _ | exact Kd.S_nil _ _ _ _ _⟩, ⟨blk_x BK295.out⟩, ⟨blk_x BK309.out⟩, ⟨by exact IsS90.up HI0.out⟩, ⟨by exact keep_y HK.out⟩, ⟨by exact below_y HB.out⟩⟩
 case round =>
  clear H'; obtain ⟨x12_1, x1000_1, x310003_1, u310003, rfl, HA, HK1, HO_310003, BK295, BK309, HI0, HK, HB⟩ := hrel; cases gk with
  | zero => exact absurd HA.out (by simp [swarfkit_VoyageOf.l0])
  | succ k1 =>
   have H := HA.out; clear HA; simp only [swarfkit_VoyageOf.l0] at H; by_cases c26 : x12_1 > 0
   ·
    rw [if_pos c26] at H; have c26b0 : decide (0 < x12_1) = true := decide_eq_true c26; clear c26; replace H := Option.bind_eq_some_iff.mp H; obtain ⟨⟨t312, t313⟩, A270, H⟩ := H
    try dsimp only at H
    have A27 := Aside0.mk A270; clear A270; obtain ⟨y314, hy314⟩ : ∃ y_ : List Int, y_ = (([a4, wrap64 (3 * a4), t312] : List Int)) := ⟨_, rfl⟩; (replace H : ((swarfkit_Feed_Either.f t313 y314).bind fun bt317 => ((swarfkit_Feed_Below.f bt317.2 1500).bind fun bt319 => ((swarfkit_Feed_Below.f bt319.2 1500).bind fun bt321 => (if x310003_1.length < 5864062014805 then (swarfkit_VoyageOf.l0 k1 a2 a3 a4 (wrap64 (x12_1 - 1)) bt321.2 t296 t298 t305 (x310003_1 ++ [(⟨bt317.1, bt319.1, bt321.1⟩ : S85)]) t307) else (none))))) = some (r1, r2, r3, r4, r5, r6, r7, r8) := by first | (rw [hy314]; with_reducible exact H) | (have H2_ := (Option.bind_some _ _).symm.trans H; rw [hy314]; with_reducible exact H2_) | (have H2_ := (Option.bind_some _ _).symm.trans H; with_reducible exact H2_) | with_reducible exact H | (rw [hy314]; exact H) | exact H); have Ny314 := Aside0.mk hy314; clear hy314; replace H := Option.bind_eq_some_iff.mp H; obtain ⟨⟨t317, t318⟩, A280, H⟩ := H
    try dsimp only at H
    have A28 := Aside0.mk A280; clear A280; replace H := Option.bind_eq_some_iff.mp H; obtain ⟨⟨t319, t320⟩, A290, H⟩ := H
    try dsimp only at H
    have A29 := Aside0.mk A290; clear A290; replace H := Option.bind_eq_some_iff.mp H; obtain ⟨⟨t321, t322⟩, A300, H⟩ := H
    try dsimp only at H
    have A30 := Aside0.mk A300; clear A300; by_cases c31 : x310003_1.length < 5864062014805
    ·
     rw [if_pos c31] at H; have LMc31 := Aside0.mk c31; clear c31; obtain ⟨y323, hy323⟩ : ∃ y_ : List (S85), y_ = (x310003_1 ++ [(⟨t317, t319, t321⟩ : S85)]) := ⟨_, rfl⟩; (replace H : (swarfkit_VoyageOf.l0 k1 a2 a3 a4 (wrap64 (x12_1 - 1)) t322 t296 t298 t305 y323 t307) = some (r1, r2, r3, r4, r5, r6, r7, r8) := by first | (rw [hy323]; with_reducible exact H) | (have H2_ := (Option.bind_some _ _).symm.trans H; rw [hy323]; with_reducible exact H2_) | (have H2_ := (Option.bind_some _ _).symm.trans H; with_reducible exact H2_) | with_reducible exact H | (rw [hy323]; exact H) | exact H); have Ny323 := Aside0.mk hy323; clear hy323; have H' := Aside0.mk H; clear H
     try go_wp2
     replace HO_310003 := Aside0.mk (Kd.R_drew HO_310003.out); replace BK295 := Aside0.mk (blk_drew BK295.out); replace BK309 := Aside0.mk (blk_drew BK309.out); replace HI0 := Aside0.mk (IsS90.drew HI0.out); replace HK := Aside0.mk (keep_drew HK.out); replace HB := Aside0.mk (below_drew1 HB.out); refine start_ (n := 21) (S := fun w' => w'.cell? ⟨gb309, 0, none⟩ = some (.int .i64 t296) ∧ w'.cell? ⟨gb309, 1, none⟩ = some (.int .i64 t298) ∧ w'.cell? ⟨gb309, 2, none⟩ = some (.int .i64 t305) ∧ w'.cell? ⟨gb309, 3, none⟩ = some (u310003) ∧ w'.cell? ⟨gb309, 4, none⟩ = some (.int .i64 t307) ∧ w'.cell? ⟨gb309, 5, none⟩ = some (.slice none 0 0) ∧ w'.cell? ⟨gb309, 6, none⟩ = some (.slice none 0 0)) (ds := [20]) #[false, false, false, false, false, false, false, false, false, false, false, false, false, false, false, false, false, false, false, false, false] (by kernel_rfl) rfl rfl ⟨(blk_cell BK309.out 0).trans rfl, (blk_cell BK309.out 1).trans rfl, (blk_cell BK309.out 2).trans rfl, (blk_cell BK309.out 3).trans rfl, (blk_cell BK309.out 4).trans rfl, (blk_cell BK309.out 5).trans rfl, (blk_cell BK309.out 6).trans rfl⟩ (fun hHeld => ?_); refine with_tabW swarfkit_VoyageOf.tab5 swarfkit_VoyageOf.bits5 (fun HT_ HW_ => ?_); generalize wr.drew = w32 at HO_310003 BK295 BK309 HI0 HK HB hHeld ⊢; refine pure_t 0 (some 37) (bz 21 1) HT_ ?_; refine pure_t 2 (some 39) (bz 21 5) HT_ ?_; refine pure_t 3 (some 40) (bz 21 13) HT_ ?_; refine pure_t 4 (some 41) (bz 21 29) HT_ ?_; refine pure_t 5 (some 42) (bz 21 61) HT_ ?_; refine pure_t 6 (some 43) (bz 21 125) HT_ ?_; refine pure_t 7 (some 44) (bz 21 253) HT_ ?_; refine pure_t 8 (some 45) (bz 21 509) HT_ ?_; refine pure_t 12 (some 49) (bz 21 4605) HT_ ?_; refine pure_t 14 (some 51) (bz 21 20989) HT_ ?_; refine take_t 1 (some 38) (bz 21 20991) HT_ HW_ hHeld ?_; (refine one_t 9 (some 46) (bz 21 21503) HT_ fun K hK => ?_); refine goes_x Try.func33 #[.pointer (some ⟨g, 0, none⟩), .int .i64 (wrap64 (3 * a4))] ?_
     with_reducible refine (swarfkit_Feed_Below.calls g x1000_1 (wrap64 (3 * a4)) t312 t313 w0 _ ?side1 ?side2 A27.out).mono ?_
     (case side1 => exact IsS90.up HI0.out)
     (case side2 => exact below_y HB.out)
     rintro e w33 ⟨rfl, hi, hb, hk⟩; refine ⟨_, rfl, ?_⟩; replace HO_310003 := Aside0.mk (Kd.R_mono (Kd.R_keep (IsS90.apart (show IsS90 w0 _ g x1000_1 from by exact IsS90.up HI0.out) (Kd.R_x HO_310003.out) (by decide)) hk (fun _ h => h.2)) (fun _ h => h.1)); replace BK295 := Aside0.mk (KeepBut.blk hk (blk_x BK295.out) NB295_0.out (by simp)); replace BK309 := Aside0.mk (KeepBut.blk hk (blk_x BK309.out) NB309_0.out (by simp)); replace HK := Aside0.mk (KeepBut.trans (by exact keep_y HK.out) hk (.inl rfl)); replace HB := Aside0.mk (hb); replace HI0 := Aside0.mk (hi)
     (try clear hb)
     (try clear hb2)
     (try clear hk)
     (try clear hi)
     refine hK.out _ _ (bcs_y BK309) (fun hHeld => ?_); clear hK K; refine norm_y (some 46) ?_; (refine one_t 10 (some 47) (bz 21 22527) HT_ fun K hK => ?_); refine Kd.R_lit_step (Kd.int .i64) _ 3 ?hg (N := 47) ?hd (xs := ([a4, wrap64 (3 * a4), t312] : List Int)) (inner := [.int .i64 a4, .int .i64 (wrap64 (3 * a4)), .int .i64 t312]) (ok := fun _ => True) (okp := fun _ => True) ?hr ?hp (fun _ hk => hk) trivial (Below.refl _ _) (Nat.le_refl _) (by simp) ?_; (case hd => rfl); (case hg => rfl); (case hr => first | (go_simp; done) | (go_simp; rfl)); (case hp => exact (Reps.one (show Kd.M (Kd.int .i64) _ _ _ a4 [.int .i64 a4] from rfl) (Reps.one (show Kd.M (Kd.int .i64) _ _ _ (wrap64 (3 * a4)) [.int .i64 (wrap64 (3 * a4))] from rfl) (Reps.one (show Kd.M (Kd.int .i64) _ _ _ t312 [.int .i64 t312] from rfl) (Reps.none _ _))))); intro v315 w34 ho35 hb hg_ hnew_; clear hg_ hnew_
     (first | rw [← Ny314.out] at ho35 | (simp only [Int.reduceToNat] at ho35; rw [← Ny314.out] at ho35))
     replace HO_310003 := Aside0.mk (Kd.R_below (Kd.R_x HO_310003.out) hb); have HO316 := Aside0.mk (Kd.R_lower ho35 (keep_size (w := w) (g := g) (row := none) (by exact keep_y HK.out))); replace BK295 := bk_x BK295 hb; replace BK309 := bk_x BK309 hb; replace HI0 := Aside0.mk (IsS90.below (by exact IsS90.up HI0.out) hb); replace HK := Aside0.mk (KeepBut.trans (by exact keep_y HK.out) (KeepBut.of_below hb g none) (.inl rfl)); replace HB := bl_x HB hb; clear hb ho35; obtain ⟨Ao36, co36, eo36⟩ := Kd.R_slice HO316.out
     (first | subst eo36 | (injection eo36 with f1_ f2_ f3_; have f4_ := f1_.symm; have f5_ := f3_.symm; clear f1_ f2_ f3_; subst f4_; subst f5_))
     refine hK.out _ _ (bcs_y BK309) (fun hHeld => ?_); clear hK K; refine norm_y (some 47) ?_; (refine one_t 11 (some 48) (bz 21 24575) HT_ fun K hK => ?_); refine goes_x Try.func18 #[.pointer (some ⟨g, 0, none⟩), .slice Ao36 y314.length co36] ?_
     with_reducible refine (swarfkit_Feed_Either.calls g t313 _ _ y314 t317 t318 w0 _ ?side1 ?side2 ?side3 ?side4 ?side5 A28.out).mono ?_
     (case side1 => exact IsS90.up HI0.out)
     (case side2 => exact below_y HB.out)
     (case side3 => exact Kd.C_y (Kd.R_reads' HO316.out).2.2)
     (case side4 => exact (Kd.R_reads' HO316.out).2.1)
     (case side5 => exact far_slice (IsS90.own_ne HI0.out HO316.out (by decide)))
     rintro e w37 ⟨rfl, hi, hb, hk⟩; refine ⟨_, rfl, ?_⟩; replace HO_310003 := Aside0.mk (Kd.R_mono (Kd.R_keep (IsS90.apart (show IsS90 w0 _ g t313 from by exact IsS90.up HI0.out) (Kd.R_x HO_310003.out) (by decide)) hk (fun _ h => h.2)) (fun _ h => h.1)); replace BK295 := Aside0.mk (KeepBut.blk hk (blk_x BK295.out) NB295_0.out (by simp)); replace BK309 := Aside0.mk (KeepBut.blk hk (blk_x BK309.out) NB309_0.out (by simp)); replace HO316 := Aside0.mk (Kd.R_mono (Kd.R_keep (IsS90.apart (show IsS90 w0 _ g t313 from by exact IsS90.up HI0.out) (Kd.R_x HO316.out) (by decide)) hk (fun _ h => h.2)) (fun _ h => h.1)); replace HK := Aside0.mk (KeepBut.trans (by exact keep_y HK.out) hk (.inl rfl)); replace HB := Aside0.mk (hb); replace HI0 := Aside0.mk (hi)
     (try clear hb)
     (try clear hb2)
     (try clear hk)
     (try clear hi)
     refine hK.out _ _ (bcs_y BK309) (fun hHeld => ?_); clear hK K; refine norm_y (some 48) ?_; (refine one_t 13 (some 50) (bz 21 32767) HT_ fun K hK => ?_); refine goes_x Try.func33 #[.pointer (some ⟨g, 0, none⟩), .int .i64 1500] ?_
     with_reducible refine (swarfkit_Feed_Below.calls g t318 1500 t319 t320 w0 _ ?side1 ?side2 A29.out).mono ?_
     (case side1 => exact IsS90.up HI0.out)
     (case side2 => exact below_y HB.out)
     rintro e w38 ⟨rfl, hi, hb, hk⟩; refine ⟨_, rfl, ?_⟩; replace HO_310003 := Aside0.mk (Kd.R_mono (Kd.R_keep (IsS90.apart (show IsS90 w0 _ g t318 from by exact IsS90.up HI0.out) (Kd.R_x HO_310003.out) (by decide)) hk (fun _ h => h.2)) (fun _ h => h.1)); replace BK295 := Aside0.mk (KeepBut.blk hk (blk_x BK295.out) NB295_0.out (by simp)); replace BK309 := Aside0.mk (KeepBut.blk hk (blk_x BK309.out) NB309_0.out (by simp)); replace HO316 := Aside0.mk (Kd.R_mono (Kd.R_keep (IsS90.apart (show IsS90 w0 _ g t318 from by exact IsS90.up HI0.out) (Kd.R_x HO316.out) (by decide)) hk (fun _ h => h.2)) (fun _ h => h.1)); replace HK := Aside0.mk (KeepBut.trans (by exact keep_y HK.out) hk (.inl rfl)); replace HB := Aside0.mk (hb); replace HI0 := Aside0.mk (hi)
     (try clear hb)
     (try clear hb2)
     (try clear hk)
     (try clear hi)
     refine hK.out _ _ (bcs_y BK309) (fun hHeld => ?_); clear hK K; refine norm_y (some 50) ?_; (refine one_t 15 (some 52) (bz 21 65535) HT_ fun K hK => ?_); refine goes_x Try.func33 #[.pointer (some ⟨g, 0, none⟩), .int .i64 1500] ?_
     with_reducible refine (swarfkit_Feed_Below.calls g t320 1500 t321 t322 w0 _ ?side1 ?side2 A30.out).mono ?_
     (case side1 => exact IsS90.up HI0.out)
     (case side2 => exact below_y HB.out)
     rintro e w39 ⟨rfl, hi, hb, hk⟩; refine ⟨_, rfl, ?_⟩; replace HO_310003 := Aside0.mk (Kd.R_mono (Kd.R_keep (IsS90.apart (show IsS90 w0 _ g t320 from by exact IsS90.up HI0.out) (Kd.R_x HO_310003.out) (by decide)) hk (fun _ h => h.2)) (fun _ h => h.1)); replace BK295 := Aside0.mk (KeepBut.blk hk (blk_x BK295.out) NB295_0.out (by simp)); replace BK309 := Aside0.mk (KeepBut.blk hk (blk_x BK309.out) NB309_0.out (by simp)); replace HO316 := Aside0.mk (Kd.R_mono (Kd.R_keep (IsS90.apart (show IsS90 w0 _ g t320 from by exact IsS90.up HI0.out) (Kd.R_x HO316.out) (by decide)) hk (fun _ h => h.2)) (fun _ h => h.1)); replace HK := Aside0.mk (KeepBut.trans (by exact keep_y HK.out) hk (.inl rfl)); replace HB := Aside0.mk (hb); replace HI0 := Aside0.mk (hi)
     (try clear hb)
     (try clear hb2)
     (try clear hk)
     (try clear hi)
     refine hK.out _ _ (bcs_y BK309) (fun hHeld => ?_); clear hK K; refine norm_y (some 52) ?_; refine pure_t 16 (some 53) (bz 21 131071) HT_ ?_; (refine one_t 17 (some 54) (bz 21 262143) HT_ fun K hK => ?_); refine value_ (w1 := ?_) (v := ?_) (by rfl) rfl ?_ ?_; rotate_left 2
     ·
      go_simp
      constructor
      ·
       rfl
      ·
       rfl
     refine hK.out _ _ ⟨(blk_cell (blk_alloc BK309.out _) 0).trans rfl, (blk_cell (blk_alloc BK309.out _) 1).trans rfl, (blk_cell (blk_alloc BK309.out _) 2).trans rfl, (blk_cell (blk_alloc BK309.out _) 3).trans rfl, (blk_cell (blk_alloc BK309.out _) 4).trans rfl, (blk_cell (blk_alloc BK309.out _) 5).trans rfl, (blk_cell (blk_alloc BK309.out _) 6).trans rfl⟩ (fun hHeld => ?_); clear hK K; refine norm_y (some 54) ?_; (refine one_t 18 (some 55) (bz 21 524287) HT_ fun K hK => ?_); refine Kd.R_append_step k85 w.heap.size (by rfl) (.tmp 38) (.tmp 54) 22 85 (.agg #[(.int .i64 0), (.int .i64 0), (.int .i64 0)]) 24 rfl Try.underlying22 info85 rfl (by decide) (by omega) u310003 x310003_1 (⟨t317, t319, t321⟩ : S85) [.int .i64 t317, .int .i64 t319, .int .i64 t321] (fun _ => True) (fun _ => False) rfl rfl ?aP (fun _ hk => hk.elim) ?aF ?aO (Below.refl _ _) ?aS ?aL ?_
     (case aP => exact k85_mkM _ _ _ (⟨t317, t319, t321⟩ : S85))
     (case aF => exact (fun _ _ => trivial))
     (case aO => exact (Kd.R_x HO_310003.out))
     (case aS => exact (keep_size (w := w) (g := g) (row := none) (by exact keep_y HK.out)))
     (case aL => have := LMc31.out; omega)
     intro v324 w40 ho hb hg hat; rw [← Ny323.out] at ho; replace BK295 := Aside0.mk (blk_grown (blk_x BK295.out) hg (Kd.R_ne HO_310003.out BK295.out (by decide))); replace BK309 := Aside0.mk (blk_grown (blk_x BK309.out) hg (Kd.R_ne HO_310003.out BK309.out (by decide))); replace HI0 := Aside0.mk (IsS90.grown (by exact IsS90.up HI0.out) hg (IsS90.own_ne HI0.out HO_310003.out (by decide))); replace HO316 := Aside0.mk (Kd.R_over' (Kd.R_x HO316.out) (Kd.R_typed (Kd.R_x HO_310003.out)) (by decide) hg); replace HB := Aside0.mk (below_weaken (by exact below_y HB.out) HL.out hb); replace HK := Aside0.mk (KeepBut.trans (by exact keep_y HK.out) (KeepBut.of_grown hg g) (Kd.R_base2 HO_310003.out)); have HO325 := Aside0.mk (ho); clear HO_310003 ho hb hg hat; obtain ⟨Ao41, co41, eo41⟩ := Kd.R_slice HO325.out
     (first | subst eo41 | (injection eo41 with f1_ f2_ f3_; have f4_ := f1_.symm; have f5_ := f3_.symm; clear f1_ f2_ f3_; subst f4_; subst f5_))
     refine hK.out _ _ (bcs_y BK309) (fun hHeld => ?_); clear hK K; refine norm_y (some 55) ?_; refine pure_t 19 (some 56) (bz 21 1048575) HT_ ?_; refine last_ (i := 20) (N := none) (bz 21 2097151) rfl rfl (one_of HT_.out (by kernel_rfl)) (by decide) (fun K hK => ?_); have hs42 : w40.cell? ⟨gb309, 3, none⟩ = some (u310003) := (blk_cell BK309.out 3).trans rfl; have hfs42 := blk_frozen BK309.out 3; have hns42_0 := NB295_309.out; have hms42_0 := NB309_295.out; refine skip_ (w1 := ?_) (by rfl) rfl ?_ ?_; rotate_left
     ·
      go_simp
      rfl
     refine hK.out _ _ ?_; clear hK K; refine done_ (done_of HT_.out (by kernel_rfl)) ?_
     try go_wp2
     go_roundg k1
     case measure => have := HK1.out; omega
     case rel => exact ⟨(wrap64 (x12_1 - 1)), (t322), (y323), (.slice Ao41 y323.length co41), (by first | rfl | (simp; done) | (simp [*]; done)), H', ⟨by have := HK1.out; omega⟩, ⟨by (with_reducible repeat (first | apply Kd.R_alloc | apply Kd.R_drewN | apply Kd.R_drew)); exact Kd.R_mono (Kd.R_far (p := ⟨gb309, 3, none⟩) (Kd.R_types HO325.out BK309.out (by decide)) (fun _ hk => hk.2) (.slice Ao41 y323.length co41)) (fun _ hk => trivial)⟩, ⟨blk_w BK295.out⟩, ⟨blk_z BK309.out⟩, ⟨by exact IsS90.up HI0.out⟩, ⟨by exact keep_y HK.out⟩, ⟨by exact below_y HB.out⟩⟩
    ·
     rw [if_neg c31] at H; exact absurd H (by simp)
   ·
    rw [if_neg c26] at H; have c26b0 : decide (0 < x12_1) = false := decide_eq_false c26; clear c26; replace H := Option.bind_eq_some_iff.mp H; obtain ⟨⟨t326, t327⟩, A430, H⟩ := H
    try dsimp only at H
    have A43 := Aside0.mk A430; clear A430; have H' := Aside0.mk H; clear H
    go_wp2_with (first | (refine goesG_x 33 rfl (some 60) Try.func33 #[.pointer (some ⟨g, 0, none⟩), .int .i64 (wrap64 (a2 + 1))] ?_; (with_reducible refine (swarfkit_Feed_Below.calls g x1000_1 (wrap64 (a2 + 1)) t326 t327 w0 _ ?side1 ?side2 A43.out).mono ?_); (case side1 => exact IsS90.up HI0.out); (case side2 => exact below_y HB.out); rintro e w44 ⟨rfl, hi, hb, hk⟩; refine ⟨_, rfl, ?_⟩; replace HO_310003 := Aside0.mk (Kd.R_mono (Kd.R_keep (IsS90.apart (show IsS90 w0 _ g x1000_1 from by exact IsS90.up HI0.out) (Kd.R_x HO_310003.out) (by decide)) hk (fun _ h => h.2)) (fun _ h => h.1)); replace BK295 := Aside0.mk (KeepBut.blk hk (blk_x BK295.out) NB295_0.out (by simp)); replace BK309 := Aside0.mk (KeepBut.blk hk (blk_x BK309.out) NB309_0.out (by simp)); replace HK := Aside0.mk (KeepBut.trans (by exact keep_y HK.out) hk (.inl rfl)); replace HB := Aside0.mk (hb); replace HI0 := Aside0.mk (hi); (try clear hb); (try clear hk); (try clear hi)))
    go_loopg [13] k1 (fun kq v13 w' => ∃ (x13_2 : Int) (x1000_2 : Int) (x310005_2 : List (S59)) (u310005 : Value), v13 = .int .i64 x13_2 ∧ Aside0 (swarfkit_VoyageOf.l1 kq a3 a4 x13_2 x1000_2 t296 t298 t305 x310003_1 t307 x310005_2 = some (r1, r2, r3, r4, r5, r6, r7, r8)) ∧ Aside0 (kq ≤ k1) ∧ Aside0 (Kd.R k85 85 w' w.heap.size (fun _ => True) u310003 x310003_1) ∧ Aside0 (Kd.S k59 59 w' w.heap.size (fun _ => True) u310005 x310005_2) ∧ Aside0 (w'.heap[gb295]? = some (.cells #[.int .i64 0, .int .i64 0, .int .i64 0, (.slice none 0 0), .int .i64 0, (.slice none 0 0), (.slice none 0 0)] 26 (0, 0))) ∧ Aside0 (w'.heap[gb309]? = some (.cells #[.int .i64 t296, .int .i64 t298, .int .i64 t305, u310003, .int .i64 t307, u310005, (.slice none 0 0)] 26 (0, 0))) ∧ Aside0 (IsS90 w0 w' g x1000_2) ∧ Aside0 (KeepBut w w' g none) ∧ Aside0 (Below w0.heap.size w0 w'))
    case atStart => exact ⟨(t326), (t327), (([] : List (S59))), (.slice none 0 0), (by first | rfl | (simp; done) | (simp [*]; done)), H', ⟨Nat.le_refl _⟩, ⟨by (with_reducible repeat (first | apply Kd.R_alloc | apply Kd.R_drewN | apply Kd.R_drew)); exact HO_310003.out⟩, ⟨by first | exact Kd.S_nil _ _ _ _ _ | exact Kd.N_nil _ _ _ _ _ | exact Kd.V_nil _ _ _ _ _ | exact Kd.Q_nil _ _ _ _ _ | exact Kd.R_nil _ _ _ _ _⟩, ⟨blk_x BK295.out⟩, ⟨blk_x BK309.out⟩, ⟨by exact IsS90.up HI0.out⟩, ⟨by exact keep_y HK.out⟩, ⟨by exact below_y HB.out⟩⟩
    case round =>
     clear H'; obtain ⟨x13_2, x1000_2, x310005_2, u310005, rfl, HA, HK2, HO_310003, HO_310005, BK295, BK309, HI0, HK, HB⟩ := hrel; cases gk with
     | zero => exact absurd HA.out (by simp [swarfkit_VoyageOf.l1])
     | succ k2 =>
      have H := HA.out; clear HA; simp only [swarfkit_VoyageOf.l1] at H; by_cases c45 : x13_2 > 0
      ·
       rw [if_pos c45] at H; have c45b0 : decide (0 < x13_2) = true := decide_eq_true c45; clear c45; obtain ⟨y328, hy328⟩ : ∃ y_ : List Int, y_ = (([3, 12] : List Int)) := ⟨_, rfl⟩; (replace H : ((swarfkit_Feed_Either.f x1000_2 y328).bind fun bt331 => ((swarfkit_Feed_Range.f bt331.2 0 bt331.1).bind fun bt333 => ((swarfkit_Feed_Between.f bt333.2.2 1 4).bind fun bt337 => (swarfkit_VoyageOf.l2 k2 a3 a4 x13_2 0 bt337.1 bt337.2 t296 t298 t305 x310003_1 t307 x310005_2 bt333.1 bt333.2.1 ([] : List (S62)))))) = some (r1, r2, r3, r4, r5, r6, r7, r8) := by first | (rw [hy328]; with_reducible exact H) | (have H2_ := (Option.bind_some _ _).symm.trans H; rw [hy328]; with_reducible exact H2_) | (have H2_ := (Option.bind_some _ _).symm.trans H; with_reducible exact H2_) | with_reducible exact H | (rw [hy328]; exact H) | exact H); have Ny328 := Aside0.mk hy328; clear hy328; replace H := Option.bind_eq_some_iff.mp H; obtain ⟨⟨t331, t332⟩, A460, H⟩ := H
       try dsimp only at H
       have A46 := Aside0.mk A460; clear A460; replace H := Option.bind_eq_some_iff.mp H; obtain ⟨⟨t333, t334, t335⟩, A470, H⟩ := H
       try dsimp only at H
       have A47 := Aside0.mk A470; clear A470; replace H := Option.bind_eq_some_iff.mp H; obtain ⟨⟨t337, t338⟩, A480, H⟩ := H
       try dsimp only at H
       have A48 := Aside0.mk A480; clear A480; have H' := Aside0.mk H; clear H
       go_wp2_with (first | ((with_reducible refine gate_dst (N := 67) rfl ?_); refine Kd.R_lit (Kd.int .i64) _ 3 ?hg (N := 67) ?hd (xs := ([3, 12] : List Int)) (inner := [.int .i64 3, .int .i64 12]) (ok := fun _ => True) (okp := fun _ => True) ?hr ?hp (fun _ hk => hk) trivial (Below.refl _ _) (Nat.le_refl _) (by simp) ?_; (case hd => rfl); (case hg => rfl); (case hr => first | (go_simp; done) | (go_simp; rfl)); (case hp => exact (Reps.one (show Kd.M (Kd.int .i64) _ _ _ 3 [.int .i64 3] from rfl) (Reps.one (show Kd.M (Kd.int .i64) _ _ _ 12 [.int .i64 12] from rfl) (Reps.none _ _)))); intro v329 w49 ho50 hb hg_ hnew_; clear hg_ hnew_; (first | rw [← Ny328.out] at ho50 | (simp only [Int.reduceToNat] at ho50; rw [← Ny328.out] at ho50)); replace HO_310003 := Aside0.mk (Kd.R_below (Kd.R_x HO_310003.out) hb); replace HO_310005 := Aside0.mk (Kd.S_below (Kd.S_x HO_310005.out) hb); have HO330 := Aside0.mk (Kd.R_lower ho50 (keep_size (w := w) (g := g) (row := none) (by exact keep_y HK.out))); replace BK295 := bk_x BK295 hb; replace BK309 := bk_x BK309 hb; replace HI0 := Aside0.mk (IsS90.below (by exact IsS90.up HI0.out) hb); replace HK := Aside0.mk (KeepBut.trans (by exact keep_y HK.out) (KeepBut.of_below hb g none) (.inl rfl)); replace HB := bl_x HB hb; clear hb ho50; obtain ⟨Ao51, co51, eo51⟩ := Kd.R_slice HO330.out; subst eo51) | (refine goesG_x 18 rfl (some 68) Try.func18 #[.pointer (some ⟨g, 0, none⟩), .slice Ao51 y328.length co51] ?_; (with_reducible refine (swarfkit_Feed_Either.calls g x1000_2 _ _ y328 t331 t332 w0 _ ?side1 ?side2 ?side3 ?side4 ?side5 A46.out).mono ?_); (case side1 => exact IsS90.up HI0.out); (case side2 => exact below_y HB.out); (case side3 => exact Kd.C_y (Kd.R_reads' HO330.out).2.2); (case side4 => exact (Kd.R_reads' HO330.out).2.1); (case side5 => exact far_slice (IsS90.own_ne HI0.out HO330.out (by decide))); rintro e w52 ⟨rfl, hi, hb, hk⟩; refine ⟨_, rfl, ?_⟩; replace HO_310003 := Aside0.mk (Kd.R_mono (Kd.R_keep (IsS90.apart (show IsS90 w0 _ g x1000_2 from by exact IsS90.up HI0.out) (Kd.R_x HO_310003.out) (by decide)) hk (fun _ h => h.2)) (fun _ h => h.1)); replace HO_310005 := Aside0.mk (Kd.S_mono (Kd.S_keep (IsS90.apartS (show IsS90 w0 _ g x1000_2 from by exact IsS90.up HI0.out) (Kd.S_x HO_310005.out) (by decide)) hk (fun _ h => h.2)) (fun _ h => h.1)); replace BK295 := Aside0.mk (KeepBut.blk hk (blk_x BK295.out) NB295_0.out (by simp)); replace BK309 := Aside0.mk (KeepBut.blk hk (blk_x BK309.out) NB309_0.out (by simp)); replace HO330 := Aside0.mk (Kd.R_mono (Kd.R_keep (IsS90.apart (show IsS90 w0 _ g x1000_2 from by exact IsS90.up HI0.out) (Kd.R_x HO330.out) (by decide)) hk (fun _ h => h.2)) (fun _ h => h.1)); replace HK := Aside0.mk (KeepBut.trans (by exact keep_y HK.out) hk (.inl rfl)); replace HB := Aside0.mk (hb); replace HI0 := Aside0.mk (hi); (try clear hb); (try clear hk); (try clear hi)) | (refine goesG_x 54 rfl (some 69) Try.func54 #[.pointer (some ⟨g, 0, none⟩), .int .i64 0, .int .i64 t331] ?_; (with_reducible refine (swarfkit_Feed_Range.calls g t332 0 t331 t333 t334 t335 w0 _ ?side1 ?side2 A47.out).mono ?_); (case side1 => exact IsS90.up HI0.out); (case side2 => exact below_y HB.out); rintro e w53 ⟨rfl, hi, hb, hk⟩; refine ⟨_, rfl, ?_⟩; replace HO_310003 := Aside0.mk (Kd.R_mono (Kd.R_keep (IsS90.apart (show IsS90 w0 _ g t332 from by exact IsS90.up HI0.out) (Kd.R_x HO_310003.out) (by decide)) hk (fun _ h => h.2)) (fun _ h => h.1)); replace HO_310005 := Aside0.mk (Kd.S_mono (Kd.S_keep (IsS90.apartS (show IsS90 w0 _ g t332 from by exact IsS90.up HI0.out) (Kd.S_x HO_310005.out) (by decide)) hk (fun _ h => h.2)) (fun _ h => h.1)); replace BK295 := Aside0.mk (KeepBut.blk hk (blk_x BK295.out) NB295_0.out (by simp)); replace BK309 := Aside0.mk (KeepBut.blk hk (blk_x BK309.out) NB309_0.out (by simp)); replace HO330 := Aside0.mk (Kd.R_mono (Kd.R_keep (IsS90.apart (show IsS90 w0 _ g t332 from by exact IsS90.up HI0.out) (Kd.R_x HO330.out) (by decide)) hk (fun _ h => h.2)) (fun _ h => h.1)); replace HK := Aside0.mk (KeepBut.trans (by exact keep_y HK.out) hk (.inl rfl)); replace HB := Aside0.mk (hb); replace HI0 := Aside0.mk (hi); (try clear hb); (try clear hk); (try clear hi)) | (refine box_r (N := 14) rfl (cs := #[.int .i64 0, .int .i64 0, .slice none 0 0]) (t := 59) ?_; intro gb336 hg w54 hbox hb; replace HO_310003 := Aside0.mk (Kd.R_below (Kd.R_x HO_310003.out) hb); replace HO_310005 := Aside0.mk (Kd.S_below (Kd.S_elderB (Kd.S_x HO_310005.out) gb336 (Nat.le_of_eq hg.symm)) hb); replace HO330 := Aside0.mk (Kd.R_below (Kd.R_x HO330.out) hb); replace HB := bl_x HB hb; have BK336 := Aside0.mk (hbox); have GW336 := Aside0.mk ((by rw [hg]; exact (keep_size (w := w) (g := g) (row := none) (by exact keep_y HK.out)) : w.heap.size ≤ gb336)); have GE336 := Aside0.mk ((Nat.le_trans HW0.out (by rw [hg]; exact (keep_size (w := w) (g := g) (row := none) (by exact keep_y HK.out)) : w.heap.size ≤ gb336) : w0.heap.size ≤ gb336)); replace HK := Aside0.mk (KeepBut.trans (by exact keep_y HK.out) (KeepBut.of_below hb g none) (.inl rfl)); have NB295_336 := nb_x hg BK295; have NB336_295 := nb_y hg BK295; replace BK295 := bk_x BK295 hb; have NB309_336 := nb_x hg BK309; have NB336_309 := nb_y hg BK309; replace BK309 := bk_x BK309 hb; have NB0_336 := Aside0.mk ((by rw [hg]; exact Nat.ne_of_lt (IsS90.lt (show IsS90 w0 _ g t335 from by exact IsS90.up HI0.out)) : g ≠ gb336)); have NB336_0 := Aside0.mk ((by rw [hg]; exact Nat.ne_of_gt (IsS90.lt (show IsS90 w0 _ g t335 from by exact IsS90.up HI0.out)) : gb336 ≠ g)); replace HI0 := Aside0.mk (IsS90.below (by exact IsS90.up HI0.out) hb); clear hb hbox hg; have hnb55 := NB336_295.out; have hnc55 := NB295_336.out; have hnb56 := NB336_309.out; have hnc56 := NB309_336.out; have hnb57 := NB336_0.out; have hnc57 := NB0_336.out; obtain ⟨hfz58_0, _, _, _⟩ := cf3 BK336) | (refine goesG_x 31 rfl (some 72) Try.func31 #[.pointer (some ⟨g, 0, none⟩), .int .i64 1, .int .i64 4] ?_; (with_reducible refine (swarfkit_Feed_Between.calls g t335 1 4 t337 t338 w0 _ ?side1 ?side2 A48.out).mono ?_); (case side1 => exact IsS90.up HI0.out); (case side2 => exact below_y HB.out); rintro e w59 ⟨rfl, hi, hb, hk⟩; refine ⟨_, rfl, ?_⟩; replace HO_310003 := Aside0.mk (Kd.R_mono (Kd.R_keep (IsS90.apart (show IsS90 w0 _ g t335 from by exact IsS90.up HI0.out) (by (with_reducible repeat (first | apply Kd.R_alloc | apply Kd.R_drewN | apply Kd.R_drew)); exact (Kd.R_mono (Kd.R_far (p := ⟨gb336, 2, none⟩) (Kd.R_far (p := ⟨gb336, 1, none⟩) (Kd.R_far (p := ⟨gb336, 0, none⟩) (Kd.R_types HO_310003.out BK336.out (by decide)) (fun _ hk => hk.2) (.int .i64 t333)) (fun _ hk => hk.2) (.int .i64 t334)) (fun _ hk => hk.2) (.slice none 0 0)) (fun _ h_ => h_.1))) (by decide)) hk (fun _ h => h.2)) (fun _ h => h.1)); replace HO_310005 := Aside0.mk (Kd.S_mono (Kd.S_keep (IsS90.apartS (show IsS90 w0 _ g t335 from by exact IsS90.up HI0.out) (by (with_reducible repeat (first | apply Kd.S_alloc | apply Kd.S_drewN | apply Kd.S_drew)); exact (Kd.S_mono (Kd.S_far (p := ⟨gb336, 2, none⟩) (Kd.S_far (p := ⟨gb336, 1, none⟩) (Kd.S_far (p := ⟨gb336, 0, none⟩) (Kd.S_mono HO_310005.out (fun k_ hk => (⟨hk, hk.2⟩ : _ ∧ k_ ≠ gb336))) (fun _ hk => hk.2) (.int .i64 t333)) (fun _ hk => hk.2) (.int .i64 t334)) (fun _ hk => hk.2) (.slice none 0 0)) (fun _ h_ => h_.1))) (by decide)) hk (fun _ h => h.2)) (fun _ h => h.1)); replace BK295 := Aside0.mk (KeepBut.blk hk (g' := gb295) (o := .cells #[.int .i64 0, .int .i64 0, .int .i64 0, .slice none 0 0, .int .i64 0, .slice none 0 0, .slice none 0 0] 26 (0, 0)) (blk_w BK295.out) NB295_0.out (by simp)); replace BK309 := Aside0.mk (KeepBut.blk hk (g' := gb309) (o := .cells #[.int .i64 t296, .int .i64 t298, .int .i64 t305, u310003, .int .i64 t307, u310005, .slice none 0 0] 26 (0, 0)) (blk_w BK309.out) NB309_0.out (by simp)); replace HO330 := Aside0.mk (Kd.R_mono (Kd.R_keep (IsS90.apart (show IsS90 w0 _ g t335 from by exact IsS90.up HI0.out) (by (with_reducible repeat (first | apply Kd.R_alloc | apply Kd.R_drewN | apply Kd.R_drew)); exact (Kd.R_mono (Kd.R_far (p := ⟨gb336, 2, none⟩) (Kd.R_far (p := ⟨gb336, 1, none⟩) (Kd.R_far (p := ⟨gb336, 0, none⟩) (Kd.R_types HO330.out BK336.out (by decide)) (fun _ hk => hk.2) (.int .i64 t333)) (fun _ hk => hk.2) (.int .i64 t334)) (fun _ hk => hk.2) (.slice none 0 0)) (fun _ h_ => h_.1))) (by decide)) hk (fun _ h => h.2)) (fun _ h => h.1)); replace BK336 := Aside0.mk (KeepBut.blk hk (g' := gb336) (o := .cells #[.int .i64 t333, .int .i64 t334, .slice none 0 0] 59 (0, 0)) (blk_z BK336.out) NB336_0.out (by simp)); replace HK := Aside0.mk (KeepBut.trans (by exact keep_y HK.out) hk (.inl rfl)); replace HB := Aside0.mk (hb); replace HI0 := Aside0.mk (hi); (try clear hb); (try clear hk); (try clear hi)))
       go_loopg [15, 16] k2 (fun kq v15 v16 w' => ∃ (x15_3 : Int) (x16_3 : Int) (x1000_3 : Int) (x337002_3 : List (S62)) (u337002 : Value), v15 = .int .i64 x15_3 ∧ v16 = .int .i64 x16_3 ∧ Aside0 (swarfkit_VoyageOf.l2 kq a3 a4 x13_2 x15_3 x16_3 x1000_3 t296 t298 t305 x310003_1 t307 x310005_2 t333 t334 x337002_3 = some (r1, r2, r3, r4, r5, r6, r7, r8)) ∧ Aside0 (kq ≤ k2) ∧ Aside0 (Kd.R k85 85 w' w.heap.size (fun _ => True) u310003 x310003_1) ∧ Aside0 (Kd.S k59 59 w' w.heap.size (fun k_ => some k_ ≠ (u337002 : Value).ownBlock ∧ k_ ≠ gb336) u310005 x310005_2) ∧ Aside0 (Kd.R k62 62 w' w.heap.size (fun _ => True) u337002 x337002_3) ∧ Aside0 (w'.heap[gb295]? = some (.cells #[.int .i64 0, .int .i64 0, .int .i64 0, (.slice none 0 0), .int .i64 0, (.slice none 0 0), (.slice none 0 0)] 26 (0, 0))) ∧ Aside0 (w'.heap[gb309]? = some (.cells #[.int .i64 t296, .int .i64 t298, .int .i64 t305, u310003, .int .i64 t307, u310005, (.slice none 0 0)] 26 (0, 0))) ∧ Aside0 (w'.heap[gb336]? = some (.cells #[.int .i64 t333, .int .i64 t334, u337002] 59 (0, 0))) ∧ Aside0 (IsS90 w0 w' g x1000_3) ∧ Aside0 (KeepBut w w' g none) ∧ Aside0 (Below w0.heap.size w0 w'))
       case atStart => exact ⟨(0), (t337), (t338), (([] : List (S62))), (.slice none 0 0), (by first | rfl | (simp; done) | (simp [*]; done)), (by first | rfl | (simp; done) | (simp [*]; done)), H', ⟨Nat.le_refl _⟩, ⟨by (with_reducible repeat (first | apply Kd.R_alloc | apply Kd.R_drewN | apply Kd.R_drew)); exact HO_310003.out⟩, ⟨by (with_reducible repeat (first | apply Kd.S_alloc | apply Kd.S_drewN | apply Kd.S_drew)); exact Kd.S_mono HO_310005.out (fun _ hk => ⟨(by simp [Value.ownBlock]), hk.2⟩)⟩, ⟨by first | exact Kd.R_nil _ _ _ _ _ | exact Kd.N_nil _ _ _ _ _ | exact Kd.V_nil _ _ _ _ _ | exact Kd.Q_nil _ _ _ _ _ | exact Kd.S_nil _ _ _ _ _⟩, ⟨blk_x BK295.out⟩, ⟨blk_x BK309.out⟩, ⟨blk_x BK336.out⟩, ⟨by exact IsS90.up HI0.out⟩, ⟨by exact keep_y HK.out⟩, ⟨by exact below_y HB.out⟩⟩
       case round =>
        clear H'; obtain ⟨x15_3, x16_3, x1000_3, x337002_3, u337002, rfl, rfl, HA, HK3, HO_310003, HO_310005, HO_337002, BK295, BK309, BK336, HI0, HK, HB⟩ := hrel; cases gk with
        | zero => exact absurd HA.out (by simp [swarfkit_VoyageOf.l2])
        | succ k3 =>
         have H := HA.out; clear HA; simp only [swarfkit_VoyageOf.l2] at H; by_cases c60 : x16_3 > 0
         ·
          rw [if_pos c60] at H; have c60b0 : decide (0 < x16_3) = true := decide_eq_true c60; clear c60; replace H := Option.bind_eq_some_iff.mp H; obtain ⟨⟨t339, t340⟩, A610, H⟩ := H
          try dsimp only at H
          have A61 := Aside0.mk A610; clear A610; replace H := Option.bind_eq_some_iff.mp H; obtain ⟨⟨t341, t342, t343⟩, A620, H⟩ := H
          try dsimp only at H
          have A62 := Aside0.mk A620; clear A620; by_cases c63 : x337002_3.length < 5864062014805
          ·
           rw [if_pos c63] at H; have LMc63 := Aside0.mk c63; clear c63; obtain ⟨y344, hy344⟩ : ∃ y_ : List (S62), y_ = (x337002_3 ++ [(⟨x15_3, (⟨t341, t342⟩ : S56)⟩ : S62)]) := ⟨_, rfl⟩; (replace H : ((swarfkit_Feed_Between.f t343 1 9).bind fun bt347 => (swarfkit_VoyageOf.l2 k3 a3 a4 x13_2 (wrap64 (x15_3 + bt347.1)) (wrap64 (x16_3 - 1)) bt347.2 t296 t298 t305 x310003_1 t307 x310005_2 t333 t334 y344)) = some (r1, r2, r3, r4, r5, r6, r7, r8) := by first | (rw [hy344]; with_reducible exact H) | (have H2_ := (Option.bind_some _ _).symm.trans H; rw [hy344]; with_reducible exact H2_) | (have H2_ := (Option.bind_some _ _).symm.trans H; with_reducible exact H2_) | with_reducible exact H | (rw [hy344]; exact H) | exact H); have Ny344 := Aside0.mk hy344; clear hy344; replace H := Option.bind_eq_some_iff.mp H; obtain ⟨⟨t347, t348⟩, A640, H⟩ := H
           try dsimp only at H
           have A64 := Aside0.mk A640; clear A640; have H' := Aside0.mk H; clear H
           try go_wp2
           replace HO_310003 := Aside0.mk (Kd.R_drew HO_310003.out); replace HO_310005 := Aside0.mk (Kd.S_drew HO_310005.out); replace HO_337002 := Aside0.mk (Kd.R_drew HO_337002.out); replace BK295 := Aside0.mk (blk_drew BK295.out); replace BK309 := Aside0.mk (blk_drew BK309.out); replace BK336 := Aside0.mk (blk_drew BK336.out); replace HI0 := Aside0.mk (IsS90.drew HI0.out); replace HK := Aside0.mk (keep_drew HK.out); replace HB := Aside0.mk (below_drew1 HB.out); refine start_ (n := 15) (S := fun w' => w'.cell? ⟨gb336, 0, none⟩ = some (.int .i64 t333) ∧ w'.cell? ⟨gb336, 1, none⟩ = some (.int .i64 t334) ∧ w'.cell? ⟨gb336, 2, none⟩ = some (u337002)) (ds := [14]) #[false, false, false, false, false, false, false, false, false, false, false, false, false, false, false] (by kernel_rfl) rfl rfl ⟨(blk_cell BK336.out 0).trans rfl, (blk_cell BK336.out 1).trans rfl, (blk_cell BK336.out 2).trans rfl⟩ (fun hHeld => ?_); refine with_tabW swarfkit_VoyageOf.tab14 swarfkit_VoyageOf.bits14 (fun HT_ HW_ => ?_); generalize wr.drew = w65 at HO_310003 HO_310005 HO_337002 BK295 BK309 BK336 HI0 HK HB hHeld ⊢; refine pure_t 0 (some 77) (bz 15 1) HT_ ?_; refine pure_t 2 (some 79) (bz 15 5) HT_ ?_; refine pure_t 3 (some 80) (bz 15 13) HT_ ?_; refine pure_t 4 (some 81) (bz 15 29) HT_ ?_; refine pure_t 6 (some 83) (bz 15 93) HT_ ?_; refine pure_t 7 (some 84) (bz 15 221) HT_ ?_; refine pure_t 8 (some 85) (bz 15 477) HT_ ?_; refine take_t 1 (some 78) (bz 15 479) HT_ HW_ hHeld ?_; (refine one_t 5 (some 82) (bz 15 511) HT_ fun K hK => ?_); refine goes_x Try.func33 #[.pointer (some ⟨g, 0, none⟩), .int .i64 12] ?_
           with_reducible refine (swarfkit_Feed_Below.calls g x1000_3 12 t339 t340 w0 _ ?side1 ?side2 A61.out).mono ?_
           (case side1 => exact IsS90.up HI0.out)
           (case side2 => exact below_y HB.out)
           rintro e w66 ⟨rfl, hi, hb, hk⟩; refine ⟨_, rfl, ?_⟩; replace HO_310003 := Aside0.mk (Kd.R_mono (Kd.R_keep (IsS90.apart (show IsS90 w0 _ g x1000_3 from by exact IsS90.up HI0.out) (Kd.R_x HO_310003.out) (by decide)) hk (fun _ h => h.2)) (fun _ h => h.1)); replace HO_310005 := Aside0.mk (Kd.S_mono (Kd.S_keep (IsS90.apartS (show IsS90 w0 _ g x1000_3 from by exact IsS90.up HI0.out) (Kd.S_x HO_310005.out) (by decide)) hk (fun _ h => h.2)) (fun _ h => h.1)); replace HO_337002 := Aside0.mk (Kd.R_mono (Kd.R_keep (IsS90.apart (show IsS90 w0 _ g x1000_3 from by exact IsS90.up HI0.out) (Kd.R_x HO_337002.out) (by decide)) hk (fun _ h => h.2)) (fun _ h => h.1)); replace BK295 := Aside0.mk (KeepBut.blk hk (blk_x BK295.out) NB295_0.out (by simp)); replace BK309 := Aside0.mk (KeepBut.blk hk (blk_x BK309.out) NB309_0.out (by simp)); replace BK336 := Aside0.mk (KeepBut.blk hk (blk_x BK336.out) NB336_0.out (by simp)); replace HK := Aside0.mk (KeepBut.trans (by exact keep_y HK.out) hk (.inl rfl)); replace HB := Aside0.mk (hb); replace HI0 := Aside0.mk (hi)
           (try clear hb)
           (try clear hb2)
           (try clear hk)
           (try clear hi)
           refine hK.out _ _ (bcs_y BK336) (fun hHeld => ?_); clear hK K; refine norm_y (some 82) ?_; (refine one_t 9 (some 86) (bz 15 1023) HT_ fun K hK => ?_); refine goes_x Try.func54 #[.pointer (some ⟨g, 0, none⟩), .int .i64 t339, .int .i64 (wrap64 (12 + (wrap64 (2 * a4))))] ?_
           with_reducible refine (swarfkit_Feed_Range.calls g t340 t339 (wrap64 (12 + (wrap64 (2 * a4)))) t341 t342 t343 w0 _ ?side1 ?side2 A62.out).mono ?_
           (case side1 => exact IsS90.up HI0.out)
           (case side2 => exact below_y HB.out)
           rintro e w67 ⟨rfl, hi, hb, hk⟩; refine ⟨_, rfl, ?_⟩; replace HO_310003 := Aside0.mk (Kd.R_mono (Kd.R_keep (IsS90.apart (show IsS90 w0 _ g t340 from by exact IsS90.up HI0.out) (Kd.R_x HO_310003.out) (by decide)) hk (fun _ h => h.2)) (fun _ h => h.1)); replace HO_310005 := Aside0.mk (Kd.S_mono (Kd.S_keep (IsS90.apartS (show IsS90 w0 _ g t340 from by exact IsS90.up HI0.out) (Kd.S_x HO_310005.out) (by decide)) hk (fun _ h => h.2)) (fun _ h => h.1)); replace HO_337002 := Aside0.mk (Kd.R_mono (Kd.R_keep (IsS90.apart (show IsS90 w0 _ g t340 from by exact IsS90.up HI0.out) (Kd.R_x HO_337002.out) (by decide)) hk (fun _ h => h.2)) (fun _ h => h.1)); replace BK295 := Aside0.mk (KeepBut.blk hk (blk_x BK295.out) NB295_0.out (by simp)); replace BK309 := Aside0.mk (KeepBut.blk hk (blk_x BK309.out) NB309_0.out (by simp)); replace BK336 := Aside0.mk (KeepBut.blk hk (blk_x BK336.out) NB336_0.out (by simp)); replace HK := Aside0.mk (KeepBut.trans (by exact keep_y HK.out) hk (.inl rfl)); replace HB := Aside0.mk (hb); replace HI0 := Aside0.mk (hi)
           (try clear hb)
           (try clear hb2)
           (try clear hk)
           (try clear hi)
           refine hK.out _ _ (bcs_y BK336) (fun hHeld => ?_); clear hK K; refine norm_y (some 86) ?_; refine pure_t 10 (some 87) (bz 15 2047) HT_ ?_; (refine one_t 11 (some 88) (bz 15 4095) HT_ fun K hK => ?_); refine value_ (w1 := ?_) (v := ?_) (by rfl) rfl ?_ ?_; rotate_left 2
           ·
            go_simp
            constructor
            ·
             rfl
            ·
             rfl
           refine hK.out _ _ ⟨(blk_cell (blk_alloc BK336.out _) 0).trans rfl, (blk_cell (blk_alloc BK336.out _) 1).trans rfl, (blk_cell (blk_alloc BK336.out _) 2).trans rfl⟩ (fun hHeld => ?_); clear hK K; refine norm_y (some 88) ?_; (refine one_t 12 (some 89) (bz 15 8191) HT_ fun K hK => ?_); refine Kd.R_append_step k62 w.heap.size (by rfl) (.tmp 78) (.tmp 88) 57 62 (.agg #[(.int .i64 0), (.int .i64 0), (.int .i64 0)]) 24 rfl Try.underlying57 info62 rfl (by decide) (by omega) u337002 x337002_3 (⟨x15_3, (⟨t341, t342⟩ : S56)⟩ : S62) [.int .i64 x15_3, .int .i64 t341, .int .i64 t342] (fun _ => True) (fun _ => False) rfl rfl ?aP (fun _ hk => hk.elim) ?aF ?aO (Below.refl _ _) ?aS ?aL ?_
           (case aP => exact k62_mkM _ _ _ (⟨x15_3, (⟨t341, t342⟩ : S56)⟩ : S62))
           (case aF => exact (fun _ _ => trivial))
           (case aO => exact (Kd.R_x HO_337002.out))
           (case aS => exact (keep_size (w := w) (g := g) (row := none) (by exact keep_y HK.out)))
           (case aL => have := LMc63.out; omega)
           intro v345 w68 ho hb hg hat; rw [← Ny344.out] at ho; replace HO_310003 := Aside0.mk (Kd.R_over' (Kd.R_x HO_310003.out) (Kd.R_typed (Kd.R_x HO_337002.out)) (by decide) hg); replace HO_310005 := Aside0.mk (Kd.S_after (ok := (fun k_ => k_ ≠ gb336)) (by (with_reducible repeat (first | apply Kd.S_alloc | apply Kd.S_drewN | apply Kd.S_drew)); exact Kd.S_mono HO_310005.out (fun _ hk => ⟨hk.2, hk.1⟩)) hg hat); replace BK295 := Aside0.mk (blk_grown (blk_x BK295.out) hg (Kd.R_ne HO_337002.out BK295.out (by decide))); replace BK309 := Aside0.mk (blk_grown (blk_x BK309.out) hg (Kd.R_ne HO_337002.out BK309.out (by decide))); replace BK336 := Aside0.mk (blk_grown (blk_x BK336.out) hg (Kd.R_ne HO_337002.out BK336.out (by decide))); replace HI0 := Aside0.mk (IsS90.grown (by exact IsS90.up HI0.out) hg (IsS90.own_ne HI0.out HO_337002.out (by decide))); replace HB := Aside0.mk (below_weaken (by exact below_y HB.out) HL.out hb); replace HK := Aside0.mk (KeepBut.trans (by exact keep_y HK.out) (KeepBut.of_grown hg g) (Kd.R_base2 HO_337002.out)); have HO346 := Aside0.mk (ho); clear HO_337002 ho hb hg hat; obtain ⟨Ao69, co69, eo69⟩ := Kd.R_slice HO346.out
           (first | subst eo69 | (injection eo69 with f1_ f2_ f3_; have f4_ := f1_.symm; have f5_ := f3_.symm; clear f1_ f2_ f3_; subst f4_; subst f5_))
           refine hK.out _ _ (bcs_y BK336) (fun hHeld => ?_); clear hK K; refine norm_y (some 89) ?_; refine pure_t 13 (some 90) (bz 15 16383) HT_ ?_; refine last_ (i := 14) (N := none) (bz 15 32767) rfl rfl (one_of HT_.out (by kernel_rfl)) (by decide) (fun K hK => ?_); have hs70 : w68.cell? ⟨gb336, 2, none⟩ = some (u337002) := (blk_cell BK336.out 2).trans rfl; have hfs70 := blk_frozen BK336.out 2; have hns70_0 := NB295_336.out; have hns70_1 := NB309_336.out; have hms70_0 := NB336_295.out; have hms70_1 := NB336_309.out; refine skip_ (w1 := ?_) (by rfl) rfl ?_ ?_; rotate_left
           ·
            go_simp
            rfl
           refine hK.out _ _ ?_; clear hK K; refine done_ (done_of HT_.out (by kernel_rfl)) ?_
           try go_wp2_with (first | (refine goesG_x 31 rfl (some 93) Try.func31 #[.pointer (some ⟨g, 0, none⟩), .int .i64 1, .int .i64 9] ?_; (with_reducible refine (swarfkit_Feed_Between.calls g t343 1 9 t347 t348 w0 _ ?side1 ?side2 A64.out).mono ?_); (case side1 => exact IsS90.up HI0.out); (case side2 => exact below_y HB.out); rintro e w71 ⟨rfl, hi, hb, hk⟩; refine ⟨_, rfl, ?_⟩; replace HO_310003 := Aside0.mk (Kd.R_mono (Kd.R_keep (IsS90.apart (show IsS90 w0 _ g t343 from by exact IsS90.up HI0.out) (by (with_reducible repeat (first | apply Kd.R_alloc | apply Kd.R_drewN | apply Kd.R_drew)); exact (Kd.R_mono (Kd.R_far (p := ⟨gb336, 2, none⟩) (Kd.R_types HO_310003.out BK336.out (by decide)) (fun _ hk => hk.2) (.slice Ao69 y344.length co69)) (fun _ h_ => h_.1))) (by decide)) hk (fun _ h => h.2)) (fun _ h => h.1)); replace HO_310005 := Aside0.mk (Kd.S_mono (Kd.S_keep (IsS90.apartS (show IsS90 w0 _ g t343 from by exact IsS90.up HI0.out) (by (with_reducible repeat (first | apply Kd.S_alloc | apply Kd.S_drewN | apply Kd.S_drew)); exact (Kd.S_mono (Kd.S_far (p := ⟨gb336, 2, none⟩) (Kd.S_mono HO_310005.out (fun k_ hk => (⟨hk, hk.1⟩ : _ ∧ k_ ≠ gb336))) (fun _ hk => hk.2) (.slice Ao69 y344.length co69)) (fun _ h_ => h_.1))) (by decide)) hk (fun _ h => h.2)) (fun _ h => h.1)); replace BK295 := Aside0.mk (KeepBut.blk hk (g' := gb295) (o := .cells #[.int .i64 0, .int .i64 0, .int .i64 0, .slice none 0 0, .int .i64 0, .slice none 0 0, .slice none 0 0] 26 (0, 0)) (blk_w BK295.out) NB295_0.out (by simp)); replace BK309 := Aside0.mk (KeepBut.blk hk (g' := gb309) (o := .cells #[.int .i64 t296, .int .i64 t298, .int .i64 t305, u310003, .int .i64 t307, u310005, .slice none 0 0] 26 (0, 0)) (blk_w BK309.out) NB309_0.out (by simp)); replace HO346 := Aside0.mk (Kd.R_mono (Kd.R_keep (IsS90.apart (show IsS90 w0 _ g t343 from by exact IsS90.up HI0.out) (by (with_reducible repeat (first | apply Kd.R_alloc | apply Kd.R_drewN | apply Kd.R_drew)); exact (Kd.R_mono (Kd.R_far (p := ⟨gb336, 2, none⟩) (Kd.R_types HO346.out BK336.out (by decide)) (fun _ hk => hk.2) (.slice Ao69 y344.length co69)) (fun _ h_ => h_.1))) (by decide)) hk (fun _ h => h.2)) (fun _ h => h.1)); replace BK336 := Aside0.mk (KeepBut.blk hk (g' := gb336) (o := .cells #[.int .i64 t333, .int .i64 t334, .slice Ao69 y344.length co69] 59 (0, 0)) (blk_z BK336.out) NB336_0.out (by simp)); replace HK := Aside0.mk (KeepBut.trans (by exact keep_y HK.out) hk (.inl rfl)); replace HB := Aside0.mk (hb); replace HI0 := Aside0.mk (hi); (try clear hb); (try clear hk); (try clear hi)))
           go_roundg k3
           case measure => have := HK1.out; have := HK2.out; have := HK3.out; omega
           case rel => exact ⟨(wrap64 (x15_3 + t347)), (wrap64 (x16_3 - 1)), (t348), (y344), (.slice Ao69 y344.length co69), (by first | rfl | (simp; done) | (simp [*]; done)), (by first | rfl | (simp; done) | (simp [*]; done)), H', ⟨by have := HK1.out; have := HK2.out; have := HK3.out; omega⟩, ⟨by (with_reducible repeat (first | apply Kd.R_alloc | apply Kd.R_drewN | apply Kd.R_drew)); exact HO_310003.out⟩, ⟨by (with_reducible repeat (first | apply Kd.S_alloc | apply Kd.S_drewN | apply Kd.S_drew)); exact Kd.S_mono HO_310005.out (fun _ hk => ⟨hk.2, hk.1⟩)⟩, ⟨by (with_reducible repeat (first | apply Kd.R_alloc | apply Kd.R_drewN | apply Kd.R_drew)); exact HO346.out⟩, ⟨blk_x BK295.out⟩, ⟨blk_x BK309.out⟩, ⟨blk_x BK336.out⟩, ⟨by exact IsS90.up HI0.out⟩, ⟨by exact keep_y HK.out⟩, ⟨by exact below_y HB.out⟩⟩
          ·
           rw [if_neg c63] at H; exact absurd H (by simp)
         ·
          rw [if_neg c60] at H; have c60b0 : decide (0 < x16_3) = false := decide_eq_false c60; clear c60; by_cases c72 : x310005_2.length < 3518437208883
          ·
           rw [if_pos c72] at H; have LMc72 := Aside0.mk c72; clear c72; obtain ⟨y349, hy349⟩ : ∃ y_ : List (S59), y_ = (x310005_2 ++ [(⟨(⟨t333, t334⟩ : S56), x337002_3⟩ : S59)]) := ⟨_, rfl⟩; (replace H : (swarfkit_VoyageOf.l1 k3 a3 a4 (wrap64 (x13_2 - 1)) x1000_3 t296 t298 t305 x310003_1 t307 y349) = some (r1, r2, r3, r4, r5, r6, r7, r8) := by first | (rw [hy349]; with_reducible exact H) | (have H2_ := (Option.bind_some _ _).symm.trans H; rw [hy349]; with_reducible exact H2_) | (have H2_ := (Option.bind_some _ _).symm.trans H; with_reducible exact H2_) | with_reducible exact H | (rw [hy349]; exact H) | exact H); have Ny349 := Aside0.mk hy349; clear hy349; have H' := Aside0.mk H; clear H; have hnb73 := NB309_295.out; have hnc73 := NB295_309.out; have hnb74 := NB309_336.out; have hnc74 := NB336_309.out; have hnb75 := NB309_0.out; have hnc75 := NB0_309.out; obtain ⟨hfz76_0, _, _, _, _, _, _, _⟩ := cf7 BK309; have hnb77 := NB336_295.out; have hnc77 := NB295_336.out; have hnb78 := NB336_0.out; have hnc78 := NB0_336.out; obtain ⟨hfz79_0, _, _, _⟩ := cf3 BK336; obtain ⟨Ao81, co81, eo81⟩ := Kd.R_slice HO_337002.out; subst eo81
           go_wp2_with (first | ((with_reducible refine gate_builtin (b := .append) (xs := #[.tmp 96, .tmp 98]) rfl ?_); at_builtin; refine Kd.S_append k59 w.heap.size rfl (.tmp 96) (.tmp 98) 23 59 (.agg #[(.int .i64 0), (.int .i64 0), (.slice none 0 0)]) 40 rfl Try.underlying23 info59 rfl (by decide) (by omega) u310005 x310005_2 (⟨(⟨t333, t334⟩ : S56), x337002_3⟩ : S59) [.int .i64 t333, .int .i64 t334, .slice Ao81 x337002_3.length co81] (fun k_ => k_ ≠ gb336) (fun k_ => some k_ = (.slice Ao81 x337002_3.length co81 : Value).ownBlock) rfl rfl ?aP (fun k_ hk_ => ((Kd.R_mono (ok' := fun k_ => ((fun k_ => k_ ≠ gb336)) k_ ∧ some k_ ≠ (u310005 : Value).ownBlock) (Kd.R_types (Kd.R_apart' (HO_337002.out) (Kd.S_typed HO_310005.out) (by decide)) BK336.out (by decide)) (fun k_ hk => ⟨hk.2, hk.1.2⟩))).1 k_ hk_.symm) ?aF ?aO (Below.refl _ _) ?aS ?aL ?_; (case aP => exact k59_mkM _ _ _ (⟨(⟨t333, t334⟩ : S56), x337002_3⟩ : S59) (Kd.R_mono (Kd.R_tight rfl (Kd.R_mono (ok' := fun k_ => ((fun k_ => k_ ≠ gb336)) k_ ∧ some k_ ≠ (u310005 : Value).ownBlock) (Kd.R_types (Kd.R_apart' (HO_337002.out) (Kd.S_typed HO_310005.out) (by decide)) BK336.out (by decide)) (fun k_ hk => ⟨hk.2, hk.1.2⟩))) (fun _ h_ => h_))); (case aF => exact (fun k_ hk => Kd.freshB (g := gb336) (o := .cells #[.int .i64 t333, .int .i64 t334, .slice Ao81 x337002_3.length co81] 59 (0, 0)) (blk_x BK336.out) k_ hk)); (case aO => exact (by (with_reducible repeat (first | apply Kd.S_alloc | apply Kd.S_drewN | apply Kd.S_drew)); exact Kd.S_mono HO_310005.out (fun k_ hk => ⟨hk.2, fun e_ => hk.1 e_⟩))); (case aS => exact (keep_size (w := w) (g := g) (row := none) (by exact keep_y HK.out))); (case aL => have := LMc72.out; omega); intro v350 w80 ho hb hg hat; rw [← Ny349.out] at ho; replace HO_310003 := Aside0.mk (Kd.R_over' (Kd.R_x HO_310003.out) (Kd.S_typed (Kd.S_x HO_310005.out)) (by decide) hg); replace BK295 := Aside0.mk (blk_grown (blk_x BK295.out) hg (Kd.S_ne HO_310005.out BK295.out (by decide))); replace BK309 := Aside0.mk (blk_grown (blk_x BK309.out) hg (Kd.S_ne HO_310005.out BK309.out (by decide))); replace BK336 := Aside0.mk (blk_grown (blk_x BK336.out) hg (Kd.S_away HO_310005.out (fun _ hk => hk.2))); replace HI0 := Aside0.mk (IsS90.grown (by exact IsS90.up HI0.out) hg (IsS90.own_neS HI0.out HO_310005.out (by decide))); replace HB := Aside0.mk (below_weaken (by exact below_y HB.out) HL.out hb); replace HK := Aside0.mk (KeepBut.trans (by exact keep_y HK.out) (KeepBut.of_grown hg g) (Kd.S_base2 HO_310005.out)); have HO351 := Aside0.mk (ho); clear HO_310005 HO_337002; clear ho hb hg hat; obtain ⟨Ao82, co82, eo82⟩ := Kd.S_slice HO351.out; subst eo82; obtain ⟨hfz83_0, _, _, _, _, _, _, _⟩ := cf7 BK309))
           go_roundg k3
           case measure => have := HK1.out; have := HK2.out; have := HK3.out; omega
           case rel => exact ⟨(wrap64 (x13_2 - 1)), (x1000_3), (y349), (.slice Ao82 y349.length co82), (by first | rfl | (simp; done) | (simp [*]; done)), H', ⟨by have := HK1.out; have := HK2.out; have := HK3.out; omega⟩, ⟨by (with_reducible repeat (first | apply Kd.R_alloc | apply Kd.R_drewN | apply Kd.R_drew)); exact Kd.R_mono (Kd.R_far (p := ⟨gb309, 5, none⟩) (Kd.R_types HO_310003.out BK309.out (by decide)) (fun _ hk => hk.2) (.slice Ao82 y349.length co82)) (fun _ hk => trivial)⟩, ⟨by (with_reducible repeat (first | apply Kd.S_alloc | apply Kd.S_drewN | apply Kd.S_drew)); exact Kd.S_mono (Kd.S_far (p := ⟨gb309, 5, none⟩) (Kd.S_types HO351.out BK309.out (by decide)) (fun _ hk => hk.2) (.slice Ao82 y349.length co82)) (fun _ hk => trivial)⟩, ⟨blk_w BK295.out⟩, ⟨blk_z BK309.out⟩, ⟨by exact IsS90.up HI0.out⟩, ⟨by exact keep_y HK.out⟩, ⟨by exact below_y HB.out⟩⟩
          ·
           rw [if_neg c72] at H; exact absurd H (by simp)
      ·
       rw [if_neg c45] at H; have c45b0 : decide (0 < x13_2) = false := decide_eq_false c45; clear c45; replace H := Option.bind_eq_some_iff.mp H; obtain ⟨⟨t352, t353⟩, A840, H⟩ := H
       try dsimp only at H
       have A84 := Aside0.mk A840; clear A840; have H' := Aside0.mk H; clear H
       go_wp2_with (first | (refine goesG_x 33 rfl (some 104) Try.func33 #[.pointer (some ⟨g, 0, none⟩), .int .i64 (wrap64 (a3 + 1))] ?_; (with_reducible refine (swarfkit_Feed_Below.calls g x1000_2 (wrap64 (a3 + 1)) t352 t353 w0 _ ?side1 ?side2 A84.out).mono ?_); (case side1 => exact IsS90.up HI0.out); (case side2 => exact below_y HB.out); rintro e w85 ⟨rfl, hi, hb, hk⟩; refine ⟨_, rfl, ?_⟩; replace HO_310003 := Aside0.mk (Kd.R_mono (Kd.R_keep (IsS90.apart (show IsS90 w0 _ g x1000_2 from by exact IsS90.up HI0.out) (Kd.R_x HO_310003.out) (by decide)) hk (fun _ h => h.2)) (fun _ h => h.1)); replace HO_310005 := Aside0.mk (Kd.S_mono (Kd.S_keep (IsS90.apartS (show IsS90 w0 _ g x1000_2 from by exact IsS90.up HI0.out) (Kd.S_x HO_310005.out) (by decide)) hk (fun _ h => h.2)) (fun _ h => h.1)); replace BK295 := Aside0.mk (KeepBut.blk hk (blk_x BK295.out) NB295_0.out (by simp)); replace BK309 := Aside0.mk (KeepBut.blk hk (blk_x BK309.out) NB309_0.out (by simp)); replace HK := Aside0.mk (KeepBut.trans (by exact keep_y HK.out) hk (.inl rfl)); replace HB := Aside0.mk (hb); replace HI0 := Aside0.mk (hi); (try clear hb); (try clear hk); (try clear hi)))
       go_loopg [17] k2 (fun kq v17 w' => ∃ (x17_3 : Int) (x1000_3 : Int) (x310006_3 : List (S79)) (u310006 : Value), v17 = .int .i64 x17_3 ∧ Aside0 (swarfkit_VoyageOf.l3 kq a4 x17_3 x1000_3 t296 t298 t305 x310003_1 t307 x310005_2 x310006_3 = some (r1, r2, r3, r4, r5, r6, r7, r8)) ∧ Aside0 (kq ≤ k2) ∧ Aside0 (Kd.R k85 85 w' w.heap.size (fun _ => True) u310003 x310003_1) ∧ Aside0 (Kd.S k59 59 w' w.heap.size (fun _ => True) u310005 x310005_2) ∧ Aside0 (Kd.R k79 79 w' w.heap.size (fun _ => True) u310006 x310006_3) ∧ Aside0 (w'.heap[gb295]? = some (.cells #[.int .i64 0, .int .i64 0, .int .i64 0, (.slice none 0 0), .int .i64 0, (.slice none 0 0), (.slice none 0 0)] 26 (0, 0))) ∧ Aside0 (w'.heap[gb309]? = some (.cells #[.int .i64 t296, .int .i64 t298, .int .i64 t305, u310003, .int .i64 t307, u310005, u310006] 26 (0, 0))) ∧ Aside0 (IsS90 w0 w' g x1000_3) ∧ Aside0 (KeepBut w w' g none) ∧ Aside0 (Below w0.heap.size w0 w'))
       case atStart => exact ⟨(t352), (t353), (([] : List (S79))), (.slice none 0 0), (by first | rfl | (simp; done) | (simp [*]; done)), H', ⟨Nat.le_refl _⟩, ⟨by (with_reducible repeat (first | apply Kd.R_alloc | apply Kd.R_drewN | apply Kd.R_drew)); exact HO_310003.out⟩, ⟨by (with_reducible repeat (first | apply Kd.S_alloc | apply Kd.S_drewN | apply Kd.S_drew)); exact HO_310005.out⟩, ⟨by first | exact Kd.R_nil _ _ _ _ _ | exact Kd.N_nil _ _ _ _ _ | exact Kd.V_nil _ _ _ _ _ | exact Kd.Q_nil _ _ _ _ _ | exact Kd.S_nil _ _ _ _ _⟩, ⟨blk_x BK295.out⟩, ⟨blk_x BK309.out⟩, ⟨by exact IsS90.up HI0.out⟩, ⟨by exact keep_y HK.out⟩, ⟨by exact below_y HB.out⟩⟩
       case round =>
        clear H'; obtain ⟨x17_3, x1000_3, x310006_3, u310006, rfl, HA, HK3, HO_310003, HO_310005, HO_310006, BK295, BK309, HI0, HK, HB⟩ := hrel; cases gk with
        | zero => exact absurd HA.out (by simp [swarfkit_VoyageOf.l3])
        | succ k3 =>
         have H := HA.out; clear HA; simp only [swarfkit_VoyageOf.l3] at H; by_cases c86 : x17_3 > 0
         ·
          rw [if_pos c86] at H; have c86b0 : decide (0 < x17_3) = true := decide_eq_true c86; clear c86; replace H := Option.bind_eq_some_iff.mp H; obtain ⟨⟨t354, t355, t356⟩, A870, H⟩ := H
          try dsimp only at H
          have A87 := Aside0.mk A870; clear A870; replace H := Option.bind_eq_some_iff.mp H; obtain ⟨⟨t357, t358⟩, A880, H⟩ := H
          try dsimp only at H
          have A88 := Aside0.mk A880; clear A880; by_cases c89 : x310006_3.length < 5864062014805
          ·
           rw [if_pos c89] at H; have LMc89 := Aside0.mk c89; clear c89; obtain ⟨y359, hy359⟩ : ∃ y_ : List (S79), y_ = (x310006_3 ++ [(⟨(⟨t354, t355⟩ : S56), t357⟩ : S79)]) := ⟨_, rfl⟩; (replace H : (swarfkit_VoyageOf.l3 k3 a4 (wrap64 (x17_3 - 1)) t358 t296 t298 t305 x310003_1 t307 x310005_2 y359) = some (r1, r2, r3, r4, r5, r6, r7, r8) := by first | (rw [hy359]; with_reducible exact H) | (have H2_ := (Option.bind_some _ _).symm.trans H; rw [hy359]; with_reducible exact H2_) | (have H2_ := (Option.bind_some _ _).symm.trans H; with_reducible exact H2_) | with_reducible exact H | (rw [hy359]; exact H) | exact H); have Ny359 := Aside0.mk hy359; clear hy359; have H' := Aside0.mk H; clear H
           try go_wp2
           replace HO_310003 := Aside0.mk (Kd.R_drew HO_310003.out); replace HO_310005 := Aside0.mk (Kd.S_drew HO_310005.out); replace HO_310006 := Aside0.mk (Kd.R_drew HO_310006.out); replace BK295 := Aside0.mk (blk_drew BK295.out); replace BK309 := Aside0.mk (blk_drew BK309.out); replace HI0 := Aside0.mk (IsS90.drew HI0.out); replace HK := Aside0.mk (keep_drew HK.out); replace HB := Aside0.mk (below_drew1 HB.out); refine start_ (n := 12) (S := fun w' => w'.cell? ⟨gb309, 0, none⟩ = some (.int .i64 t296) ∧ w'.cell? ⟨gb309, 1, none⟩ = some (.int .i64 t298) ∧ w'.cell? ⟨gb309, 2, none⟩ = some (.int .i64 t305) ∧ w'.cell? ⟨gb309, 3, none⟩ = some (u310003) ∧ w'.cell? ⟨gb309, 4, none⟩ = some (.int .i64 t307) ∧ w'.cell? ⟨gb309, 5, none⟩ = some (u310005) ∧ w'.cell? ⟨gb309, 6, none⟩ = some (u310006)) (ds := [11]) #[false, false, false, false, false, false, false, false, false, false, false, false] (by kernel_rfl) rfl rfl ⟨(blk_cell BK309.out 0).trans rfl, (blk_cell BK309.out 1).trans rfl, (blk_cell BK309.out 2).trans rfl, (blk_cell BK309.out 3).trans rfl, (blk_cell BK309.out 4).trans rfl, (blk_cell BK309.out 5).trans rfl, (blk_cell BK309.out 6).trans rfl⟩ (fun hHeld => ?_); refine with_tabW swarfkit_VoyageOf.tab20 swarfkit_VoyageOf.bits20 (fun HT_ HW_ => ?_); generalize wr.drew = w90 at HO_310003 HO_310005 HO_310006 BK295 BK309 HI0 HK HB hHeld ⊢; refine pure_t 0 (some 109) (bz 12 1) HT_ ?_; refine pure_t 2 (some 111) (bz 12 5) HT_ ?_; refine pure_t 3 (some 112) (bz 12 13) HT_ ?_; refine pure_t 5 (some 114) (bz 12 45) HT_ ?_; refine take_t 1 (some 110) (bz 12 47) HT_ HW_ hHeld ?_; (refine one_t 4 (some 113) (bz 12 63) HT_ fun K hK => ?_); refine goes_x Try.func54 #[.pointer (some ⟨g, 0, none⟩), .int .i64 0, .int .i64 a4] ?_
           with_reducible refine (swarfkit_Feed_Range.calls g x1000_3 0 a4 t354 t355 t356 w0 _ ?side1 ?side2 A87.out).mono ?_
           (case side1 => exact IsS90.up HI0.out)
           (case side2 => exact below_y HB.out)
           rintro e w91 ⟨rfl, hi, hb, hk⟩; refine ⟨_, rfl, ?_⟩; replace HO_310003 := Aside0.mk (Kd.R_mono (Kd.R_keep (IsS90.apart (show IsS90 w0 _ g x1000_3 from by exact IsS90.up HI0.out) (Kd.R_x HO_310003.out) (by decide)) hk (fun _ h => h.2)) (fun _ h => h.1)); replace HO_310005 := Aside0.mk (Kd.S_mono (Kd.S_keep (IsS90.apartS (show IsS90 w0 _ g x1000_3 from by exact IsS90.up HI0.out) (Kd.S_x HO_310005.out) (by decide)) hk (fun _ h => h.2)) (fun _ h => h.1)); replace HO_310006 := Aside0.mk (Kd.R_mono (Kd.R_keep (IsS90.apart (show IsS90 w0 _ g x1000_3 from by exact IsS90.up HI0.out) (Kd.R_x HO_310006.out) (by decide)) hk (fun _ h => h.2)) (fun _ h => h.1)); replace BK295 := Aside0.mk (KeepBut.blk hk (blk_x BK295.out) NB295_0.out (by simp)); replace BK309 := Aside0.mk (KeepBut.blk hk (blk_x BK309.out) NB309_0.out (by simp)); replace HK := Aside0.mk (KeepBut.trans (by exact keep_y HK.out) hk (.inl rfl)); replace HB := Aside0.mk (hb); replace HI0 := Aside0.mk (hi)
           (try clear hb)
           (try clear hb2)
           (try clear hk)
           (try clear hi)
           refine hK.out _ _ (bcs_y BK309) (fun hHeld => ?_); clear hK K; refine norm_y (some 113) ?_; (refine one_t 6 (some 115) (bz 12 127) HT_ fun K hK => ?_); refine goes_x Try.func33 #[.pointer (some ⟨g, 0, none⟩), .int .i64 30] ?_
           with_reducible refine (swarfkit_Feed_Below.calls g t356 30 t357 t358 w0 _ ?side1 ?side2 A88.out).mono ?_
           (case side1 => exact IsS90.up HI0.out)
           (case side2 => exact below_y HB.out)
           rintro e w92 ⟨rfl, hi, hb, hk⟩; refine ⟨_, rfl, ?_⟩; replace HO_310003 := Aside0.mk (Kd.R_mono (Kd.R_keep (IsS90.apart (show IsS90 w0 _ g t356 from by exact IsS90.up HI0.out) (Kd.R_x HO_310003.out) (by decide)) hk (fun _ h => h.2)) (fun _ h => h.1)); replace HO_310005 := Aside0.mk (Kd.S_mono (Kd.S_keep (IsS90.apartS (show IsS90 w0 _ g t356 from by exact IsS90.up HI0.out) (Kd.S_x HO_310005.out) (by decide)) hk (fun _ h => h.2)) (fun _ h => h.1)); replace HO_310006 := Aside0.mk (Kd.R_mono (Kd.R_keep (IsS90.apart (show IsS90 w0 _ g t356 from by exact IsS90.up HI0.out) (Kd.R_x HO_310006.out) (by decide)) hk (fun _ h => h.2)) (fun _ h => h.1)); replace BK295 := Aside0.mk (KeepBut.blk hk (blk_x BK295.out) NB295_0.out (by simp)); replace BK309 := Aside0.mk (KeepBut.blk hk (blk_x BK309.out) NB309_0.out (by simp)); replace HK := Aside0.mk (KeepBut.trans (by exact keep_y HK.out) hk (.inl rfl)); replace HB := Aside0.mk (hb); replace HI0 := Aside0.mk (hi)
           (try clear hb)
           (try clear hb2)
           (try clear hk)
           (try clear hi)
           refine hK.out _ _ (bcs_y BK309) (fun hHeld => ?_); clear hK K; refine norm_y (some 115) ?_; refine pure_t 7 (some 116) (bz 12 255) HT_ ?_; (refine one_t 8 (some 117) (bz 12 511) HT_ fun K hK => ?_); refine value_ (w1 := ?_) (v := ?_) (by rfl) rfl ?_ ?_; rotate_left 2
           ·
            go_simp
            constructor
            ·
             rfl
            ·
             rfl
           refine hK.out _ _ ⟨(blk_cell (blk_alloc BK309.out _) 0).trans rfl, (blk_cell (blk_alloc BK309.out _) 1).trans rfl, (blk_cell (blk_alloc BK309.out _) 2).trans rfl, (blk_cell (blk_alloc BK309.out _) 3).trans rfl, (blk_cell (blk_alloc BK309.out _) 4).trans rfl, (blk_cell (blk_alloc BK309.out _) 5).trans rfl, (blk_cell (blk_alloc BK309.out _) 6).trans rfl⟩ (fun hHeld => ?_); clear hK K; refine norm_y (some 117) ?_; (refine one_t 9 (some 118) (bz 12 1023) HT_ fun K hK => ?_); refine Kd.R_append_step k79 w.heap.size (by rfl) (.tmp 110) (.tmp 117) 24 79 (.agg #[(.int .i64 0), (.int .i64 0), (.int .i64 0)]) 24 rfl Try.underlying24 info79 rfl (by decide) (by omega) u310006 x310006_3 (⟨(⟨t354, t355⟩ : S56), t357⟩ : S79) [.int .i64 t354, .int .i64 t355, .int .i64 t357] (fun _ => True) (fun _ => False) rfl rfl ?aP (fun _ hk => hk.elim) ?aF ?aO (Below.refl _ _) ?aS ?aL ?_
           (case aP => exact k79_mkM _ _ _ (⟨(⟨t354, t355⟩ : S56), t357⟩ : S79))
           (case aF => exact (fun _ _ => trivial))
           (case aO => exact (Kd.R_x HO_310006.out))
           (case aS => exact (keep_size (w := w) (g := g) (row := none) (by exact keep_y HK.out)))
           (case aL => have := LMc89.out; omega)
           intro v360 w93 ho hb hg hat; rw [← Ny359.out] at ho; replace HO_310003 := Aside0.mk (Kd.R_over' (Kd.R_x HO_310003.out) (Kd.R_typed (Kd.R_x HO_310006.out)) (by decide) hg); replace HO_310005 := Aside0.mk (Kd.S_over' (Kd.S_x HO_310005.out) (Kd.R_typed (Kd.R_x HO_310006.out)) (by decide) hg); replace BK295 := Aside0.mk (blk_grown (blk_x BK295.out) hg (Kd.R_ne HO_310006.out BK295.out (by decide))); replace BK309 := Aside0.mk (blk_grown (blk_x BK309.out) hg (Kd.R_ne HO_310006.out BK309.out (by decide))); replace HI0 := Aside0.mk (IsS90.grown (by exact IsS90.up HI0.out) hg (IsS90.own_ne HI0.out HO_310006.out (by decide))); replace HB := Aside0.mk (below_weaken (by exact below_y HB.out) HL.out hb); replace HK := Aside0.mk (KeepBut.trans (by exact keep_y HK.out) (KeepBut.of_grown hg g) (Kd.R_base2 HO_310006.out)); have HO361 := Aside0.mk (ho); clear HO_310006 ho hb hg hat; obtain ⟨Ao94, co94, eo94⟩ := Kd.R_slice HO361.out
           (first | subst eo94 | (injection eo94 with f1_ f2_ f3_; have f4_ := f1_.symm; have f5_ := f3_.symm; clear f1_ f2_ f3_; subst f4_; subst f5_))
           refine hK.out _ _ (bcs_y BK309) (fun hHeld => ?_); clear hK K; refine norm_y (some 118) ?_; refine pure_t 10 (some 119) (bz 12 2047) HT_ ?_; refine last_ (i := 11) (N := none) (bz 12 4095) rfl rfl (one_of HT_.out (by kernel_rfl)) (by decide) (fun K hK => ?_); have hs95 : w93.cell? ⟨gb309, 6, none⟩ = some (u310006) := (blk_cell BK309.out 6).trans rfl; have hfs95 := blk_frozen BK309.out 6; have hns95_0 := NB295_309.out; have hms95_0 := NB309_295.out; refine skip_ (w1 := ?_) (by rfl) rfl ?_ ?_; rotate_left
           ·
            go_simp
            rfl
           refine hK.out _ _ ?_; clear hK K; refine done_ (done_of HT_.out (by kernel_rfl)) ?_
           try go_wp2
           go_roundg k3
           case measure => have := HK1.out; have := HK2.out; have := HK3.out; omega
           case rel => exact ⟨(wrap64 (x17_3 - 1)), (t358), (y359), (.slice Ao94 y359.length co94), (by first | rfl | (simp; done) | (simp [*]; done)), H', ⟨by have := HK1.out; have := HK2.out; have := HK3.out; omega⟩, ⟨by (with_reducible repeat (first | apply Kd.R_alloc | apply Kd.R_drewN | apply Kd.R_drew)); exact Kd.R_mono (Kd.R_far (p := ⟨gb309, 6, none⟩) (Kd.R_types HO_310003.out BK309.out (by decide)) (fun _ hk => hk.2) (.slice Ao94 y359.length co94)) (fun _ hk => trivial)⟩, ⟨by (with_reducible repeat (first | apply Kd.S_alloc | apply Kd.S_drewN | apply Kd.S_drew)); exact Kd.S_mono (Kd.S_far (p := ⟨gb309, 6, none⟩) (Kd.S_types HO_310005.out BK309.out (by decide)) (fun _ hk => hk.2) (.slice Ao94 y359.length co94)) (fun _ hk => trivial)⟩, ⟨by (with_reducible repeat (first | apply Kd.R_alloc | apply Kd.R_drewN | apply Kd.R_drew)); exact Kd.R_mono (Kd.R_far (p := ⟨gb309, 6, none⟩) (Kd.R_types HO361.out BK309.out (by decide)) (fun _ hk => hk.2) (.slice Ao94 y359.length co94)) (fun _ hk => trivial)⟩, ⟨blk_w BK295.out⟩, ⟨blk_z BK309.out⟩, ⟨by exact IsS90.up HI0.out⟩, ⟨by exact keep_y HK.out⟩, ⟨by exact below_y HB.out⟩⟩
          ·
           rw [if_neg c89] at H; exact absurd H (by simp)
         ·
          rw [if_neg c86] at H; have c86b0 : decide (0 < x17_3) = false := decide_eq_false c86; clear c86; simp only [Option.some.injEq, Prod.mk.injEq] at H; obtain ⟨rfl, rfl, rfl, rfl, rfl, rfl, rfl, rfl⟩ := H; have hnb96 := NB309_295.out; have hnc96 := NB295_309.out; have hnb97 := NB309_0.out; have hnc97 := NB0_309.out; obtain ⟨hfz98_0, _, _, _, _, _, _, _⟩ := cf7 BK309; have hnb99 := NB295_0.out; have hnc99 := NB0_295.out; obtain ⟨hfz100_0, _, _, _, _, _, _, _⟩ := cf7 BK295; obtain ⟨Ao101, co101, eo101⟩ := Kd.R_slice HO_310003.out; subst eo101; obtain ⟨Ao102, co102, eo102⟩ := Kd.S_slice HO_310005.out; subst eo102; obtain ⟨Ao103, co103, eo103⟩ := Kd.R_slice HO_310006.out; subst eo103; go_wp2; refine bodyPost_ret (results_cell_row rfl _ _ gb295 26 #[.int .i64 t296, .int .i64 t298, .int .i64 t305, .slice Ao101 x310003_1.length co101, .int .i64 t307, .slice Ao102 x310005_2.length co102, .slice Ao103 x310006_3.length co103] (0, 0) _ rfl (blk_z BK295.out) Try.underlying26 rfl (by kernel_rfl)) rfl ?_; exact ⟨_, _, _, by first | rfl | (simp [errW_none, errW_some] <;> rfl) | (simp [*, errW_none, errW_some] <;> rfl), by (with_reducible repeat (first | apply Kd.R_alloc | apply Kd.R_drewN | apply Kd.R_drew)); exact Kd.R_mono (Kd.R_far (p := ⟨gb295, 6, none⟩) (Kd.R_far (p := ⟨gb295, 5, none⟩) (Kd.R_far (p := ⟨gb295, 4, none⟩) (Kd.R_far (p := ⟨gb295, 3, none⟩) (Kd.R_far (p := ⟨gb295, 2, none⟩) (Kd.R_far (p := ⟨gb295, 1, none⟩) (Kd.R_far (p := ⟨gb295, 0, none⟩) (Kd.R_types HO_310003.out BK295.out (by decide)) (fun _ hk => hk.2) (.int .i64 t296)) (fun _ hk => hk.2) (.int .i64 t298)) (fun _ hk => hk.2) (.int .i64 t305)) (fun _ hk => hk.2) (.slice Ao101 x310003_1.length co101)) (fun _ hk => hk.2) (.int .i64 t307)) (fun _ hk => hk.2) (.slice Ao102 x310005_2.length co102)) (fun _ hk => hk.2) (.slice Ao103 x310006_3.length co103)) (fun _ hk => trivial), by (with_reducible repeat (first | apply Kd.S_alloc | apply Kd.S_drewN | apply Kd.S_drew)); exact Kd.S_mono (Kd.S_far (p := ⟨gb295, 6, none⟩) (Kd.S_far (p := ⟨gb295, 5, none⟩) (Kd.S_far (p := ⟨gb295, 4, none⟩) (Kd.S_far (p := ⟨gb295, 3, none⟩) (Kd.S_far (p := ⟨gb295, 2, none⟩) (Kd.S_far (p := ⟨gb295, 1, none⟩) (Kd.S_far (p := ⟨gb295, 0, none⟩) (Kd.S_types HO_310005.out BK295.out (by decide)) (fun _ hk => hk.2) (.int .i64 t296)) (fun _ hk => hk.2) (.int .i64 t298)) (fun _ hk => hk.2) (.int .i64 t305)) (fun _ hk => hk.2) (.slice Ao101 x310003_1.length co101)) (fun _ hk => hk.2) (.int .i64 t307)) (fun _ hk => hk.2) (.slice Ao102 x310005_2.length co102)) (fun _ hk => hk.2) (.slice Ao103 x310006_3.length co103)) (fun _ hk => trivial), by (with_reducible repeat (first | apply Kd.R_alloc | apply Kd.R_drewN | apply Kd.R_drew)); exact Kd.R_mono (Kd.R_far (p := ⟨gb295, 6, none⟩) (Kd.R_far (p := ⟨gb295, 5, none⟩) (Kd.R_far (p := ⟨gb295, 4, none⟩) (Kd.R_far (p := ⟨gb295, 3, none⟩) (Kd.R_far (p := ⟨gb295, 2, none⟩) (Kd.R_far (p := ⟨gb295, 1, none⟩) (Kd.R_far (p := ⟨gb295, 0, none⟩) (Kd.R_types HO_310006.out BK295.out (by decide)) (fun _ hk => hk.2) (.int .i64 t296)) (fun _ hk => hk.2) (.int .i64 t298)) (fun _ hk => hk.2) (.int .i64 t305)) (fun _ hk => hk.2) (.slice Ao101 x310003_1.length co101)) (fun _ hk => hk.2) (.int .i64 t307)) (fun _ hk => hk.2) (.slice Ao102 x310005_2.length co102)) (fun _ hk => hk.2) (.slice Ao103 x310006_3.length co103)) (fun _ hk => trivial), by exact IsS90.up HI0.out, by exact below_y HB.out, by exact keep_y HK.out⟩
end Go.Proofs.Ytodmemndaaiolaa.PC7
namespace Go.Proofs.Ytodmemndaaiolaa.PC7
set_option linter.unusedVariables false
set_option linter.unusedSimpArgs false
open Go.RowKit Go.Proofs.YtodmemndaaiolaaW.PrintWords Go.Proofs.YtodmemndaaiolaaW.PrintLast Go.Proofs.YtodmemndaaiolaaW.PrintMore
structure VoyV where
  light : Int
  under : Int
  trim : Int
  A3 : Option Addr
  c3 : Nat
  holds : List S85
  leaves : Int
  A5 : Option Addr
  c5 : Nat
  sills : List S59
  A6 : Option Addr
  c6 : Nat
  lots : List S79
structure VoyV.Ok (x : VoyV) (w : World) : Prop where
  h : Kd.C k85 w x.A3 x.holds.length x.holds
  hc : x.holds.length ≤ x.c3
  s : Kd.C k59 w x.A5 x.sills.length x.sills
  sc : x.sills.length ≤ x.c5
  l : Kd.C k79 w x.A6 x.lots.length x.lots
  lc : x.lots.length ≤ x.c6
theorem VoyV.Ok.below {x : VoyV} {w w' : World} (h : x.Ok w) (hb : Below w.heap.size w w') : x.Ok w' :=
  ⟨Kd.C_below h.h hb, h.hc, Kd.C_below h.s hb, h.sc, Kd.C_below h.l hb, h.lc⟩
theorem blk_ne_ {w : World} {a b : Nat} {t t' : TypeId} {cs cs' : Array Value} (ha : w.heap[a]? = some (.cells cs t (0, 0))) (hb : w.heap[b]? = some (.cells cs' t' (0, 0))) (h : t ≠ t') : a ≠ b := by
  rintro rfl
  rw [ha] at hb
  injection hb with hb
  injection hb with _ hb
  exact h hb
structure Q4 where
  b0 : Int
  b1 : Int
  h0 : Int
  h1 : Int
def ladS (h : S85) (t : S56) (q : Q4) : Q4 := ⟨wrap64 (q.b0 + wrap64 (t.f0 * h.f1)), wrap64 (q.b1 + wrap64 (t.f0 * h.f2)), wrap64 (q.h0 + wrap64 (t.f1 * h.f1)), wrap64 (q.h1 + wrap64 (t.f1 * h.f2))⟩
def ladO (holds : List S85) (lots : List S79) : Nat → List Int → Q4 → Option Q4
  | _, [], q => some q
  | i, a :: r, q => if a < 0 then ladO holds lots (i + 1) r q else if a < (holds.length : Int) then (if i < lots.length then ladO holds lots (i + 1) r (ladS (rd_T85 holds a) (rd_T79 lots (i : Int)).f0 q) else none) else none
def ladenO (light : Int) (holds : List S85) (lots : List S79) (s : List Int) : Option Q4 := ladO holds lots 0 s ⟨wrap64 (1000 * light), wrap64 (1000 * light), wrap64 (1000 * light), wrap64 (1000 * light)⟩
theorem drop_rd (l : List Int) (k : Nat) (h : k < l.length) : l.drop k = rd l (k : Int) :: l.drop (k + 1) := by
  rw [List.drop_eq_getElem_cons h]
  have : rd l (k : Int) = l[k] := by simp [rd, List.getD, h]
  rw [this]
theorem R_of_owns (k : IntKind) {e : Nat} {W : World} {base : Nat} {v : Value} {xs : List Int} (h : W.ownsRow base e 1 v xs.length (xs.map (Value.int k))) : Kd.R (Kd.int k) e W base (fun _ => True) v xs := by
  refine ⟨fun _ _ => trivial, xs.map (Value.int k), h, by rw [List.length_map]; exact (Nat.mul_one _).symm, fun j p hj => ?_⟩
  have hlt : j < xs.length := by
    by_cases hh : j < xs.length
    · exact hh
    · rw [List.getElem?_eq_none (by omega)] at hj; cases hj
  rw [List.getElem?_eq_getElem hlt] at hj
  obtain rfl := Option.some.inj hj
  show (List.take 1 (List.drop (j * 1) (xs.map (Value.int k)))) = [Value.int k xs[j]]
  rw [Nat.mul_one, List.drop_eq_getElem_cons (by simpa using hlt)]
  simp
theorem grow_below {w W w1 : World} {e size k : Nat} {v : Value} {xs : List Value} {tmp : Obj} (hB : Below w.heap.size w W) (hrow : W.ownsRow w.heap.size e size v k xs) (hgrow : (W.alloc tmp).grownBy w1 v.ownBlock) : Below w.heap.size w w1 :=
  (below_alloc hB tmp).grown hgrow (by have := hB.size; simp; omega) (fun j ej => own_base hrow j ej)
theorem infoInt : (Try.prog.info? 3).map (fun i => (i.zero, i.size, i.bytes)) = some (some (.int .i64 0), 1, 8) := by kernel_rfl
def waterOf (b : Bool) (l : S62) : Int := if b then l.f1.f1 else l.f1.f0
def passW (soon : Bool) : List S62 → Int → Int → Option Int
  | [], _, _ => none
  | [l], now, needs => if mx now l.f0 ≤ 2880 ∧ needs ≤ wrap64 (1000 * waterOf soon l) then some (mx now l.f0) else none
  | l :: l2 :: r, now, needs => if l2.f0 ≤ now then passW soon (l2 :: r) now needs else if mx now l.f0 ≤ 2880 ∧ needs ≤ wrap64 (1000 * waterOf soon l) then some (mx now l.f0) else passW soon (l2 :: r) (mx now l.f0) needs
def travelOf (soon : Bool) (s : S59) : Int := if soon then s.f0.f0 else s.f0.f1
def sailW (soon : Bool) : List S59 → Int → Int → List Int
  | [], _, _ => []
  | s :: r, now, needs => match passW soon s.f1 (wrap64 (now + travelOf soon s)) needs with
    | some t => t :: sailW soon r t needs
    | none => []
def needsW (under : Int) (q : Q4) (soon : Bool) : Int := wrap64 (mx (if soon then q.b0 else q.h0) (if soon then q.b1 else q.h1) + wrap64 (1000 * under))
def sailO (under leaves : Int) (sills : List S59) (q : Q4) (soon : Bool) : List Int := sailW soon sills leaves (needsW under q soon)
theorem sailW_len (soon : Bool) (l : List S59) : ∀ now needs, (sailW soon l now needs).length ≤ l.length := by
  induction l with
  | nil => intro now needs; exact Nat.le_refl _
  | cons s l ih =>
    intro now needs
    simp only [sailW]
    split
    · simpa using ih _ _
    · exact Nat.zero_le _
theorem drop_cons_of {α : Type} (l : List α) (k : Nat) (h : k < l.length) (d : α) : l.drop k = l.getD k d :: l.drop (k + 1) := by
  rw [List.drop_eq_getElem_cons h]
  have : l.getD k d = l[k] := by simp [List.getD, h]
  rw [this]
end Go.Proofs.Ytodmemndaaiolaa.PC7
namespace Go.Proofs.Ytodmemndaaiolaa.PC7
open Go.RowKit Go.Proofs.YtodmemndaaiolaaW.PrintWords Go.Proofs.YtodmemndaaiolaaW.PrintLast Go.Proofs.YtodmemndaaiolaaW.PrintMore
attribute [local go_sem] max2_int min2_int max_two min_two max_three min_three max_four min_four
set_option linter.unusedVariables false
set_option linter.unusedSimpArgs false
def ship_in.f (a0 : Int) (a1 : Int) (a2 : Int) : Option (Bool) := if a1 ≤ a0 then (some (decide (a0 ≤ a2))) else (some false)
set_option maxHeartbeats 8000000 in
set_option maxRecDepth 100000 in
theorem ship_in.calls (a0 : Int) (a1 : Int) (a2 : Int) (r : Bool) (w : World) (h : ship_in.f a0 a1 a2 = some r) :
  Calls Try.prog 72 #[.int .i64 a0, .int .i64 a1, .int .i64 a2] w fun e w' => e = .returned (.bool r) ∧ Drawn0 w w' := by
 have H : (if a1 ≤ a0 then (some (decide (a0 ≤ a2))) else (some false)) = some r := h
 clear h
 by_cases c4 : a1 ≤ a0
 ·
  rw [if_pos c4] at H; have c4b0 : decide (a1 ≤ a0) = true := decide_eq_true c4; clear c4; obtain rfl := Option.some.inj H; go_enter Try.func72, Try.ntmps72; go_wp2; go_ret; exact ⟨by first | rfl | (simp; done) | (simp [*]; done), by repeat (first | exact Drawn0.refl _ | apply Drawn0.step)⟩
 ·
  rw [if_neg c4] at H; have c4b0 : decide (a1 ≤ a0) = false := decide_eq_false c4; clear c4; obtain rfl := Option.some.inj H; go_enter Try.func72, Try.ntmps72; go_wp2; go_ret; exact ⟨by first | rfl | (simp; done) | (simp [*]; done), by repeat (first | exact Drawn0.refl _ | apply Drawn0.step)⟩
def ship_many.f (a0 : Int) (a1 : Int) : Option (Int) := if a0 = 0 then (some 7) else (if a0 > a1 then (some 6) else (some 0))
set_option maxHeartbeats 8000000 in
set_option maxRecDepth 100000 in
theorem ship_many.calls (a0 : Int) (a1 : Int) (r : Int) (w : World) (h : ship_many.f a0 a1 = some r) :
  Calls Try.prog 73 #[.int .i64 a0, .int .i64 a1] w fun e w' => e = .returned (.int .i64 r) ∧ Drawn0 w w' := by
 have H : (if a0 = 0 then (some 7) else (if a0 > a1 then (some 6) else (some 0))) = some r := h
 clear h
 by_cases c3 : a0 = 0
 ·
  rw [if_pos c3] at H; have c3b0 : (a0 == 0) = true := beq_iff_eq.mpr c3; have c3b1 : (a0 != 0) = false := bne_eq_false_iff_eq.mpr c3; clear c3; obtain rfl := Option.some.inj H; go_enter Try.func73, Try.ntmps73; go_wp2; go_ret; exact ⟨by first | rfl | (simp; done) | (simp [*]; done), by repeat (first | exact Drawn0.refl _ | apply Drawn0.step)⟩
 ·
  rw [if_neg c3] at H; have c3b0 : (a0 == 0) = false := beq_eq_false_iff_ne.mpr c3; have c3b1 : (a0 != 0) = true := bne_iff_ne.mpr c3; by_cases c4 : a0 > a1
  ·
   rw [if_pos c4] at H; have c4b0 : decide (a1 < a0) = true := decide_eq_true c4; clear c4; obtain rfl := Option.some.inj H; go_enter Try.func73, Try.ntmps73; go_wp2; go_ret; exact ⟨by first | rfl | (simp; done) | (simp [*]; done), by repeat (first | exact Drawn0.refl _ | apply Drawn0.step)⟩
  ·
   rw [if_neg c4] at H; have c4b0 : decide (a1 < a0) = false := decide_eq_false c4; clear c4; obtain rfl := Option.some.inj H; go_enter Try.func73, Try.ntmps73; go_wp2; go_ret; exact ⟨by first | rfl | (simp; done) | (simp [*]; done), by repeat (first | exact Drawn0.refl _ | apply Drawn0.step)⟩
def ship_checkRange.j0 : Nat → Bool → Int → Int → Option (Int)
 | 0, _, _, _ => none
 | k + 1, x5, x109000, x109001 => if x5 = true then (some 1) else (if x109000 > x109001 then (some 5) else (some 0))
def ship_checkRange.f (k : Nat) (a0_0 : Int) (a0_1 : Int) (a1 : Int) : Option (Int) := (ship_in.f a0_0 0 a1).bind fun t109 => (if t109 = true then ((ship_in.f a0_1 0 a1).bind fun t110 => (ship_checkRange.j0 k (!t110) a0_0 a0_1)) else (ship_checkRange.j0 k (!t109) a0_0 a0_1))
theorem ship_checkRange.mono_l : ∀ k, (∀ y0 y1 y2, LeO (ship_checkRange.j0 k y0 y1 y2) (ship_checkRange.j0 (k + 1) y0 y1 y2))
 | 0 => fun _ _ _ r h => by simp [ship_checkRange.j0] at h
 | k + 1 => by
  have ih0 := ship_checkRange.mono_l k
  ·
   intro y0 y1 y2; unfold ship_checkRange.j0
   repeat' (with_reducible first | exact ih0 _ _ _ | exact LeO.refl _ | exact LeO.none _ | refine LeO.ite ?_ ?_ | refine LeO.bind ?_ (fun _ => ?_))
theorem ship_checkRange.mono : ∀ a0 a1 a2 k, LeO (ship_checkRange.f k a0 a1 a2) (ship_checkRange.f (k + 1) a0 a1 a2) := by
 intro a0 a1 a2 k
 have ih0 := ship_checkRange.mono_l k
 unfold ship_checkRange.f
 repeat' (with_reducible first | exact ih0 _ _ _ | exact LeO.refl _ | exact LeO.none _ | refine LeO.ite ?_ ?_ | refine LeO.bind ?_ (fun _ => ?_))
set_option maxHeartbeats 8000000 in
set_option maxRecDepth 100000 in
theorem ship_checkRange.calls (k : Nat) (a0_0 : Int) (a0_1 : Int) (a1 : Int) (r : Int) (w : World) (h : ship_checkRange.f k a0_0 a0_1 a1 = some r) :
  Calls Try.prog 75 #[.agg #[.int .i64 a0_0, .int .i64 a0_1], .int .i64 a1] w fun e w' => e = .returned (.int .i64 r) ∧ Below w.heap.size w w' := by
 have hu56 := Try.underlying56
 have HB := Aside0.mk (Below.refl w.heap.size w)
 have H : ((ship_in.f a0_0 0 a1).bind fun t109 => (if t109 = true then ((ship_in.f a0_1 0 a1).bind fun t110 => (ship_checkRange.j0 k (!t110) a0_0 a0_1)) else (ship_checkRange.j0 k (!t109) a0_0 a0_1))) = some r := h
 clear h
 replace H := Option.bind_eq_some_iff.mp H
 obtain ⟨t109, A30, H⟩ := H
 try dsimp only at H
 have A3 := Aside0.mk A30
 clear A30
 have HC4 := Aside0.mk H
 clear H
 go_enter Try.func75, Try.ntmps75
 go_upto_if 5 with (first | (refine box_r (N := 2) rfl (cs := #[.int .i64 a0_0, .int .i64 a0_1]) (t := 56) ?_; intro gb108 hg w5 hbox hb; have BK108 := Aside0.mk (hbox); have GW108 := gw_x hg HB; have GE108 := GW108; replace HB := Aside0.mk (below_step (below_x HB.out) hb); clear hb hbox hg; obtain ⟨hfz6_0, _, _⟩ := cf2 BK108) | (refine goesG_x 72 rfl (some 9) Try.func72 #[.int .i64 a0_0, .int .i64 0, .int .i64 a1] ?_; (with_reducible refine (ship_in.calls a0_0 0 a1 t109 _ A3.out).mono ?_); rintro e w' ⟨rfl, ⟨nd, rfl⟩⟩; refine ⟨_, rfl, ?_⟩))
 (try simp only [Act.put, put_x])
 go_cut [5] (fun v5 wc => ∃ (kq : Nat) (x5_3 : Bool), v5 = .bool x5_3 ∧ Aside0 (ship_checkRange.j0 kq x5_3 a0_0 a0_1 = some r) ∧ Aside0 (kq ≤ k) ∧ Aside0 (wc.heap[gb108]? = some (.cells #[.int .i64 a0_0, .int .i64 a0_1] 56 (0, 0))) ∧ Aside0 (Below w.heap.size w wc))
 case first =>
  have H := HC4.out; clear HC4; by_cases c7 : t109 = true
  ·
   subst c7; (have H1 : ((ship_in.f a0_1 0 a1).bind fun t110 => (ship_checkRange.j0 k (!t110) a0_0 a0_1)) = some r := by rw [if_pos rfl] at H; exact H); clear H; have H := H1; clear H1; replace H := Option.bind_eq_some_iff.mp H; obtain ⟨t110, A80, H⟩ := H; replace H : (ship_checkRange.j0 k (!t110) a0_0 a0_1) = some r := H; have A8 := Aside0.mk A80; clear A80; have H' := Aside0.mk H; clear H; obtain ⟨hfz9_0, _, _⟩ := cf2 BK108
   go_wp2_with (first | (refine goesG_x 72 rfl (some 14) Try.func72 #[.int .i64 a0_1, .int .i64 0, .int .i64 a1] ?_; (with_reducible refine (ship_in.calls a0_1 0 a1 t110 _ A8.out).mono ?_); rintro e w' ⟨rfl, ⟨nd, rfl⟩⟩; refine ⟨_, rfl, ?_⟩))
   go_meet
   case rel => exact ⟨_, (!t110), (by first | rfl | (simp; done) | (simp [*]; done)), H', ⟨by first | omega | exact Nat.le_refl _⟩, ⟨blk_x BK108.out⟩, ⟨by exact below_y HB.out⟩⟩
  ·
   replace c7 := Bool.eq_false_iff.mpr c7; subst c7; replace H : (ship_checkRange.j0 k (!false) a0_0 a0_1) = some r := ifn_x H; have H' := Aside0.mk H; clear H; go_wp2; go_meet
   case rel => exact ⟨_, (!false), (by first | rfl | (simp; done) | (simp [*]; done)), H', ⟨by first | omega | exact Nat.le_refl _⟩, ⟨blk_x BK108.out⟩, ⟨by exact below_y HB.out⟩⟩
 case rest =>
  clear HC4; obtain ⟨kq, x5_3, rfl, HA, HJ3, BK108, HB⟩ := hcut; cases kq with
  | zero => exact absurd HA.out (by simp [ship_checkRange.j0])
  | succ kj3 =>
   have H := HA.out; clear HA; simp only [ship_checkRange.j0] at H; by_cases c10 : x5_3 = true
   ·
    subst c10; (have H1 : (some 1) = some r := by rw [if_pos rfl] at H; exact H); clear H; have H := H1; clear H1; obtain rfl := Option.some.inj H; go_wp2; go_ret; exact rt_y HB
   ·
    replace c10 := Bool.eq_false_iff.mpr c10; subst c10; replace H : (if a0_0 > a0_1 then (some 5) else (some 0)) = some r := ifn_x H; by_cases c11 : a0_0 > a0_1
    ·
     rw [if_pos c11] at H; have c11b0 : decide (a0_1 < a0_0) = true := decide_eq_true c11; clear c11; obtain rfl := Option.some.inj H; obtain ⟨hfz12_0, _, _⟩ := cf2 BK108; go_wp2; go_ret; exact rt_y HB
    ·
     rw [if_neg c11] at H; have c11b0 : decide (a0_1 < a0_0) = false := decide_eq_false c11; clear c11; obtain rfl := Option.some.inj H; obtain ⟨hfz13_0, _, _⟩ := cf2 BK108; go_wp2; go_ret; exact rt_y HB
mutual
def ship_checkSill.l0 : Nat → List (S62) → Int → Int → Int → Int → List (S62) → Option (Int)
 | 0, _, _, _, _, _, _ => none
 | k + 1, x22, x23, x24, x112000, x112001, x112002 => if x24 < x23 then (if 0 ≤ x24 then (if x24 < (x22.length : Int) then ((ship_in.f ((rd_T62 x22 x24).f0) 0 2880).bind fun t116 => (if t116 = true then (if x24 = 0 then (ship_checkSill.j1 k x24 x22 x23 x24 (((rd_T62 x22 x24).f0) != 0) x112000 x112001 x112002 ((rd_T62 x22 x24).f0) ((rd_T62 x22 x24).f1.f0) ((rd_T62 x22 x24).f1.f1)) else (ship_checkSill.j1 k x24 x22 x23 x24 false x112000 x112001 x112002 ((rd_T62 x22 x24).f0) ((rd_T62 x22 x24).f1.f0) ((rd_T62 x22 x24).f1.f1))) else (some 1))) else (none)) else (none)) else (some 0)
def ship_checkSill.j1 : Nat → Int → List (S62) → Int → Int → Bool → Int → Int → List (S62) → Int → Int → Int → Option (Int)
 | 0, _, _, _, _, _, _, _, _, _, _, _ => none
 | k + 1, x5, x22, x23, x24, x34, x112000, x112001, x112002, x116000, x116001, x116002 => if x34 = true then (some 2) else (if x5 > 0 then (if 0 ≤ (wrap64 (x5 - 1)) then (if (wrap64 (x5 - 1)) < (x112002.length : Int) then (ship_checkSill.j2 k x22 x23 x24 (decide (x116000 ≤ ((rd_T62 x112002 (wrap64 (x5 - 1))).f0))) x112000 x112001 x112002 x116000 x116001 x116002) else (none)) else (none)) else (ship_checkSill.j2 k x22 x23 x24 false x112000 x112001 x112002 x116000 x116001 x116002))
def ship_checkSill.j2 : Nat → List (S62) → Int → Int → Bool → Int → Int → List (S62) → Int → Int → Int → Option (Int)
 | 0, _, _, _, _, _, _, _, _, _, _ => none
 | k + 1, x22, x23, x24, x42, x112000, x112001, x112002, x116000, x116001, x116002 => if x42 = true then (some 5) else ((ship_checkRange.f k x116001 x116002 10000).bind fun t118 => (if t118 = 0 then (ship_checkSill.l0 k x22 x23 (wrap64 (x24 + 1)) x112000 x112001 x112002) else (some t118)))
end
def ship_checkSill.f (k : Nat) (a0_0 : Int) (a0_1 : Int) (l0_2 : List (S62)) : Option (Int) := (ship_checkRange.f k a0_0 a0_1 2880).bind fun t112 => (if t112 = 0 then ((ship_many.f (l0_2.length : Int) 6).bind fun t113 => (if t113 = 0 then (ship_checkSill.l0 k l0_2 (l0_2.length : Int) 0 a0_0 a0_1 l0_2) else (some t113))) else (some t112))
theorem ship_checkSill.mono_l : ∀ k, (∀ y0 y1 y2 y3 y4 y5, LeO (ship_checkSill.l0 k y0 y1 y2 y3 y4 y5) (ship_checkSill.l0 (k + 1) y0 y1 y2 y3 y4 y5)) ∧ (∀ y0 y1 y2 y3 y4 y5 y6 y7 y8 y9 y10, LeO (ship_checkSill.j1 k y0 y1 y2 y3 y4 y5 y6 y7 y8 y9 y10) (ship_checkSill.j1 (k + 1) y0 y1 y2 y3 y4 y5 y6 y7 y8 y9 y10)) ∧ (∀ y0 y1 y2 y3 y4 y5 y6 y7 y8 y9, LeO (ship_checkSill.j2 k y0 y1 y2 y3 y4 y5 y6 y7 y8 y9) (ship_checkSill.j2 (k + 1) y0 y1 y2 y3 y4 y5 y6 y7 y8 y9))
 | 0 => ⟨fun _ _ _ _ _ _ r h => by simp [ship_checkSill.l0] at h, fun _ _ _ _ _ _ _ _ _ _ _ r h => by simp [ship_checkSill.j1] at h, fun _ _ _ _ _ _ _ _ _ _ r h => by simp [ship_checkSill.j2] at h⟩
 | k + 1 => by
  obtain ⟨ih0, ih1, ih2⟩ := ship_checkSill.mono_l k; refine ⟨?_, ?_, ?_⟩
  ·
   intro y0 y1 y2 y3 y4 y5; unfold ship_checkSill.l0
   repeat' (with_reducible first | exact ih0 _ _ _ _ _ _ | exact ih1 _ _ _ _ _ _ _ _ _ _ _ | exact ih2 _ _ _ _ _ _ _ _ _ _ | exact ship_checkRange.mono _ _ _ _ | exact LeO.refl _ | exact LeO.none _ | refine LeO.ite ?_ ?_ | refine LeO.bind ?_ (fun _ => ?_))
  ·
   intro y0 y1 y2 y3 y4 y5 y6 y7 y8 y9 y10; unfold ship_checkSill.j1
   repeat' (with_reducible first | exact ih0 _ _ _ _ _ _ | exact ih1 _ _ _ _ _ _ _ _ _ _ _ | exact ih2 _ _ _ _ _ _ _ _ _ _ | exact ship_checkRange.mono _ _ _ _ | exact LeO.refl _ | exact LeO.none _ | refine LeO.ite ?_ ?_ | refine LeO.bind ?_ (fun _ => ?_))
  ·
   intro y0 y1 y2 y3 y4 y5 y6 y7 y8 y9; unfold ship_checkSill.j2
   repeat' (with_reducible first | exact ih0 _ _ _ _ _ _ | exact ih1 _ _ _ _ _ _ _ _ _ _ _ | exact ih2 _ _ _ _ _ _ _ _ _ _ | exact ship_checkRange.mono _ _ _ _ | exact LeO.refl _ | exact LeO.none _ | refine LeO.ite ?_ ?_ | refine LeO.bind ?_ (fun _ => ?_))
theorem ship_checkSill.mono : ∀ a0 a1 a2 k, LeO (ship_checkSill.f k a0 a1 a2) (ship_checkSill.f (k + 1) a0 a1 a2) := by
 intro a0 a1 a2 k
 obtain ⟨ih0, ih1, ih2⟩ := ship_checkSill.mono_l k
 unfold ship_checkSill.f
 repeat' (with_reducible first | exact ih0 _ _ _ _ _ _ | exact ih1 _ _ _ _ _ _ _ _ _ _ _ | exact ih2 _ _ _ _ _ _ _ _ _ _ | exact ship_checkRange.mono _ _ _ _ | exact LeO.refl _ | exact LeO.none _ | refine LeO.ite ?_ ?_ | refine LeO.bind ?_ (fun _ => ?_))
set_option maxHeartbeats 8000000 in
set_option maxRecDepth 100000 in
theorem ship_checkSill.calls (k : Nat) (a0_0 : Int) (a0_1 : Int) (A0_2 : Option Addr) (c0_2 : Nat) (l0_2 : List (S62)) (r : Int) (w : World) (hr0_2 : Kd.C k62 w A0_2 l0_2.length l0_2) (hc0_2 : l0_2.length ≤ c0_2) (h : ship_checkSill.f k a0_0 a0_1 l0_2 = some r) :
  Calls Try.prog 74 #[.agg #[.int .i64 a0_0, .int .i64 a0_1, .slice A0_2 l0_2.length c0_2]] w fun e w' => e = .returned (.int .i64 r) ∧ Below w.heap.size w w' := by
 have hu59 := Try.underlying59
 have hu56 := Try.underlying56
 have hu62 := Try.underlying62
 have HR0_2 := Aside0.mk hr0_2
 have HC0_2 := Aside0.mk hc0_2
 clear hr0_2 hc0_2
 have HB := Aside0.mk (Below.refl w.heap.size w)
 have H : ((ship_checkRange.f k a0_0 a0_1 2880).bind fun t112 => (if t112 = 0 then ((ship_many.f (l0_2.length : Int) 6).bind fun t113 => (if t113 = 0 then (ship_checkSill.l0 k l0_2 (l0_2.length : Int) 0 a0_0 a0_1 l0_2) else (some t113))) else (some t112))) = some r := h
 clear h
 replace H := Option.bind_eq_some_iff.mp H
 obtain ⟨t112, A20, H⟩ := H
 try dsimp only at H
 have A2 := Aside0.mk A20
 clear A20
 by_cases c3 : t112 = 0
 ·
  rw [if_pos c3] at H; have c3b0 : (t112 == 0) = true := beq_iff_eq.mpr c3; have c3b1 : (t112 != 0) = false := bne_eq_false_iff_eq.mpr c3; clear c3; replace H := Option.bind_eq_some_iff.mp H; obtain ⟨t113, A40, H⟩ := H
  try dsimp only at H
  have A4 := Aside0.mk A40; clear A40; by_cases c5 : t113 = 0
  ·
   rw [if_pos c5] at H; have c5b0 : (t113 == 0) = true := beq_iff_eq.mpr c5; have c5b1 : (t113 != 0) = false := bne_eq_false_iff_eq.mpr c5; clear c5; have H' := Aside0.mk H; clear H; go_enter Try.func74, Try.ntmps74
   go_wp2_with (first | (refine box_r (N := 1) rfl (cs := #[.int .i64 a0_0, .int .i64 a0_1, .slice A0_2 l0_2.length c0_2]) (t := 59) ?_; intro gb111 hg w6 hbox hb; have BK111 := Aside0.mk (hbox); have GW111 := gw_x hg HB; have GE111 := GW111; replace HB := Aside0.mk (below_step (below_x HB.out) hb); clear hb hbox hg; obtain ⟨hfz7_0, _, _, _⟩ := cf3 BK111) | (go_at_call 75; (with_reducible refine (ship_checkRange.calls k a0_0 a0_1 2880 t112 _ A2.out).mono ?_); rintro e w8 ⟨rfl, hb⟩; replace BK111 := bk_x BK111 hb; replace HB := bl_x HB hb; (try clear hb); (try clear hk); (try clear hi); obtain ⟨hfz9_0, _, _, _⟩ := cf3 BK111) | (go_at_call 73; (with_reducible refine (ship_many.calls (l0_2.length : Int) 6 t113 _ A4.out).mono ?_); rintro e w' ⟨rfl, ⟨nd, rfl⟩⟩; (try first | exact ⟨rfl, _, World.drewN_drewN _ _ _⟩ | exact ⟨rfl, _, Eq.trans (World.drewN_drewN _ _ _) (congrArg (World.drewN _) (Nat.add_assoc _ _ _))⟩)))
   repeat (go_quiet (first | (refine box_r (N := 1) rfl (cs := #[.int .i64 a0_0, .int .i64 a0_1, .slice A0_2 l0_2.length c0_2]) (t := 59) ?_; intro gb111 hg w6 hbox hb; have BK111 := Aside0.mk (hbox); have GW111 := gw_x hg HB; have GE111 := GW111; replace HB := Aside0.mk (below_step (below_x HB.out) hb); clear hb hbox hg; obtain ⟨hfz7_0, _, _, _⟩ := cf3 BK111) | (go_at_call 75; (with_reducible refine (ship_checkRange.calls k a0_0 a0_1 2880 t112 _ A2.out).mono ?_); rintro e w8 ⟨rfl, hb⟩; replace BK111 := bk_x BK111 hb; replace HB := bl_x HB hb; (try clear hb); (try clear hk); (try clear hi); obtain ⟨hfz9_0, _, _, _⟩ := cf3 BK111) | (go_at_call 73; (with_reducible refine (ship_many.calls (l0_2.length : Int) 6 t113 _ A4.out).mono ?_); rintro e w' ⟨rfl, ⟨nd, rfl⟩⟩; (try first | exact ⟨rfl, _, World.drewN_drewN _ _ _⟩ | exact ⟨rfl, _, Eq.trans (World.drewN_drewN _ _ _) (congrArg (World.drewN _) (Nat.add_assoc _ _ _))⟩))); try go_wp2_with (first | (refine box_r (N := 1) rfl (cs := #[.int .i64 a0_0, .int .i64 a0_1, .slice A0_2 l0_2.length c0_2]) (t := 59) ?_; intro gb111 hg w6 hbox hb; have BK111 := Aside0.mk (hbox); have GW111 := gw_x hg HB; have GE111 := GW111; replace HB := Aside0.mk (below_step (below_x HB.out) hb); clear hb hbox hg; obtain ⟨hfz7_0, _, _, _⟩ := cf3 BK111) | (go_at_call 75; (with_reducible refine (ship_checkRange.calls k a0_0 a0_1 2880 t112 _ A2.out).mono ?_); rintro e w8 ⟨rfl, hb⟩; replace BK111 := bk_x BK111 hb; replace HB := bl_x HB hb; (try clear hb); (try clear hk); (try clear hi); obtain ⟨hfz9_0, _, _, _⟩ := cf3 BK111) | (go_at_call 73; (with_reducible refine (ship_many.calls (l0_2.length : Int) 6 t113 _ A4.out).mono ?_); rintro e w' ⟨rfl, ⟨nd, rfl⟩⟩; (try first | exact ⟨rfl, _, World.drewN_drewN _ _ _⟩ | exact ⟨rfl, _, Eq.trans (World.drewN_drewN _ _ _) (congrArg (World.drewN _) (Nat.add_assoc _ _ _))⟩))))
   go_loopg [24] k (fun kq v24 w' => ∃ (x24_1 : Int), v24 = .int .i64 x24_1 ∧ Aside0 (ship_checkSill.l0 kq l0_2 (l0_2.length : Int) x24_1 a0_0 a0_1 l0_2 = some r) ∧ Aside0 (kq ≤ k) ∧ Aside0 (w'.heap[gb111]? = some (.cells #[.int .i64 a0_0, .int .i64 a0_1, (.slice A0_2 l0_2.length c0_2)] 59 (0, 0))) ∧ Aside0 (Below w.heap.size w w'))
   case atStart => exact ⟨(0), (by first | rfl | (simp; done) | (simp [*]; done)), H', ⟨Nat.le_refl _⟩, ⟨blk_x BK111.out⟩, ⟨by exact below_y HB.out⟩⟩
   case round =>
    clear H'; obtain ⟨x24_1, rfl, HA, HK1, BK111, HB⟩ := hrel; cases gk with
    | zero => exact absurd HA.out (by simp [ship_checkSill.l0])
    | succ k1 =>
     have H := HA.out; clear HA; simp only [ship_checkSill.l0] at H; by_cases c10 : x24_1 < (l0_2.length : Int)
     ·
      rw [if_pos c10] at H; have c10b0 : decide (x24_1 < (l0_2.length : Int)) = true := decide_eq_true c10; clear c10; by_cases c11 : 0 ≤ x24_1
      ·
       rw [if_pos c11] at H; have c11b0 : decide (0 ≤ x24_1) = true := decide_eq_true c11; clear c11; by_cases c12 : x24_1 < (l0_2.length : Int)
       ·
        rw [if_pos c12] at H; have c12b0 : decide (x24_1 < (l0_2.length : Int)) = true := decide_eq_true c12; clear c12; replace H := Option.bind_eq_some_iff.mp H; obtain ⟨t116, A130, H⟩ := H
        try dsimp only at H
        have A13 := Aside0.mk A130; clear A130; by_cases c14 : t116 = true
        ·
         subst c14; (have H1 : (if x24_1 = 0 then (ship_checkSill.j1 k1 x24_1 l0_2 (l0_2.length : Int) x24_1 (((rd_T62 l0_2 x24_1).f0) != 0) a0_0 a0_1 l0_2 ((rd_T62 l0_2 x24_1).f0) ((rd_T62 l0_2 x24_1).f1.f0) ((rd_T62 l0_2 x24_1).f1.f1)) else (ship_checkSill.j1 k1 x24_1 l0_2 (l0_2.length : Int) x24_1 false a0_0 a0_1 l0_2 ((rd_T62 l0_2 x24_1).f0) ((rd_T62 l0_2 x24_1).f1.f0) ((rd_T62 l0_2 x24_1).f1.f1))) = some r := by rw [if_pos rfl] at H; exact H); clear H; have H := H1; clear H1; have HC15 := Aside0.mk H; clear H; have p114 : 0 ≤ (x24_1 : Int) := of_x; have q114 : x24_1 < (l0_2.length : Int) := of_x; obtain ⟨ad114, e114, hx114_0, hx114_1, hx114_2⟩ := at_T62 HR0_2.out x24_1 p114 q114; (cases e114); replace hx114_0 := cell_x HB hx114_0; replace hx114_1 := cell_x HB hx114_1; replace hx114_2 := cell_x HB hx114_2; replace p114 := eq_true p114; replace q114 := eq_true q114
         go_upto_region 12 with (first | (refine box_r (N := 6) rfl (cs := #[.int .i64 0, .int .i64 0, .int .i64 0]) (t := 62) ?_; intro gb115 hg w16 hbox hb; have BK115 := Aside0.mk (hbox); have GW115 := gw_x hg HB; have GE115 := GW115; replace HB := bl_x HB hb; have NB111_115 := nb_x hg BK111; have NB115_111 := nb_y hg BK111; replace BK111 := bk_x BK111 hb; clear hb hbox hg; have hnb17 := NB115_111.out; have hnc17 := NB111_115.out; obtain ⟨hfz18_0, _, _, _⟩ := cf3 BK115) | (go_at_call 72; (with_reducible refine (ship_in.calls ((rd_T62 l0_2 x24_1).f0) 0 2880 true _ A13.out).mono ?_); rintro e w' ⟨rfl, ⟨nd, rfl⟩⟩; (try first | exact ⟨rfl, _, World.drewN_drewN _ _ _⟩ | exact ⟨rfl, _, Eq.trans (World.drewN_drewN _ _ _) (congrArg (World.drewN _) (Nat.add_assoc _ _ _))⟩)))
         repeat (go_quiet (first | (refine box_r (N := 6) rfl (cs := #[.int .i64 0, .int .i64 0, .int .i64 0]) (t := 62) ?_; intro gb115 hg w16 hbox hb; have BK115 := Aside0.mk (hbox); have GW115 := gw_x hg HB; have GE115 := GW115; replace HB := bl_x HB hb; have NB111_115 := nb_x hg BK111; have NB115_111 := nb_y hg BK111; replace BK111 := bk_x BK111 hb; clear hb hbox hg; have hnb17 := NB115_111.out; have hnc17 := NB111_115.out; obtain ⟨hfz18_0, _, _, _⟩ := cf3 BK115) | (go_at_call 72; (with_reducible refine (ship_in.calls ((rd_T62 l0_2 x24_1).f0) 0 2880 true _ A13.out).mono ?_); rintro e w' ⟨rfl, ⟨nd, rfl⟩⟩; (try first | exact ⟨rfl, _, World.drewN_drewN _ _ _⟩ | exact ⟨rfl, _, Eq.trans (World.drewN_drewN _ _ _) (congrArg (World.drewN _) (Nat.add_assoc _ _ _))⟩))); go_upto_region 12 with (first | (refine box_r (N := 6) rfl (cs := #[.int .i64 0, .int .i64 0, .int .i64 0]) (t := 62) ?_; intro gb115 hg w16 hbox hb; have BK115 := Aside0.mk (hbox); have GW115 := gw_x hg HB; have GE115 := GW115; replace HB := bl_x HB hb; have NB111_115 := nb_x hg BK111; have NB115_111 := nb_y hg BK111; replace BK111 := bk_x BK111 hb; clear hb hbox hg; have hnb17 := NB115_111.out; have hnc17 := NB111_115.out; obtain ⟨hfz18_0, _, _, _⟩ := cf3 BK115) | (go_at_call 72; (with_reducible refine (ship_in.calls ((rd_T62 l0_2 x24_1).f0) 0 2880 true _ A13.out).mono ?_); rintro e w' ⟨rfl, ⟨nd, rfl⟩⟩; (try first | exact ⟨rfl, _, World.drewN_drewN _ _ _⟩ | exact ⟨rfl, _, Eq.trans (World.drewN_drewN _ _ _) (congrArg (World.drewN _) (Nat.add_assoc _ _ _))⟩))))
         (try simp only [Act.put, put_x])
         go_cut [34] (fun v34 wc => ∃ (kq : Nat) (x34_14 : Bool), v34 = .bool x34_14 ∧ Aside0 (ship_checkSill.j1 kq x24_1 l0_2 (l0_2.length : Int) x24_1 x34_14 a0_0 a0_1 l0_2 ((rd_T62 l0_2 x24_1).f0) ((rd_T62 l0_2 x24_1).f1.f0) ((rd_T62 l0_2 x24_1).f1.f1) = some r) ∧ Aside0 (kq ≤ k1) ∧ Aside0 (wc.heap[gb111]? = some (.cells #[.int .i64 a0_0, .int .i64 a0_1, (.slice (some ad114) l0_2.length c0_2)] 59 (0, 0))) ∧ Aside0 (wc.heap[gb115]? = some (.cells #[.int .i64 ((rd_T62 l0_2 x24_1).f0), .int .i64 ((rd_T62 l0_2 x24_1).f1.f0), .int .i64 ((rd_T62 l0_2 x24_1).f1.f1)] 62 (0, 0))) ∧ Aside0 (Below w.heap.size w wc))
         case first =>
          have H := HC15.out; clear HC15; by_cases c19 : x24_1 = 0
          ·
           rw [if_pos c19] at H; have c19b0 : (x24_1 == 0) = true := beq_iff_eq.mpr c19; have c19b1 : (x24_1 != 0) = false := bne_eq_false_iff_eq.mpr c19; clear c19
           (first | rw [c19b0] | (simp only [i64_w, i32_w]; rw [c19b0]) | skip)
           have H' := Aside0.mk H; clear H; have hnb20 := NB115_111.out; have hnc20 := NB111_115.out; obtain ⟨hfz21_0, _, _, _⟩ := cf3 BK115; go_wp2
           repeat (go_quiet (fail); try go_wp2)
           go_meet
           case rel => exact ⟨_, ((((rd_T62 l0_2 x24_1).f0) != 0)), (by first | rfl | (simp; done) | (simp [*]; done)), H', ⟨by have := HK1.out; first | omega | exact Nat.le_refl _⟩, ⟨blk_w BK111.out⟩, ⟨blk_z BK115.out⟩, ⟨by exact below_y HB.out⟩⟩
          ·
           rw [if_neg c19] at H; have c19b0 : (x24_1 == 0) = false := beq_eq_false_iff_ne.mpr c19; have c19b1 : (x24_1 != 0) = true := bne_iff_ne.mpr c19
           (first | rw [c19b0] | (simp only [i64_w, i32_w]; rw [c19b0]) | skip)
           have H' := Aside0.mk H; clear H; go_wp2
           repeat (go_quiet (fail); try go_wp2)
           go_meet
           case rel => exact ⟨_, (false), (by first | rfl | (simp; done) | (simp [*]; done)), H', ⟨by have := HK1.out; first | omega | exact Nat.le_refl _⟩, ⟨blk_w BK111.out⟩, ⟨blk_z BK115.out⟩, ⟨by exact below_y HB.out⟩⟩
         case rest =>
          clear HC15; obtain ⟨kq, x34_14, rfl, HA, HJ14, BK111, BK115, HB⟩ := hcut; cases kq with
          | zero => exact absurd HA.out (by simp [ship_checkSill.j1])
          | succ kj14 =>
           have H := HA.out; clear HA; simp only [ship_checkSill.j1] at H; by_cases c22 : x34_14 = true
           ·
            subst c22; (have H1 : (some 2) = some r := by rw [if_pos rfl] at H; exact H); clear H; have H := H1; clear H1; obtain rfl := Option.some.inj H; go_wp2
            repeat (go_quiet (fail); try go_wp2)
            go_ret; exact rt_y HB
           ·
            replace c22 := Bool.eq_false_iff.mpr c22; subst c22; replace H : (if x24_1 > 0 then (if 0 ≤ (wrap64 (x24_1 - 1)) then (if (wrap64 (x24_1 - 1)) < (l0_2.length : Int) then (ship_checkSill.j2 kj14 l0_2 (l0_2.length : Int) x24_1 (decide (((rd_T62 l0_2 x24_1).f0) ≤ ((rd_T62 l0_2 (wrap64 (x24_1 - 1))).f0))) a0_0 a0_1 l0_2 ((rd_T62 l0_2 x24_1).f0) ((rd_T62 l0_2 x24_1).f1.f0) ((rd_T62 l0_2 x24_1).f1.f1)) else (none)) else (none)) else (ship_checkSill.j2 kj14 l0_2 (l0_2.length : Int) x24_1 false a0_0 a0_1 l0_2 ((rd_T62 l0_2 x24_1).f0) ((rd_T62 l0_2 x24_1).f1.f0) ((rd_T62 l0_2 x24_1).f1.f1))) = some r := ifn_x H; have HC23 := Aside0.mk H; clear H
            go_upto_region 14 with (fail)
            repeat (go_quiet (fail); go_upto_region 14 with (fail))
            go_cut [42] (fun v42 wc => ∃ (kq : Nat) (x42_22 : Bool), v42 = .bool x42_22 ∧ Aside0 (ship_checkSill.j2 kq l0_2 (l0_2.length : Int) x24_1 x42_22 a0_0 a0_1 l0_2 ((rd_T62 l0_2 x24_1).f0) ((rd_T62 l0_2 x24_1).f1.f0) ((rd_T62 l0_2 x24_1).f1.f1) = some r) ∧ Aside0 (kq ≤ kj14) ∧ Aside0 (wc.heap[gb111]? = some (.cells #[.int .i64 a0_0, .int .i64 a0_1, (.slice (some ad114) l0_2.length c0_2)] 59 (0, 0))) ∧ Aside0 (wc.heap[gb115]? = some (.cells #[.int .i64 ((rd_T62 l0_2 x24_1).f0), .int .i64 ((rd_T62 l0_2 x24_1).f1.f0), .int .i64 ((rd_T62 l0_2 x24_1).f1.f1)] 62 (0, 0))) ∧ Aside0 (Below w.heap.size w wc))
            case first =>
             have H := HC23.out; clear HC23; by_cases c24 : x24_1 > 0
             ·
              rw [if_pos c24] at H; have c24b0 : decide (0 < x24_1) = true := decide_eq_true c24; clear c24
              (first | rw [c24b0] | (simp only [i64_w, i32_w]; rw [c24b0]) | skip)
              obtain ⟨ji25, hji25⟩ : ∃ j_ : Int, (wrap64 (x24_1 - 1)) = j_ := ⟨_, rfl⟩; (replace H : (if 0 ≤ (ji25) then (if (ji25) < (l0_2.length : Int) then (ship_checkSill.j2 kj14 l0_2 (l0_2.length : Int) x24_1 (decide (((rd_T62 l0_2 x24_1).f0) ≤ ((rd_T62 l0_2 (ji25)).f0))) a0_0 a0_1 l0_2 ((rd_T62 l0_2 x24_1).f0) ((rd_T62 l0_2 x24_1).f1.f0) ((rd_T62 l0_2 x24_1).f1.f1)) else (none)) else (none)) = some r := by first | (rw [hji25] at H; exact H) | (simp only [hji25] at H ⊢; exact H)); have hji25w : (IntKind.i64.wrap (x24_1 - 1)) = ji25 := (i64_w _).trans hji25; by_cases c26 : 0 ≤ (ji25)
              ·
               rw [if_pos c26] at H; have c26b0 : decide (0 ≤ (ji25)) = true := decide_eq_true c26; clear c26; by_cases c27 : (ji25) < (l0_2.length : Int)
               ·
                rw [if_pos c27] at H; have c27b0 : decide ((ji25) < (l0_2.length : Int)) = true := decide_eq_true c27; clear c27; have H' := Aside0.mk H; clear H; have hnb28 := NB115_111.out; have hnc28 := NB111_115.out; obtain ⟨hfz29_0, _, _, _⟩ := cf3 BK115; obtain ⟨hfz30_0, _, _, _⟩ := cf3 BK111; have p117 : 0 ≤ ((ji25) : Int) := of_x; have q117 : (ji25) < (l0_2.length : Int) := of_x; obtain ⟨ad117, e117, hx117_0, hx117_1, hx117_2⟩ := at_T62 HR0_2.out (ji25) p117 q117; obtain rfl : ad114 = ad117 := (by injection e117); replace hx117_0 := cell_x HB hx117_0; replace hx117_1 := cell_x HB hx117_1; replace hx117_2 := cell_x HB hx117_2; replace p117 := eq_true p117; replace q117 := eq_true q117; go_wp2
                repeat (go_quiet (fail); try go_wp2)
                go_meet
                case rel => exact ⟨_, (decide (((rd_T62 l0_2 x24_1).f0) ≤ ((rd_T62 l0_2 (ji25)).f0))), (by first | rfl | (simp; done) | (simp only [← hji25] <;> (first | rfl | simp)) | (simp [*]; done)), H', ⟨by have := HK1.out; have := HJ14.out; first | omega | exact Nat.le_refl _⟩, ⟨blk_x BK111.out⟩, ⟨blk_x BK115.out⟩, ⟨by exact below_y HB.out⟩⟩
               ·
                rw [if_neg c27] at H; exact absurd H (by simp)
              ·
               rw [if_neg c26] at H; exact absurd H (by simp)
             ·
              rw [if_neg c24] at H; have c24b0 : decide (0 < x24_1) = false := decide_eq_false c24; clear c24
              (first | rw [c24b0] | (simp only [i64_w, i32_w]; rw [c24b0]) | skip)
              have H' := Aside0.mk H; clear H; go_wp2
              repeat (go_quiet (fail); try go_wp2)
              go_meet
              case rel => exact ⟨_, (false), (by first | rfl | (simp; done) | (simp [*]; done)), H', ⟨by have := HK1.out; have := HJ14.out; first | omega | exact Nat.le_refl _⟩, ⟨blk_x BK111.out⟩, ⟨blk_x BK115.out⟩, ⟨by exact below_y HB.out⟩⟩
            case rest =>
             clear HC23; obtain ⟨kq, x42_22, rfl, HA, HJ22, BK111, BK115, HB⟩ := hcut; cases kq with
             | zero => exact absurd HA.out (by simp [ship_checkSill.j2])
             | succ kj22 =>
              have H := HA.out; clear HA; simp only [ship_checkSill.j2] at H; by_cases c31 : x42_22 = true
              ·
               subst c31; (have H1 : (some 5) = some r := by rw [if_pos rfl] at H; exact H); clear H; have H := H1; clear H1; obtain rfl := Option.some.inj H; go_wp2
               repeat (go_quiet (fail); try go_wp2)
               go_ret; exact rt_y HB
              ·
               replace c31 := Bool.eq_false_iff.mpr c31; subst c31; replace H : ((ship_checkRange.f kj22 ((rd_T62 l0_2 x24_1).f1.f0) ((rd_T62 l0_2 x24_1).f1.f1) 10000).bind fun t118 => (if t118 = 0 then (ship_checkSill.l0 kj22 l0_2 (l0_2.length : Int) (wrap64 (x24_1 + 1)) a0_0 a0_1 l0_2) else (some t118))) = some r := ifn_x H; replace H := Option.bind_eq_some_iff.mp H; obtain ⟨t118, A320, H⟩ := H
               try dsimp only at H
               have A32 := Aside0.mk A320; clear A320; by_cases c33 : t118 = 0
               ·
                rw [if_pos c33] at H; have c33b0 : (t118 == 0) = true := beq_iff_eq.mpr c33; have c33b1 : (t118 != 0) = false := bne_eq_false_iff_eq.mpr c33; clear c33; have H' := Aside0.mk H; clear H; have hnb34 := NB115_111.out; have hnc34 := NB111_115.out; obtain ⟨hfz35_0, _, _, _⟩ := cf3 BK115
                go_wp2_with (first | (go_at_call 75; (with_reducible refine (ship_checkRange.calls kj22 ((rd_T62 l0_2 x24_1).f1.f0) ((rd_T62 l0_2 x24_1).f1.f1) 10000 t118 _ A32.out).mono ?_); rintro e w36 ⟨rfl, hb⟩; replace BK111 := bk_x BK111 hb; replace BK115 := bk_x BK115 hb; replace HB := bl_x HB hb; (try clear hb); (try clear hk); (try clear hi)))
                repeat (go_quiet (first | (go_at_call 75; (with_reducible refine (ship_checkRange.calls kj22 ((rd_T62 l0_2 x24_1).f1.f0) ((rd_T62 l0_2 x24_1).f1.f1) 10000 t118 _ A32.out).mono ?_); rintro e w36 ⟨rfl, hb⟩; replace BK111 := bk_x BK111 hb; replace BK115 := bk_x BK115 hb; replace HB := bl_x HB hb; (try clear hb); (try clear hk); (try clear hi))); try go_wp2_with (first | (go_at_call 75; (with_reducible refine (ship_checkRange.calls kj22 ((rd_T62 l0_2 x24_1).f1.f0) ((rd_T62 l0_2 x24_1).f1.f1) 10000 t118 _ A32.out).mono ?_); rintro e w36 ⟨rfl, hb⟩; replace BK111 := bk_x BK111 hb; replace BK115 := bk_x BK115 hb; replace HB := bl_x HB hb; (try clear hb); (try clear hk); (try clear hi))))
                go_roundg kj22
                case measure => have := HK1.out; have := HJ14.out; have := HJ22.out; omega
                case rel => exact ⟨(wrap64 (x24_1 + 1)), (by first | rfl | (simp; done) | (simp [*]; done)), H', ⟨by have := HK1.out; have := HJ14.out; have := HJ22.out; omega⟩, ⟨blk_x BK111.out⟩, ⟨by exact below_y HB.out⟩⟩
               ·
                rw [if_neg c33] at H; have c33b0 : (t118 == 0) = false := beq_eq_false_iff_ne.mpr c33; have c33b1 : (t118 != 0) = true := bne_iff_ne.mpr c33; obtain rfl := Option.some.inj H; have hnb37 := NB115_111.out; have hnc37 := NB111_115.out; obtain ⟨hfz38_0, _, _, _⟩ := cf3 BK115
                go_wp2_with (first | (go_at_call 75; (with_reducible refine (ship_checkRange.calls kj22 ((rd_T62 l0_2 x24_1).f1.f0) ((rd_T62 l0_2 x24_1).f1.f1) 10000 t118 _ A32.out).mono ?_); rintro e w39 ⟨rfl, hb⟩; replace BK111 := bk_x BK111 hb; replace BK115 := bk_x BK115 hb; replace HB := bl_x HB hb; (try clear hb); (try clear hk); (try clear hi)))
                repeat (go_quiet (first | (go_at_call 75; (with_reducible refine (ship_checkRange.calls kj22 ((rd_T62 l0_2 x24_1).f1.f0) ((rd_T62 l0_2 x24_1).f1.f1) 10000 t118 _ A32.out).mono ?_); rintro e w39 ⟨rfl, hb⟩; replace BK111 := bk_x BK111 hb; replace BK115 := bk_x BK115 hb; replace HB := bl_x HB hb; (try clear hb); (try clear hk); (try clear hi))); try go_wp2_with (first | (go_at_call 75; (with_reducible refine (ship_checkRange.calls kj22 ((rd_T62 l0_2 x24_1).f1.f0) ((rd_T62 l0_2 x24_1).f1.f1) 10000 t118 _ A32.out).mono ?_); rintro e w39 ⟨rfl, hb⟩; replace BK111 := bk_x BK111 hb; replace BK115 := bk_x BK115 hb; replace HB := bl_x HB hb; (try clear hb); (try clear hk); (try clear hi))))
                go_ret; exact rt_y HB
        ·
         replace c14 := Bool.eq_false_iff.mpr c14; subst c14; replace H : (some 1) = some r := ifn_x H; obtain rfl := Option.some.inj H; have p114 : 0 ≤ (x24_1 : Int) := of_x; have q114 : x24_1 < (l0_2.length : Int) := of_x; obtain ⟨ad114, e114, hx114_0, hx114_1, hx114_2⟩ := at_T62 HR0_2.out x24_1 p114 q114; (cases e114); replace hx114_0 := cell_x HB hx114_0; replace hx114_1 := cell_x HB hx114_1; replace hx114_2 := cell_x HB hx114_2; replace p114 := eq_true p114; replace q114 := eq_true q114
         go_wp2_with (first | (refine box_r (N := 6) rfl (cs := #[.int .i64 0, .int .i64 0, .int .i64 0]) (t := 62) ?_; intro gb115 hg w40 hbox hb; have BK115 := Aside0.mk (hbox); have GW115 := gw_x hg HB; have GE115 := GW115; replace HB := bl_x HB hb; have NB111_115 := nb_x hg BK111; have NB115_111 := nb_y hg BK111; replace BK111 := bk_x BK111 hb; clear hb hbox hg; have hnb41 := NB115_111.out; have hnc41 := NB111_115.out; obtain ⟨hfz42_0, _, _, _⟩ := cf3 BK115) | (go_at_call 72; (with_reducible refine (ship_in.calls ((rd_T62 l0_2 x24_1).f0) 0 2880 false _ A13.out).mono ?_); rintro e w' ⟨rfl, ⟨nd, rfl⟩⟩; (try first | exact ⟨rfl, _, World.drewN_drewN _ _ _⟩ | exact ⟨rfl, _, Eq.trans (World.drewN_drewN _ _ _) (congrArg (World.drewN _) (Nat.add_assoc _ _ _))⟩)))
         repeat (go_quiet (first | (refine box_r (N := 6) rfl (cs := #[.int .i64 0, .int .i64 0, .int .i64 0]) (t := 62) ?_; intro gb115 hg w40 hbox hb; have BK115 := Aside0.mk (hbox); have GW115 := gw_x hg HB; have GE115 := GW115; replace HB := bl_x HB hb; have NB111_115 := nb_x hg BK111; have NB115_111 := nb_y hg BK111; replace BK111 := bk_x BK111 hb; clear hb hbox hg; have hnb41 := NB115_111.out; have hnc41 := NB111_115.out; obtain ⟨hfz42_0, _, _, _⟩ := cf3 BK115) | (go_at_call 72; (with_reducible refine (ship_in.calls ((rd_T62 l0_2 x24_1).f0) 0 2880 false _ A13.out).mono ?_); rintro e w' ⟨rfl, ⟨nd, rfl⟩⟩; (try first | exact ⟨rfl, _, World.drewN_drewN _ _ _⟩ | exact ⟨rfl, _, Eq.trans (World.drewN_drewN _ _ _) (congrArg (World.drewN _) (Nat.add_assoc _ _ _))⟩))); try go_wp2_with (first | (refine box_r (N := 6) rfl (cs := #[.int .i64 0, .int .i64 0, .int .i64 0]) (t := 62) ?_; intro gb115 hg w40 hbox hb; have BK115 := Aside0.mk (hbox); have GW115 := gw_x hg HB; have GE115 := GW115; replace HB := bl_x HB hb; have NB111_115 := nb_x hg BK111; have NB115_111 := nb_y hg BK111; replace BK111 := bk_x BK111 hb; clear hb hbox hg; have hnb41 := NB115_111.out; have hnc41 := NB111_115.out; obtain ⟨hfz42_0, _, _, _⟩ := cf3 BK115) | (go_at_call 72; (with_reducible refine (ship_in.calls ((rd_T62 l0_2 x24_1).f0) 0 2880 false _ A13.out).mono ?_); rintro e w' ⟨rfl, ⟨nd, rfl⟩⟩; (try first | exact ⟨rfl, _, World.drewN_drewN _ _ _⟩ | exact ⟨rfl, _, Eq.trans (World.drewN_drewN _ _ _) (congrArg (World.drewN _) (Nat.add_assoc _ _ _))⟩))))
         go_ret; exact rt_y HB
       ·
        rw [if_neg c12] at H; exact absurd H (by simp)
      ·
       rw [if_neg c11] at H; exact absurd H (by simp)
     ·
      rw [if_neg c10] at H; have c10b0 : decide (x24_1 < (l0_2.length : Int)) = false := decide_eq_false c10; clear c10; obtain rfl := Option.some.inj H; go_wp2
      repeat (go_quiet (fail); try go_wp2)
      go_ret; exact rt_y HB
  ·
   rw [if_neg c5] at H; have c5b0 : (t113 == 0) = false := beq_eq_false_iff_ne.mpr c5; have c5b1 : (t113 != 0) = true := bne_iff_ne.mpr c5; obtain rfl := Option.some.inj H; go_enter Try.func74, Try.ntmps74
   go_wp2_with (first | (refine box_r (N := 1) rfl (cs := #[.int .i64 a0_0, .int .i64 a0_1, .slice A0_2 l0_2.length c0_2]) (t := 59) ?_; intro gb111 hg w43 hbox hb; have BK111 := Aside0.mk (hbox); have GW111 := gw_x hg HB; have GE111 := GW111; replace HB := Aside0.mk (below_step (below_x HB.out) hb); clear hb hbox hg; obtain ⟨hfz44_0, _, _, _⟩ := cf3 BK111) | (go_at_call 75; (with_reducible refine (ship_checkRange.calls k a0_0 a0_1 2880 t112 _ A2.out).mono ?_); rintro e w45 ⟨rfl, hb⟩; replace BK111 := bk_x BK111 hb; replace HB := bl_x HB hb; (try clear hb); (try clear hk); (try clear hi); obtain ⟨hfz46_0, _, _, _⟩ := cf3 BK111) | (go_at_call 73; (with_reducible refine (ship_many.calls (l0_2.length : Int) 6 t113 _ A4.out).mono ?_); rintro e w' ⟨rfl, ⟨nd, rfl⟩⟩; (try first | exact ⟨rfl, _, World.drewN_drewN _ _ _⟩ | exact ⟨rfl, _, Eq.trans (World.drewN_drewN _ _ _) (congrArg (World.drewN _) (Nat.add_assoc _ _ _))⟩)))
   repeat (go_quiet (first | (refine box_r (N := 1) rfl (cs := #[.int .i64 a0_0, .int .i64 a0_1, .slice A0_2 l0_2.length c0_2]) (t := 59) ?_; intro gb111 hg w43 hbox hb; have BK111 := Aside0.mk (hbox); have GW111 := gw_x hg HB; have GE111 := GW111; replace HB := Aside0.mk (below_step (below_x HB.out) hb); clear hb hbox hg; obtain ⟨hfz44_0, _, _, _⟩ := cf3 BK111) | (go_at_call 75; (with_reducible refine (ship_checkRange.calls k a0_0 a0_1 2880 t112 _ A2.out).mono ?_); rintro e w45 ⟨rfl, hb⟩; replace BK111 := bk_x BK111 hb; replace HB := bl_x HB hb; (try clear hb); (try clear hk); (try clear hi); obtain ⟨hfz46_0, _, _, _⟩ := cf3 BK111) | (go_at_call 73; (with_reducible refine (ship_many.calls (l0_2.length : Int) 6 t113 _ A4.out).mono ?_); rintro e w' ⟨rfl, ⟨nd, rfl⟩⟩; (try first | exact ⟨rfl, _, World.drewN_drewN _ _ _⟩ | exact ⟨rfl, _, Eq.trans (World.drewN_drewN _ _ _) (congrArg (World.drewN _) (Nat.add_assoc _ _ _))⟩))); try go_wp2_with (first | (refine box_r (N := 1) rfl (cs := #[.int .i64 a0_0, .int .i64 a0_1, .slice A0_2 l0_2.length c0_2]) (t := 59) ?_; intro gb111 hg w43 hbox hb; have BK111 := Aside0.mk (hbox); have GW111 := gw_x hg HB; have GE111 := GW111; replace HB := Aside0.mk (below_step (below_x HB.out) hb); clear hb hbox hg; obtain ⟨hfz44_0, _, _, _⟩ := cf3 BK111) | (go_at_call 75; (with_reducible refine (ship_checkRange.calls k a0_0 a0_1 2880 t112 _ A2.out).mono ?_); rintro e w45 ⟨rfl, hb⟩; replace BK111 := bk_x BK111 hb; replace HB := bl_x HB hb; (try clear hb); (try clear hk); (try clear hi); obtain ⟨hfz46_0, _, _, _⟩ := cf3 BK111) | (go_at_call 73; (with_reducible refine (ship_many.calls (l0_2.length : Int) 6 t113 _ A4.out).mono ?_); rintro e w' ⟨rfl, ⟨nd, rfl⟩⟩; (try first | exact ⟨rfl, _, World.drewN_drewN _ _ _⟩ | exact ⟨rfl, _, Eq.trans (World.drewN_drewN _ _ _) (congrArg (World.drewN _) (Nat.add_assoc _ _ _))⟩))))
   go_ret; exact rt_y HB
 ·
  rw [if_neg c3] at H; have c3b0 : (t112 == 0) = false := beq_eq_false_iff_ne.mpr c3; have c3b1 : (t112 != 0) = true := bne_iff_ne.mpr c3; obtain rfl := Option.some.inj H; go_enter Try.func74, Try.ntmps74
  go_wp2_with (first | (refine box_r (N := 1) rfl (cs := #[.int .i64 a0_0, .int .i64 a0_1, .slice A0_2 l0_2.length c0_2]) (t := 59) ?_; intro gb111 hg w47 hbox hb; have BK111 := Aside0.mk (hbox); have GW111 := gw_x hg HB; have GE111 := GW111; replace HB := Aside0.mk (below_step (below_x HB.out) hb); clear hb hbox hg; obtain ⟨hfz48_0, _, _, _⟩ := cf3 BK111) | (go_at_call 75; (with_reducible refine (ship_checkRange.calls k a0_0 a0_1 2880 t112 _ A2.out).mono ?_); rintro e w49 ⟨rfl, hb⟩; replace BK111 := bk_x BK111 hb; replace HB := bl_x HB hb; (try clear hb); (try clear hk); (try clear hi)))
  repeat (go_quiet (first | (refine box_r (N := 1) rfl (cs := #[.int .i64 a0_0, .int .i64 a0_1, .slice A0_2 l0_2.length c0_2]) (t := 59) ?_; intro gb111 hg w47 hbox hb; have BK111 := Aside0.mk (hbox); have GW111 := gw_x hg HB; have GE111 := GW111; replace HB := Aside0.mk (below_step (below_x HB.out) hb); clear hb hbox hg; obtain ⟨hfz48_0, _, _, _⟩ := cf3 BK111) | (go_at_call 75; (with_reducible refine (ship_checkRange.calls k a0_0 a0_1 2880 t112 _ A2.out).mono ?_); rintro e w49 ⟨rfl, hb⟩; replace BK111 := bk_x BK111 hb; replace HB := bl_x HB hb; (try clear hb); (try clear hk); (try clear hi))); try go_wp2_with (first | (refine box_r (N := 1) rfl (cs := #[.int .i64 a0_0, .int .i64 a0_1, .slice A0_2 l0_2.length c0_2]) (t := 59) ?_; intro gb111 hg w47 hbox hb; have BK111 := Aside0.mk (hbox); have GW111 := gw_x hg HB; have GE111 := GW111; replace HB := Aside0.mk (below_step (below_x HB.out) hb); clear hb hbox hg; obtain ⟨hfz48_0, _, _, _⟩ := cf3 BK111) | (go_at_call 75; (with_reducible refine (ship_checkRange.calls k a0_0 a0_1 2880 t112 _ A2.out).mono ?_); rintro e w49 ⟨rfl, hb⟩; replace BK111 := bk_x BK111 hb; replace HB := bl_x HB hb; (try clear hb); (try clear hk); (try clear hi))))
  go_ret; exact rt_y HB
mutual
def ship_Check.j0 : Nat → Bool → Int → Int → Int → List (S85) → Int → List (S59) → List (S79) → Option (Int)
 | 0, _, _, _, _, _, _, _, _ => none
 | k + 1, x27, x120000, x120001, x120002, x120003, x120004, x120005, x120006 => if x27 = true then (some 1) else ((ship_many.f (x120003.length : Int) 3).bind fun t123 => (if t123 = 0 then (ship_Check.l0 k x120003 (x120003.length : Int) 0 x120000 x120001 x120002 x120003 x120004 x120005 x120006) else (some t123)))
def ship_Check.l0 : Nat → List (S85) → Int → Int → Int → Int → Int → List (S85) → Int → List (S59) → List (S79) → Option (Int)
 | 0, _, _, _, _, _, _, _, _, _, _ => none
 | k + 1, x36, x37, x38, x120000, x120001, x120002, x120003, x120004, x120005, x120006 => if x38 < x37 then (if 0 ≤ x38 then (if x38 < (x36.length : Int) then ((ship_in.f ((rd_T85 x36 x38).f0) 0 5000).bind fun t126 => (if t126 = true then ((ship_in.f ((rd_T85 x36 x38).f1) 0 10000).bind fun t127 => (if t127 = true then ((ship_in.f ((rd_T85 x36 x38).f2) 0 10000).bind fun t128 => (if t128 = true then (ship_Check.l0 k x36 x37 (wrap64 (x38 + 1)) x120000 x120001 x120002 x120003 x120004 x120005 x120006) else (some 1))) else (some 1))) else (some 1))) else (none)) else (none)) else ((ship_in.f x120004 0 2880).bind fun t129 => (if t129 = true then (if (x120005.length : Int) > 4 then (some 6) else (ship_Check.l1 k x120005 (x120005.length : Int) 0 x120000 x120001 x120002 x120003 x120004 x120005 x120006)) else (some 1)))
def ship_Check.l1 : Nat → List (S59) → Int → Int → Int → Int → Int → List (S85) → Int → List (S59) → List (S79) → Option (Int)
 | 0, _, _, _, _, _, _, _, _, _, _ => none
 | k + 1, x70, x71, x72, x120000, x120001, x120002, x120003, x120004, x120005, x120006 => if x72 < x71 then (if 0 ≤ x72 then (if x72 < (x70.length : Int) then ((ship_checkSill.f k ((rd_T59 x70 x72).f0.f0) ((rd_T59 x70 x72).f0.f1) ((rd_T59 x70 x72).f1)).bind fun t132 => (if t132 = 0 then (ship_Check.l1 k x70 x71 (wrap64 (x72 + 1)) x120000 x120001 x120002 x120003 x120004 x120005 x120006) else (some t132))) else (none)) else (none)) else (if (x120006.length : Int) > 6 then (some 6) else (ship_Check.l2 k x120006 (x120006.length : Int) 0))
def ship_Check.l2 : Nat → List (S79) → Int → Int → Option (Int)
 | 0, _, _, _ => none
 | k + 1, x87, x88, x89 => if x89 < x88 then (if 0 ≤ x89 then (if x89 < (x87.length : Int) then ((ship_checkRange.f k ((rd_T79 x87 x89).f0.f0) ((rd_T79 x87 x89).f0.f1) 5000).bind fun t135 => (if t135 = 0 then ((ship_in.f ((rd_T79 x87 x89).f1) 0 100000).bind fun t136 => (if t136 = true then (ship_Check.l2 k x87 x88 (wrap64 (x89 + 1))) else (some 1))) else (some t135))) else (none)) else (none)) else (some 0)
end
def ship_Check.f (k : Nat) (a0_0 : Int) (a0_1 : Int) (a0_2 : Int) (l0_3 : List (S85)) (a0_4 : Int) (l0_5 : List (S59)) (l0_6 : List (S79)) : Option (Int) := (ship_in.f a0_0 0 5000).bind fun t120 => (if t120 = true then ((ship_in.f a0_1 0 5000).bind fun t121 => (if t121 = true then ((ship_in.f a0_2 0 5000).bind fun t122 => (ship_Check.j0 k (!t122) a0_0 a0_1 a0_2 l0_3 a0_4 l0_5 l0_6)) else (ship_Check.j0 k true a0_0 a0_1 a0_2 l0_3 a0_4 l0_5 l0_6))) else (ship_Check.j0 k true a0_0 a0_1 a0_2 l0_3 a0_4 l0_5 l0_6))
theorem ship_Check.mono_l : ∀ k, (∀ y0 y1 y2 y3 y4 y5 y6 y7, LeO (ship_Check.j0 k y0 y1 y2 y3 y4 y5 y6 y7) (ship_Check.j0 (k + 1) y0 y1 y2 y3 y4 y5 y6 y7)) ∧ (∀ y0 y1 y2 y3 y4 y5 y6 y7 y8 y9, LeO (ship_Check.l0 k y0 y1 y2 y3 y4 y5 y6 y7 y8 y9) (ship_Check.l0 (k + 1) y0 y1 y2 y3 y4 y5 y6 y7 y8 y9)) ∧ (∀ y0 y1 y2 y3 y4 y5 y6 y7 y8 y9, LeO (ship_Check.l1 k y0 y1 y2 y3 y4 y5 y6 y7 y8 y9) (ship_Check.l1 (k + 1) y0 y1 y2 y3 y4 y5 y6 y7 y8 y9)) ∧ (∀ y0 y1 y2, LeO (ship_Check.l2 k y0 y1 y2) (ship_Check.l2 (k + 1) y0 y1 y2))
 | 0 => ⟨fun _ _ _ _ _ _ _ _ r h => by simp [ship_Check.j0] at h, fun _ _ _ _ _ _ _ _ _ _ r h => by simp [ship_Check.l0] at h, fun _ _ _ _ _ _ _ _ _ _ r h => by simp [ship_Check.l1] at h, fun _ _ _ r h => by simp [ship_Check.l2] at h⟩
 | k + 1 => by
  obtain ⟨ih0, ih1, ih2, ih3⟩ := ship_Check.mono_l k; refine ⟨?_, ?_, ?_, ?_⟩
  ·
   intro y0 y1 y2 y3 y4 y5 y6 y7; unfold ship_Check.j0
   repeat' (with_reducible first | exact ih0 _ _ _ _ _ _ _ _ | exact ih1 _ _ _ _ _ _ _ _ _ _ | exact ih2 _ _ _ _ _ _ _ _ _ _ | exact ih3 _ _ _ | exact ship_checkRange.mono _ _ _ _ | exact ship_checkSill.mono _ _ _ _ | exact LeO.refl _ | exact LeO.none _ | refine LeO.ite ?_ ?_ | refine LeO.bind ?_ (fun _ => ?_))
  ·
   intro y0 y1 y2 y3 y4 y5 y6 y7 y8 y9; unfold ship_Check.l0
   repeat' (with_reducible first | exact ih0 _ _ _ _ _ _ _ _ | exact ih1 _ _ _ _ _ _ _ _ _ _ | exact ih2 _ _ _ _ _ _ _ _ _ _ | exact ih3 _ _ _ | exact ship_checkRange.mono _ _ _ _ | exact ship_checkSill.mono _ _ _ _ | exact LeO.refl _ | exact LeO.none _ | refine LeO.ite ?_ ?_ | refine LeO.bind ?_ (fun _ => ?_))
  ·
   intro y0 y1 y2 y3 y4 y5 y6 y7 y8 y9; unfold ship_Check.l1
   repeat' (with_reducible first | exact ih0 _ _ _ _ _ _ _ _ | exact ih1 _ _ _ _ _ _ _ _ _ _ | exact ih2 _ _ _ _ _ _ _ _ _ _ | exact ih3 _ _ _ | exact ship_checkRange.mono _ _ _ _ | exact ship_checkSill.mono _ _ _ _ | exact LeO.refl _ | exact LeO.none _ | refine LeO.ite ?_ ?_ | refine LeO.bind ?_ (fun _ => ?_))
  ·
   intro y0 y1 y2; unfold ship_Check.l2
   repeat' (with_reducible first | exact ih0 _ _ _ _ _ _ _ _ | exact ih1 _ _ _ _ _ _ _ _ _ _ | exact ih2 _ _ _ _ _ _ _ _ _ _ | exact ih3 _ _ _ | exact ship_checkRange.mono _ _ _ _ | exact ship_checkSill.mono _ _ _ _ | exact LeO.refl _ | exact LeO.none _ | refine LeO.ite ?_ ?_ | refine LeO.bind ?_ (fun _ => ?_))
theorem ship_Check.mono : ∀ a0 a1 a2 a3 a4 a5 a6 k, LeO (ship_Check.f k a0 a1 a2 a3 a4 a5 a6) (ship_Check.f (k + 1) a0 a1 a2 a3 a4 a5 a6) := by
 intro a0 a1 a2 a3 a4 a5 a6 k
 obtain ⟨ih0, ih1, ih2, ih3⟩ := ship_Check.mono_l k
 unfold ship_Check.f
 repeat' (with_reducible first | exact ih0 _ _ _ _ _ _ _ _ | exact ih1 _ _ _ _ _ _ _ _ _ _ | exact ih2 _ _ _ _ _ _ _ _ _ _ | exact ih3 _ _ _ | exact ship_checkRange.mono _ _ _ _ | exact ship_checkSill.mono _ _ _ _ | exact LeO.refl _ | exact LeO.none _ | refine LeO.ite ?_ ?_ | refine LeO.bind ?_ (fun _ => ?_))
set_option maxHeartbeats 8000000 in
set_option maxRecDepth 100000 in
theorem ship_Check.calls (k : Nat) (a0_0 : Int) (a0_1 : Int) (a0_2 : Int) (A0_3 : Option Addr) (c0_3 : Nat) (l0_3 : List (S85)) (a0_4 : Int) (A0_5 : Option Addr) (c0_5 : Nat) (l0_5 : List (S59)) (A0_6 : Option Addr) (c0_6 : Nat) (l0_6 : List (S79)) (r : Int) (w : World) (hr0_3 : Kd.C k85 w A0_3 l0_3.length l0_3) (hc0_3 : l0_3.length ≤ c0_3) (hr0_5 : Kd.C k59 w A0_5 l0_5.length l0_5) (hc0_5 : l0_5.length ≤ c0_5) (hr0_6 : Kd.C k79 w A0_6 l0_6.length l0_6) (hc0_6 : l0_6.length ≤ c0_6) (h : ship_Check.f k a0_0 a0_1 a0_2 l0_3 a0_4 l0_5 l0_6 = some r) :
  Calls Try.prog 39 #[.agg #[.int .i64 a0_0, .int .i64 a0_1, .int .i64 a0_2, .slice A0_3 l0_3.length c0_3, .int .i64 a0_4, .slice A0_5 l0_5.length c0_5, .slice A0_6 l0_6.length c0_6]] w fun e w' => e = .returned (.int .i64 r) ∧ Below w.heap.size w w' := by
 have hu26 := Try.underlying26
 have hu85 := Try.underlying85
 have hu59 := Try.underlying59
 have hu79 := Try.underlying79
 have hu56 := Try.underlying56
 have HR0_3 := Aside0.mk hr0_3
 have HC0_3 := Aside0.mk hc0_3
 clear hr0_3 hc0_3
 have HR0_5 := Aside0.mk hr0_5
 have HC0_5 := Aside0.mk hc0_5
 clear hr0_5 hc0_5
 have HR0_6 := Aside0.mk hr0_6
 have HC0_6 := Aside0.mk hc0_6
 clear hr0_6 hc0_6
 have HB := Aside0.mk (Below.refl w.heap.size w)
 have H : ((ship_in.f a0_0 0 5000).bind fun t120 => (if t120 = true then ((ship_in.f a0_1 0 5000).bind fun t121 => (if t121 = true then ((ship_in.f a0_2 0 5000).bind fun t122 => (ship_Check.j0 k (!t122) a0_0 a0_1 a0_2 l0_3 a0_4 l0_5 l0_6)) else (ship_Check.j0 k true a0_0 a0_1 a0_2 l0_3 a0_4 l0_5 l0_6))) else (ship_Check.j0 k true a0_0 a0_1 a0_2 l0_3 a0_4 l0_5 l0_6))) = some r := h
 clear h
 have HC2 := Aside0.mk H
 clear H
 go_enter Try.func39, Try.ntmps39
 go_upto_region 1 with (first | (refine box_r (N := 1) rfl (cs := #[.int .i64 a0_0, .int .i64 a0_1, .int .i64 a0_2, .slice A0_3 l0_3.length c0_3, .int .i64 a0_4, .slice A0_5 l0_5.length c0_5, .slice A0_6 l0_6.length c0_6]) (t := 26) ?_; intro gb119 hg w3 hbox hb; have BK119 := Aside0.mk (hbox); have GW119 := gw_x hg HB; have GE119 := GW119; replace HB := Aside0.mk (below_step (below_x HB.out) hb); clear hb hbox hg))
 (try simp only [Act.put, put_x])
 go_cut [27] (fun v27 wc => ∃ (kq : Nat) (x27_1 : Bool), v27 = .bool x27_1 ∧ Aside0 (ship_Check.j0 kq x27_1 a0_0 a0_1 a0_2 l0_3 a0_4 l0_5 l0_6 = some r) ∧ Aside0 (kq ≤ k) ∧ Aside0 (wc.heap[gb119]? = some (.cells #[.int .i64 a0_0, .int .i64 a0_1, .int .i64 a0_2, (.slice A0_3 l0_3.length c0_3), .int .i64 a0_4, (.slice A0_5 l0_5.length c0_5), (.slice A0_6 l0_6.length c0_6)] 26 (0, 0))) ∧ Aside0 (Below w.heap.size w wc))
 case first =>
  have H := HC2.out; clear HC2; replace H := Option.bind_eq_some_iff.mp H; obtain ⟨t120, A40, H⟩ := H
  try dsimp only at H
  have A4 := Aside0.mk A40; clear A40; by_cases c5 : t120 = true
  ·
   subst c5; (have H1 : ((ship_in.f a0_1 0 5000).bind fun t121 => (if t121 = true then ((ship_in.f a0_2 0 5000).bind fun t122 => (ship_Check.j0 k (!t122) a0_0 a0_1 a0_2 l0_3 a0_4 l0_5 l0_6)) else (ship_Check.j0 k true a0_0 a0_1 a0_2 l0_3 a0_4 l0_5 l0_6))) = some r := by rw [if_pos rfl] at H; exact H); clear H; have H := H1; clear H1; replace H := Option.bind_eq_some_iff.mp H; obtain ⟨t121, A60, H⟩ := H
   try dsimp only at H
   have A6 := Aside0.mk A60; clear A60; by_cases c7 : t121 = true
   ·
    subst c7; (have H1 : ((ship_in.f a0_2 0 5000).bind fun t122 => (ship_Check.j0 k (!t122) a0_0 a0_1 a0_2 l0_3 a0_4 l0_5 l0_6)) = some r := by rw [if_pos rfl] at H; exact H); clear H; have H := H1; clear H1; replace H := Option.bind_eq_some_iff.mp H; obtain ⟨t122, A80, H⟩ := H
    try dsimp only at H
    have A8 := Aside0.mk A80; clear A80; have H' := Aside0.mk H; clear H; obtain ⟨hfz9_0, _, _, _, _, _, _, _⟩ := cf7 BK119
    go_wp2_with (first | (refine goesG_x 72 rfl (some 14) Try.func72 #[.int .i64 a0_0, .int .i64 0, .int .i64 5000] ?_; (with_reducible refine (ship_in.calls a0_0 0 5000 true _ A4.out).mono ?_); rintro e w' ⟨rfl, ⟨nd, rfl⟩⟩; refine ⟨_, rfl, ?_⟩) | (go_at_call 72; (with_reducible refine (ship_in.calls a0_1 0 5000 true _ A6.out).mono ?_); rintro e w' ⟨rfl, ⟨nd, rfl⟩⟩) | (go_at_call 72; (with_reducible refine (ship_in.calls a0_2 0 5000 t122 _ A8.out).mono ?_); rintro e w' ⟨rfl, ⟨nd, rfl⟩⟩))
    go_meet
    case rel => exact ⟨_, (!t122), (by first | rfl | (simp; done) | (simp [*]; done)), H', ⟨by first | omega | exact Nat.le_refl _⟩, ⟨blk_x BK119.out⟩, ⟨by exact below_y HB.out⟩⟩
   ·
    replace c7 := Bool.eq_false_iff.mpr c7; subst c7; replace H : (ship_Check.j0 k true a0_0 a0_1 a0_2 l0_3 a0_4 l0_5 l0_6) = some r := ifn_x H; have H' := Aside0.mk H; clear H; obtain ⟨hfz10_0, _, _, _, _, _, _, _⟩ := cf7 BK119
    go_wp2_with (first | (refine goesG_x 72 rfl (some 14) Try.func72 #[.int .i64 a0_0, .int .i64 0, .int .i64 5000] ?_; (with_reducible refine (ship_in.calls a0_0 0 5000 true _ A4.out).mono ?_); rintro e w' ⟨rfl, ⟨nd, rfl⟩⟩; refine ⟨_, rfl, ?_⟩) | (go_at_call 72; (with_reducible refine (ship_in.calls a0_1 0 5000 false _ A6.out).mono ?_); rintro e w' ⟨rfl, ⟨nd, rfl⟩⟩))
    go_meet
    case rel => exact ⟨_, (true), (by first | rfl | (simp; done) | (simp [*]; done)), H', ⟨by first | omega | exact Nat.le_refl _⟩, ⟨blk_x BK119.out⟩, ⟨by exact below_y HB.out⟩⟩
  ·
   replace c5 := Bool.eq_false_iff.mpr c5; subst c5; replace H : (ship_Check.j0 k true a0_0 a0_1 a0_2 l0_3 a0_4 l0_5 l0_6) = some r := ifn_x H; have H' := Aside0.mk H; clear H; obtain ⟨hfz11_0, _, _, _, _, _, _, _⟩ := cf7 BK119
   go_wp2_with (first | (refine goesG_x 72 rfl (some 14) Try.func72 #[.int .i64 a0_0, .int .i64 0, .int .i64 5000] ?_; (with_reducible refine (ship_in.calls a0_0 0 5000 false _ A4.out).mono ?_); rintro e w' ⟨rfl, ⟨nd, rfl⟩⟩; refine ⟨_, rfl, ?_⟩))
   go_meet
   case rel => exact ⟨_, (true), (by first | rfl | (simp; done) | (simp [*]; done)), H', ⟨by first | omega | exact Nat.le_refl _⟩, ⟨blk_x BK119.out⟩, ⟨by exact below_y HB.out⟩⟩
 case rest =>
  clear HC2; obtain ⟨kq, x27_1, rfl, HA, HJ1, BK119, HB⟩ := hcut; cases kq with
  | zero => exact absurd HA.out (by simp [ship_Check.j0])
  | succ kj1 =>
   have H := HA.out; clear HA; simp only [ship_Check.j0] at H; by_cases c12 : x27_1 = true
   ·
    subst c12; (have H1 : (some 1) = some r := by rw [if_pos rfl] at H; exact H); clear H; have H := H1; clear H1; obtain rfl := Option.some.inj H; go_wp2; go_ret; exact rt_y HB
   ·
    replace c12 := Bool.eq_false_iff.mpr c12; subst c12; replace H : ((ship_many.f (l0_3.length : Int) 3).bind fun t123 => (if t123 = 0 then (ship_Check.l0 kj1 l0_3 (l0_3.length : Int) 0 a0_0 a0_1 a0_2 l0_3 a0_4 l0_5 l0_6) else (some t123))) = some r := ifn_x H; replace H := Option.bind_eq_some_iff.mp H; obtain ⟨t123, A130, H⟩ := H
    try dsimp only at H
    have A13 := Aside0.mk A130; clear A130; by_cases c14 : t123 = 0
    ·
     rw [if_pos c14] at H; have c14b0 : (t123 == 0) = true := beq_iff_eq.mpr c14; have c14b1 : (t123 != 0) = false := bne_eq_false_iff_eq.mpr c14; clear c14; have H' := Aside0.mk H; clear H; obtain ⟨hfz15_0, _, _, _, _, _, _, _⟩ := cf7 BK119
     go_wp2_with (first | (refine goesG_x 73 rfl (some 31) Try.func73 #[.int .i64 (l0_3.length : Int), .int .i64 3] ?_; (with_reducible refine (ship_many.calls (l0_3.length : Int) 3 t123 _ A13.out).mono ?_); rintro e w' ⟨rfl, ⟨nd, rfl⟩⟩; refine ⟨_, rfl, ?_⟩))
     go_loopg [38] kj1 (fun kq v38 w' => ∃ (x38_2 : Int), v38 = .int .i64 x38_2 ∧ Aside0 (ship_Check.l0 kq l0_3 (l0_3.length : Int) x38_2 a0_0 a0_1 a0_2 l0_3 a0_4 l0_5 l0_6 = some r) ∧ Aside0 (kq ≤ kj1) ∧ Aside0 (w'.heap[gb119]? = some (.cells #[.int .i64 a0_0, .int .i64 a0_1, .int .i64 a0_2, (.slice A0_3 l0_3.length c0_3), .int .i64 a0_4, (.slice A0_5 l0_5.length c0_5), (.slice A0_6 l0_6.length c0_6)] 26 (0, 0))) ∧ Aside0 (Below w.heap.size w w'))
     case atStart => exact ⟨(0), (by first | rfl | (simp; done) | (simp [*]; done)), H', ⟨Nat.le_refl _⟩, ⟨blk_x BK119.out⟩, ⟨by exact below_y HB.out⟩⟩
     case round =>
      clear H'; obtain ⟨x38_2, rfl, HA, HK2, BK119, HB⟩ := hrel; cases gk with
      | zero => exact absurd HA.out (by simp [ship_Check.l0])
      | succ k2 =>
       have H := HA.out; clear HA; simp only [ship_Check.l0] at H; by_cases c16 : x38_2 < (l0_3.length : Int)
       ·
        rw [if_pos c16] at H; have c16b0 : decide (x38_2 < (l0_3.length : Int)) = true := decide_eq_true c16; clear c16; by_cases c17 : 0 ≤ x38_2
        ·
         rw [if_pos c17] at H; have c17b0 : decide (0 ≤ x38_2) = true := decide_eq_true c17; clear c17; by_cases c18 : x38_2 < (l0_3.length : Int)
         ·
          rw [if_pos c18] at H; have c18b0 : decide (x38_2 < (l0_3.length : Int)) = true := decide_eq_true c18; clear c18; replace H := Option.bind_eq_some_iff.mp H; obtain ⟨t126, A190, H⟩ := H
          try dsimp only at H
          have A19 := Aside0.mk A190; clear A190; by_cases c20 : t126 = true
          ·
           subst c20; (have H1 : ((ship_in.f ((rd_T85 l0_3 x38_2).f1) 0 10000).bind fun t127 => (if t127 = true then ((ship_in.f ((rd_T85 l0_3 x38_2).f2) 0 10000).bind fun t128 => (if t128 = true then (ship_Check.l0 k2 l0_3 (l0_3.length : Int) (wrap64 (x38_2 + 1)) a0_0 a0_1 a0_2 l0_3 a0_4 l0_5 l0_6) else (some 1))) else (some 1))) = some r := by rw [if_pos rfl] at H; exact H); clear H; have H := H1; clear H1; replace H := Option.bind_eq_some_iff.mp H; obtain ⟨t127, A210, H⟩ := H
           try dsimp only at H
           have A21 := Aside0.mk A210; clear A210; by_cases c22 : t127 = true
           ·
            subst c22; (have H1 : ((ship_in.f ((rd_T85 l0_3 x38_2).f2) 0 10000).bind fun t128 => (if t128 = true then (ship_Check.l0 k2 l0_3 (l0_3.length : Int) (wrap64 (x38_2 + 1)) a0_0 a0_1 a0_2 l0_3 a0_4 l0_5 l0_6) else (some 1))) = some r := by rw [if_pos rfl] at H; exact H); clear H; have H := H1; clear H1; replace H := Option.bind_eq_some_iff.mp H; obtain ⟨t128, A230, H⟩ := H
            try dsimp only at H
            have A23 := Aside0.mk A230; clear A230; by_cases c24 : t128 = true
            ·
             subst c24; (have H1 : (ship_Check.l0 k2 l0_3 (l0_3.length : Int) (wrap64 (x38_2 + 1)) a0_0 a0_1 a0_2 l0_3 a0_4 l0_5 l0_6) = some r := by rw [if_pos rfl] at H; exact H); clear H; have H := H1; clear H1; have H' := Aside0.mk H; clear H; have p124 : 0 ≤ (x38_2 : Int) := of_x; have q124 : x38_2 < (l0_3.length : Int) := of_x; obtain ⟨ad124, e124, hx124_0, hx124_1, hx124_2⟩ := at_T85 HR0_3.out x38_2 p124 q124; (cases e124); replace hx124_0 := cell_x HB hx124_0; replace hx124_1 := cell_x HB hx124_1; replace hx124_2 := cell_x HB hx124_2; replace p124 := eq_true p124; replace q124 := eq_true q124
             go_wp2_with (first | (refine box_r (N := 5) rfl (cs := #[.int .i64 0, .int .i64 0, .int .i64 0]) (t := 85) ?_; intro gb125 hg w25 hbox hb; have BK125 := Aside0.mk (hbox); have GW125 := gw_x hg HB; have GE125 := GW125; replace HB := bl_x HB hb; have NB119_125 := nb_x hg BK119; have NB125_119 := nb_y hg BK119; replace BK119 := bk_x BK119 hb; clear hb hbox hg; have hnb26 := NB125_119.out; have hnc26 := NB119_125.out; obtain ⟨hfz27_0, _, _, _⟩ := cf3 BK125) | (refine goesG_x 72 rfl (some 44) Try.func72 #[.int .i64 ((rd_T85 l0_3 x38_2).f0), .int .i64 0, .int .i64 5000] ?_; (with_reducible refine (ship_in.calls ((rd_T85 l0_3 x38_2).f0) 0 5000 true _ A19.out).mono ?_); rintro e w' ⟨rfl, ⟨nd, rfl⟩⟩; refine ⟨_, rfl, ?_⟩) | (go_at_call 72; (with_reducible refine (ship_in.calls ((rd_T85 l0_3 x38_2).f1) 0 10000 true _ A21.out).mono ?_); rintro e w' ⟨rfl, ⟨nd, rfl⟩⟩) | (go_at_call 72; (with_reducible refine (ship_in.calls ((rd_T85 l0_3 x38_2).f2) 0 10000 true _ A23.out).mono ?_); rintro e w' ⟨rfl, ⟨nd, rfl⟩⟩))
             go_roundg k2
             case measure => have := HJ1.out; have := HK2.out; omega
             case rel => exact ⟨(wrap64 (x38_2 + 1)), (by first | rfl | (simp; done) | (simp [*]; done)), H', ⟨by have := HJ1.out; have := HK2.out; omega⟩, ⟨blk_w BK119.out⟩, ⟨by exact below_y HB.out⟩⟩
            ·
             replace c24 := Bool.eq_false_iff.mpr c24; subst c24; replace H : (some 1) = some r := ifn_x H; obtain rfl := Option.some.inj H; have p124 : 0 ≤ (x38_2 : Int) := of_x; have q124 : x38_2 < (l0_3.length : Int) := of_x; obtain ⟨ad124, e124, hx124_0, hx124_1, hx124_2⟩ := at_T85 HR0_3.out x38_2 p124 q124; (cases e124); replace hx124_0 := cell_x HB hx124_0; replace hx124_1 := cell_x HB hx124_1; replace hx124_2 := cell_x HB hx124_2; replace p124 := eq_true p124; replace q124 := eq_true q124
             go_wp2_with (first | (refine box_r (N := 5) rfl (cs := #[.int .i64 0, .int .i64 0, .int .i64 0]) (t := 85) ?_; intro gb125 hg w28 hbox hb; have BK125 := Aside0.mk (hbox); have GW125 := gw_x hg HB; have GE125 := GW125; replace HB := bl_x HB hb; have NB119_125 := nb_x hg BK119; have NB125_119 := nb_y hg BK119; replace BK119 := bk_x BK119 hb; clear hb hbox hg; have hnb29 := NB125_119.out; have hnc29 := NB119_125.out; obtain ⟨hfz30_0, _, _, _⟩ := cf3 BK125) | (refine goesG_x 72 rfl (some 44) Try.func72 #[.int .i64 ((rd_T85 l0_3 x38_2).f0), .int .i64 0, .int .i64 5000] ?_; (with_reducible refine (ship_in.calls ((rd_T85 l0_3 x38_2).f0) 0 5000 true _ A19.out).mono ?_); rintro e w' ⟨rfl, ⟨nd, rfl⟩⟩; refine ⟨_, rfl, ?_⟩) | (go_at_call 72; (with_reducible refine (ship_in.calls ((rd_T85 l0_3 x38_2).f1) 0 10000 true _ A21.out).mono ?_); rintro e w' ⟨rfl, ⟨nd, rfl⟩⟩) | (go_at_call 72; (with_reducible refine (ship_in.calls ((rd_T85 l0_3 x38_2).f2) 0 10000 false _ A23.out).mono ?_); rintro e w' ⟨rfl, ⟨nd, rfl⟩⟩))
             go_ret; exact rt_y HB
           ·
            replace c22 := Bool.eq_false_iff.mpr c22; subst c22; replace H : (some 1) = some r := ifn_x H; obtain rfl := Option.some.inj H; have p124 : 0 ≤ (x38_2 : Int) := of_x; have q124 : x38_2 < (l0_3.length : Int) := of_x; obtain ⟨ad124, e124, hx124_0, hx124_1, hx124_2⟩ := at_T85 HR0_3.out x38_2 p124 q124; (cases e124); replace hx124_0 := cell_x HB hx124_0; replace hx124_1 := cell_x HB hx124_1; replace hx124_2 := cell_x HB hx124_2; replace p124 := eq_true p124; replace q124 := eq_true q124
            go_wp2_with (first | (refine box_r (N := 5) rfl (cs := #[.int .i64 0, .int .i64 0, .int .i64 0]) (t := 85) ?_; intro gb125 hg w31 hbox hb; have BK125 := Aside0.mk (hbox); have GW125 := gw_x hg HB; have GE125 := GW125; replace HB := bl_x HB hb; have NB119_125 := nb_x hg BK119; have NB125_119 := nb_y hg BK119; replace BK119 := bk_x BK119 hb; clear hb hbox hg; have hnb32 := NB125_119.out; have hnc32 := NB119_125.out; obtain ⟨hfz33_0, _, _, _⟩ := cf3 BK125) | (refine goesG_x 72 rfl (some 44) Try.func72 #[.int .i64 ((rd_T85 l0_3 x38_2).f0), .int .i64 0, .int .i64 5000] ?_; (with_reducible refine (ship_in.calls ((rd_T85 l0_3 x38_2).f0) 0 5000 true _ A19.out).mono ?_); rintro e w' ⟨rfl, ⟨nd, rfl⟩⟩; refine ⟨_, rfl, ?_⟩) | (go_at_call 72; (with_reducible refine (ship_in.calls ((rd_T85 l0_3 x38_2).f1) 0 10000 false _ A21.out).mono ?_); rintro e w' ⟨rfl, ⟨nd, rfl⟩⟩))
            go_ret; exact rt_y HB
          ·
           replace c20 := Bool.eq_false_iff.mpr c20; subst c20; replace H : (some 1) = some r := ifn_x H; obtain rfl := Option.some.inj H; have p124 : 0 ≤ (x38_2 : Int) := of_x; have q124 : x38_2 < (l0_3.length : Int) := of_x; obtain ⟨ad124, e124, hx124_0, hx124_1, hx124_2⟩ := at_T85 HR0_3.out x38_2 p124 q124; (cases e124); replace hx124_0 := cell_x HB hx124_0; replace hx124_1 := cell_x HB hx124_1; replace hx124_2 := cell_x HB hx124_2; replace p124 := eq_true p124; replace q124 := eq_true q124
           go_wp2_with (first | (refine box_r (N := 5) rfl (cs := #[.int .i64 0, .int .i64 0, .int .i64 0]) (t := 85) ?_; intro gb125 hg w34 hbox hb; have BK125 := Aside0.mk (hbox); have GW125 := gw_x hg HB; have GE125 := GW125; replace HB := bl_x HB hb; have NB119_125 := nb_x hg BK119; have NB125_119 := nb_y hg BK119; replace BK119 := bk_x BK119 hb; clear hb hbox hg; have hnb35 := NB125_119.out; have hnc35 := NB119_125.out; obtain ⟨hfz36_0, _, _, _⟩ := cf3 BK125) | (refine goesG_x 72 rfl (some 44) Try.func72 #[.int .i64 ((rd_T85 l0_3 x38_2).f0), .int .i64 0, .int .i64 5000] ?_; (with_reducible refine (ship_in.calls ((rd_T85 l0_3 x38_2).f0) 0 5000 false _ A19.out).mono ?_); rintro e w' ⟨rfl, ⟨nd, rfl⟩⟩; refine ⟨_, rfl, ?_⟩))
           go_ret; exact rt_y HB
         ·
          rw [if_neg c18] at H; exact absurd H (by simp)
        ·
         rw [if_neg c17] at H; exact absurd H (by simp)
       ·
        rw [if_neg c16] at H; have c16b0 : decide (x38_2 < (l0_3.length : Int)) = false := decide_eq_false c16; clear c16; replace H := Option.bind_eq_some_iff.mp H; obtain ⟨t129, A370, H⟩ := H
        try dsimp only at H
        have A37 := Aside0.mk A370; clear A370; by_cases c38 : t129 = true
        ·
         subst c38; (have H1 : (if (l0_5.length : Int) > 4 then (some 6) else (ship_Check.l1 k2 l0_5 (l0_5.length : Int) 0 a0_0 a0_1 a0_2 l0_3 a0_4 l0_5 l0_6)) = some r := by rw [if_pos rfl] at H; exact H); clear H; have H := H1; clear H1; by_cases c39 : (l0_5.length : Int) > 4
         ·
          rw [if_pos c39] at H; have c39b0 : decide (4 < (l0_5.length : Int)) = true := decide_eq_true c39; have c39b1 : decide (4 < l0_5.length) = true := decide_eq_true (by omega); clear c39; obtain rfl := Option.some.inj H; obtain ⟨hfz40_0, _, _, _, _, _, _, _⟩ := cf7 BK119
          go_wp2_with (first | (refine goesG_x 72 rfl (some 62) Try.func72 #[.int .i64 a0_4, .int .i64 0, .int .i64 2880] ?_; (with_reducible refine (ship_in.calls a0_4 0 2880 true _ A37.out).mono ?_); rintro e w' ⟨rfl, ⟨nd, rfl⟩⟩; refine ⟨_, rfl, ?_⟩))
          go_ret; exact rt_y HB
         ·
          rw [if_neg c39] at H; have c39b0 : decide (4 < (l0_5.length : Int)) = false := decide_eq_false c39; have c39b1 : decide (4 < l0_5.length) = false := decide_eq_false (by omega); clear c39; have H' := Aside0.mk H; clear H; obtain ⟨hfz41_0, _, _, _, _, _, _, _⟩ := cf7 BK119
          go_wp2_with (first | (refine goesG_x 72 rfl (some 62) Try.func72 #[.int .i64 a0_4, .int .i64 0, .int .i64 2880] ?_; (with_reducible refine (ship_in.calls a0_4 0 2880 true _ A37.out).mono ?_); rintro e w' ⟨rfl, ⟨nd, rfl⟩⟩; refine ⟨_, rfl, ?_⟩))
          go_loopg [72] k2 (fun kq v72 w' => ∃ (x72_3 : Int), v72 = .int .i64 x72_3 ∧ Aside0 (ship_Check.l1 kq l0_5 (l0_5.length : Int) x72_3 a0_0 a0_1 a0_2 l0_3 a0_4 l0_5 l0_6 = some r) ∧ Aside0 (kq ≤ k2) ∧ Aside0 (w'.heap[gb119]? = some (.cells #[.int .i64 a0_0, .int .i64 a0_1, .int .i64 a0_2, (.slice A0_3 l0_3.length c0_3), .int .i64 a0_4, (.slice A0_5 l0_5.length c0_5), (.slice A0_6 l0_6.length c0_6)] 26 (0, 0))) ∧ Aside0 (Below w.heap.size w w'))
          case atStart => exact ⟨(0), (by first | rfl | (simp; done) | (simp [*]; done)), H', ⟨Nat.le_refl _⟩, ⟨blk_x BK119.out⟩, ⟨by exact below_y HB.out⟩⟩
          case round =>
           clear H'; obtain ⟨x72_3, rfl, HA, HK3, BK119, HB⟩ := hrel; cases gk with
           | zero => exact absurd HA.out (by simp [ship_Check.l1])
           | succ k3 =>
            have H := HA.out; clear HA; simp only [ship_Check.l1] at H; by_cases c42 : x72_3 < (l0_5.length : Int)
            ·
             rw [if_pos c42] at H; have c42b0 : decide (x72_3 < (l0_5.length : Int)) = true := decide_eq_true c42; clear c42; by_cases c43 : 0 ≤ x72_3
             ·
              rw [if_pos c43] at H; have c43b0 : decide (0 ≤ x72_3) = true := decide_eq_true c43; clear c43; by_cases c44 : x72_3 < (l0_5.length : Int)
              ·
               rw [if_pos c44] at H; have c44b0 : decide (x72_3 < (l0_5.length : Int)) = true := decide_eq_true c44; clear c44; replace H := Option.bind_eq_some_iff.mp H; obtain ⟨t132, A450, H⟩ := H
               try dsimp only at H
               have A45 := Aside0.mk A450; clear A450; by_cases c46 : t132 = 0
               ·
                rw [if_pos c46] at H; have c46b0 : (t132 == 0) = true := beq_iff_eq.mpr c46; have c46b1 : (t132 != 0) = false := bne_eq_false_iff_eq.mpr c46; clear c46; have H' := Aside0.mk H; clear H; have p130 : 0 ≤ (x72_3 : Int) := of_x; have q130 : x72_3 < (l0_5.length : Int) := of_x; obtain ⟨ad130, A130_2, c130_2, e130, hx130_0, hx130_1, hx130_2, hl130_2, hi130_2⟩ := at_T59 HR0_5.out x72_3 p130 q130; (cases e130); replace hx130_0 := cell_x HB hx130_0; replace hx130_1 := cell_x HB hx130_1; replace hx130_2 := cell_x HB hx130_2; have HR130_2 := Aside0.mk hi130_2; have HC130_2 := Aside0.mk hl130_2; clear hi130_2 hl130_2; replace p130 := eq_true p130; replace q130 := eq_true q130
                go_wp2_with (first | (refine box_r (N := 7) rfl (cs := #[.int .i64 0, .int .i64 0, .slice none 0 0]) (t := 59) ?_; intro gb131 hg w47 hbox hb; have BK131 := Aside0.mk (hbox); have GW131 := gw_x hg HB; have GE131 := GW131; replace HB := bl_x HB hb; have NB119_131 := nb_x hg BK119; have NB131_119 := nb_y hg BK119; replace BK119 := bk_x BK119 hb; clear hb hbox hg; have hnb48 := NB131_119.out; have hnc48 := NB119_131.out; obtain ⟨hfz49_0, _, _, _⟩ := cf3 BK131) | (refine goesG_x 74 rfl (some 77) Try.func74 #[.agg #[.int .i64 ((rd_T59 l0_5 x72_3).f0.f0), .int .i64 ((rd_T59 l0_5 x72_3).f0.f1), .slice A130_2 ((rd_T59 l0_5 x72_3).f1).length c130_2]] ?_; (with_reducible refine (ship_checkSill.calls k3 ((rd_T59 l0_5 x72_3).f0.f0) ((rd_T59 l0_5 x72_3).f0.f1) _ _ ((rd_T59 l0_5 x72_3).f1) t132 _ ?side1 ?side2 A45.out).mono ?_); (case side1 => exact Kd.C_below HR130_2.out (by exact below_y HB.out)); (case side2 => exact HC130_2.out); rintro e w50 ⟨rfl, hb⟩; refine ⟨_, rfl, ?_⟩; replace BK119 := Aside0.mk (blk_below (g := gb119) (o := .cells #[.int .i64 a0_0, .int .i64 a0_1, .int .i64 a0_2, .slice A0_3 l0_3.length c0_3, .int .i64 a0_4, .slice (some ad130) l0_5.length c0_5, .slice A0_6 l0_6.length c0_6] 26 (0, 0)) (blk_w BK119.out) hb); replace BK131 := Aside0.mk (blk_below (g := gb131) (o := .cells #[.int .i64 ((rd_T59 l0_5 x72_3).f0.f0), .int .i64 ((rd_T59 l0_5 x72_3).f0.f1), .slice A130_2 ((rd_T59 l0_5 x72_3).f1).length c130_2] 59 (0, 0)) (blk_z BK131.out) hb); replace HB := bl_x HB hb; (try clear hb); (try clear hk); (try clear hi)))
                go_roundg k3
                case measure => have := HJ1.out; have := HK2.out; have := HK3.out; omega
                case rel => exact ⟨(wrap64 (x72_3 + 1)), (by first | rfl | (simp; done) | (simp [*]; done)), H', ⟨by have := HJ1.out; have := HK2.out; have := HK3.out; omega⟩, ⟨blk_x BK119.out⟩, ⟨by exact below_y HB.out⟩⟩
               ·
                rw [if_neg c46] at H; have c46b0 : (t132 == 0) = false := beq_eq_false_iff_ne.mpr c46; have c46b1 : (t132 != 0) = true := bne_iff_ne.mpr c46; obtain rfl := Option.some.inj H; have p130 : 0 ≤ (x72_3 : Int) := of_x; have q130 : x72_3 < (l0_5.length : Int) := of_x; obtain ⟨ad130, A130_2, c130_2, e130, hx130_0, hx130_1, hx130_2, hl130_2, hi130_2⟩ := at_T59 HR0_5.out x72_3 p130 q130; (cases e130); replace hx130_0 := cell_x HB hx130_0; replace hx130_1 := cell_x HB hx130_1; replace hx130_2 := cell_x HB hx130_2; have HR130_2 := Aside0.mk hi130_2; have HC130_2 := Aside0.mk hl130_2; clear hi130_2 hl130_2; replace p130 := eq_true p130; replace q130 := eq_true q130
                go_wp2_with (first | (refine box_r (N := 7) rfl (cs := #[.int .i64 0, .int .i64 0, .slice none 0 0]) (t := 59) ?_; intro gb131 hg w51 hbox hb; have BK131 := Aside0.mk (hbox); have GW131 := gw_x hg HB; have GE131 := GW131; replace HB := bl_x HB hb; have NB119_131 := nb_x hg BK119; have NB131_119 := nb_y hg BK119; replace BK119 := bk_x BK119 hb; clear hb hbox hg; have hnb52 := NB131_119.out; have hnc52 := NB119_131.out; obtain ⟨hfz53_0, _, _, _⟩ := cf3 BK131) | (refine goesG_x 74 rfl (some 77) Try.func74 #[.agg #[.int .i64 ((rd_T59 l0_5 x72_3).f0.f0), .int .i64 ((rd_T59 l0_5 x72_3).f0.f1), .slice A130_2 ((rd_T59 l0_5 x72_3).f1).length c130_2]] ?_; (with_reducible refine (ship_checkSill.calls k3 ((rd_T59 l0_5 x72_3).f0.f0) ((rd_T59 l0_5 x72_3).f0.f1) _ _ ((rd_T59 l0_5 x72_3).f1) t132 _ ?side1 ?side2 A45.out).mono ?_); (case side1 => exact Kd.C_below HR130_2.out (by exact below_y HB.out)); (case side2 => exact HC130_2.out); rintro e w54 ⟨rfl, hb⟩; refine ⟨_, rfl, ?_⟩; replace BK119 := Aside0.mk (blk_below (g := gb119) (o := .cells #[.int .i64 a0_0, .int .i64 a0_1, .int .i64 a0_2, .slice A0_3 l0_3.length c0_3, .int .i64 a0_4, .slice (some ad130) l0_5.length c0_5, .slice A0_6 l0_6.length c0_6] 26 (0, 0)) (blk_w BK119.out) hb); replace BK131 := Aside0.mk (blk_below (g := gb131) (o := .cells #[.int .i64 ((rd_T59 l0_5 x72_3).f0.f0), .int .i64 ((rd_T59 l0_5 x72_3).f0.f1), .slice A130_2 ((rd_T59 l0_5 x72_3).f1).length c130_2] 59 (0, 0)) (blk_z BK131.out) hb); replace HB := bl_x HB hb; (try clear hb); (try clear hk); (try clear hi)))
                go_ret; exact rt_y HB
              ·
               rw [if_neg c44] at H; exact absurd H (by simp)
             ·
              rw [if_neg c43] at H; exact absurd H (by simp)
            ·
             rw [if_neg c42] at H; have c42b0 : decide (x72_3 < (l0_5.length : Int)) = false := decide_eq_false c42; clear c42; by_cases c55 : (l0_6.length : Int) > 6
             ·
              rw [if_pos c55] at H; have c55b0 : decide (6 < (l0_6.length : Int)) = true := decide_eq_true c55; have c55b1 : decide (6 < l0_6.length) = true := decide_eq_true (by omega); clear c55; obtain rfl := Option.some.inj H; obtain ⟨hfz56_0, _, _, _, _, _, _, _⟩ := cf7 BK119; go_wp2; go_ret; exact rt_y HB
             ·
              rw [if_neg c55] at H; have c55b0 : decide (6 < (l0_6.length : Int)) = false := decide_eq_false c55; have c55b1 : decide (6 < l0_6.length) = false := decide_eq_false (by omega); clear c55; have H' := Aside0.mk H; clear H; obtain ⟨hfz57_0, _, _, _, _, _, _, _⟩ := cf7 BK119; go_wp2
              go_loopg [89] k3 (fun kq v89 w' => ∃ (x89_4 : Int), v89 = .int .i64 x89_4 ∧ Aside0 (ship_Check.l2 kq l0_6 (l0_6.length : Int) x89_4 = some r) ∧ Aside0 (kq ≤ k3) ∧ Aside0 (w'.heap[gb119]? = some (.cells #[.int .i64 a0_0, .int .i64 a0_1, .int .i64 a0_2, (.slice A0_3 l0_3.length c0_3), .int .i64 a0_4, (.slice A0_5 l0_5.length c0_5), (.slice A0_6 l0_6.length c0_6)] 26 (0, 0))) ∧ Aside0 (Below w.heap.size w w'))
              case atStart => exact ⟨(0), (by first | rfl | (simp; done) | (simp [*]; done)), H', ⟨Nat.le_refl _⟩, ⟨blk_x BK119.out⟩, ⟨by exact below_y HB.out⟩⟩
              case round =>
               clear H'; obtain ⟨x89_4, rfl, HA, HK4, BK119, HB⟩ := hrel; cases gk with
               | zero => exact absurd HA.out (by simp [ship_Check.l2])
               | succ k4 =>
                have H := HA.out; clear HA; simp only [ship_Check.l2] at H; by_cases c58 : x89_4 < (l0_6.length : Int)
                ·
                 rw [if_pos c58] at H; have c58b0 : decide (x89_4 < (l0_6.length : Int)) = true := decide_eq_true c58; clear c58; by_cases c59 : 0 ≤ x89_4
                 ·
                  rw [if_pos c59] at H; have c59b0 : decide (0 ≤ x89_4) = true := decide_eq_true c59; clear c59; by_cases c60 : x89_4 < (l0_6.length : Int)
                  ·
                   rw [if_pos c60] at H; have c60b0 : decide (x89_4 < (l0_6.length : Int)) = true := decide_eq_true c60; clear c60; replace H := Option.bind_eq_some_iff.mp H; obtain ⟨t135, A610, H⟩ := H
                   try dsimp only at H
                   have A61 := Aside0.mk A610; clear A610; by_cases c62 : t135 = 0
                   ·
                    rw [if_pos c62] at H; have c62b0 : (t135 == 0) = true := beq_iff_eq.mpr c62; have c62b1 : (t135 != 0) = false := bne_eq_false_iff_eq.mpr c62; clear c62; replace H := Option.bind_eq_some_iff.mp H; obtain ⟨t136, A630, H⟩ := H
                    try dsimp only at H
                    have A63 := Aside0.mk A630; clear A630; by_cases c64 : t136 = true
                    ·
                     subst c64; (have H1 : (ship_Check.l2 k4 l0_6 (l0_6.length : Int) (wrap64 (x89_4 + 1))) = some r := by rw [if_pos rfl] at H; exact H); clear H; have H := H1; clear H1; have H' := Aside0.mk H; clear H; have p133 : 0 ≤ (x89_4 : Int) := of_x; have q133 : x89_4 < (l0_6.length : Int) := of_x; obtain ⟨ad133, e133, hx133_0, hx133_1, hx133_2⟩ := at_T79 HR0_6.out x89_4 p133 q133; (cases e133); replace hx133_0 := cell_x HB hx133_0; replace hx133_1 := cell_x HB hx133_1; replace hx133_2 := cell_x HB hx133_2; replace p133 := eq_true p133; replace q133 := eq_true q133
                     go_wp2_with (first | (refine box_r (N := 10) rfl (cs := #[.int .i64 0, .int .i64 0, .int .i64 0]) (t := 79) ?_; intro gb134 hg w65 hbox hb; have BK134 := Aside0.mk (hbox); have GW134 := gw_x hg HB; have GE134 := GW134; replace HB := bl_x HB hb; have NB119_134 := nb_x hg BK119; have NB134_119 := nb_y hg BK119; replace BK119 := bk_x BK119 hb; clear hb hbox hg; have hnb66 := NB134_119.out; have hnc66 := NB119_134.out; obtain ⟨hfz67_0, _, _, _⟩ := cf3 BK134) | (refine goesG_x 75 rfl (some 95) Try.func75 #[.agg #[.int .i64 ((rd_T79 l0_6 x89_4).f0.f0), .int .i64 ((rd_T79 l0_6 x89_4).f0.f1)], .int .i64 5000] ?_; (with_reducible refine (ship_checkRange.calls k4 ((rd_T79 l0_6 x89_4).f0.f0) ((rd_T79 l0_6 x89_4).f0.f1) 5000 t135 _ A61.out).mono ?_); rintro e w68 ⟨rfl, hb⟩; refine ⟨_, rfl, ?_⟩; replace BK119 := Aside0.mk (blk_below (g := gb119) (o := .cells #[.int .i64 a0_0, .int .i64 a0_1, .int .i64 a0_2, .slice A0_3 l0_3.length c0_3, .int .i64 a0_4, .slice A0_5 l0_5.length c0_5, .slice (some ad133) l0_6.length c0_6] 26 (0, 0)) (blk_w BK119.out) hb); replace BK134 := Aside0.mk (blk_below (g := gb134) (o := .cells #[.int .i64 ((rd_T79 l0_6 x89_4).f0.f0), .int .i64 ((rd_T79 l0_6 x89_4).f0.f1), .int .i64 ((rd_T79 l0_6 x89_4).f1)] 79 (0, 0)) (blk_z BK134.out) hb); replace HB := bl_x HB hb; (try clear hb); (try clear hk); (try clear hi); obtain ⟨hfz69_0, _, _, _⟩ := cf3 BK134) | (refine goesG_x 72 rfl (some 101) Try.func72 #[.int .i64 ((rd_T79 l0_6 x89_4).f1), .int .i64 0, .int .i64 100000] ?_; (with_reducible refine (ship_in.calls ((rd_T79 l0_6 x89_4).f1) 0 100000 true _ A63.out).mono ?_); rintro e w' ⟨rfl, ⟨nd, rfl⟩⟩; refine ⟨_, rfl, ?_⟩))
                     go_roundg k4
                     case measure => have := HJ1.out; have := HK2.out; have := HK3.out; have := HK4.out; omega
                     case rel => exact ⟨(wrap64 (x89_4 + 1)), (by first | rfl | (simp; done) | (simp [*]; done)), H', ⟨by have := HJ1.out; have := HK2.out; have := HK3.out; have := HK4.out; omega⟩, ⟨blk_x BK119.out⟩, ⟨by exact below_y HB.out⟩⟩
                    ·
                     replace c64 := Bool.eq_false_iff.mpr c64; subst c64; replace H : (some 1) = some r := ifn_x H; obtain rfl := Option.some.inj H; have p133 : 0 ≤ (x89_4 : Int) := of_x; have q133 : x89_4 < (l0_6.length : Int) := of_x; obtain ⟨ad133, e133, hx133_0, hx133_1, hx133_2⟩ := at_T79 HR0_6.out x89_4 p133 q133; (cases e133); replace hx133_0 := cell_x HB hx133_0; replace hx133_1 := cell_x HB hx133_1; replace hx133_2 := cell_x HB hx133_2; replace p133 := eq_true p133; replace q133 := eq_true q133
                     go_wp2_with (first | (refine box_r (N := 10) rfl (cs := #[.int .i64 0, .int .i64 0, .int .i64 0]) (t := 79) ?_; intro gb134 hg w70 hbox hb; have BK134 := Aside0.mk (hbox); have GW134 := gw_x hg HB; have GE134 := GW134; replace HB := bl_x HB hb; have NB119_134 := nb_x hg BK119; have NB134_119 := nb_y hg BK119; replace BK119 := bk_x BK119 hb; clear hb hbox hg; have hnb71 := NB134_119.out; have hnc71 := NB119_134.out; obtain ⟨hfz72_0, _, _, _⟩ := cf3 BK134) | (refine goesG_x 75 rfl (some 95) Try.func75 #[.agg #[.int .i64 ((rd_T79 l0_6 x89_4).f0.f0), .int .i64 ((rd_T79 l0_6 x89_4).f0.f1)], .int .i64 5000] ?_; (with_reducible refine (ship_checkRange.calls k4 ((rd_T79 l0_6 x89_4).f0.f0) ((rd_T79 l0_6 x89_4).f0.f1) 5000 t135 _ A61.out).mono ?_); rintro e w73 ⟨rfl, hb⟩; refine ⟨_, rfl, ?_⟩; replace BK119 := Aside0.mk (blk_below (g := gb119) (o := .cells #[.int .i64 a0_0, .int .i64 a0_1, .int .i64 a0_2, .slice A0_3 l0_3.length c0_3, .int .i64 a0_4, .slice A0_5 l0_5.length c0_5, .slice (some ad133) l0_6.length c0_6] 26 (0, 0)) (blk_w BK119.out) hb); replace BK134 := Aside0.mk (blk_below (g := gb134) (o := .cells #[.int .i64 ((rd_T79 l0_6 x89_4).f0.f0), .int .i64 ((rd_T79 l0_6 x89_4).f0.f1), .int .i64 ((rd_T79 l0_6 x89_4).f1)] 79 (0, 0)) (blk_z BK134.out) hb); replace HB := bl_x HB hb; (try clear hb); (try clear hk); (try clear hi); obtain ⟨hfz74_0, _, _, _⟩ := cf3 BK134) | (refine goesG_x 72 rfl (some 101) Try.func72 #[.int .i64 ((rd_T79 l0_6 x89_4).f1), .int .i64 0, .int .i64 100000] ?_; (with_reducible refine (ship_in.calls ((rd_T79 l0_6 x89_4).f1) 0 100000 false _ A63.out).mono ?_); rintro e w' ⟨rfl, ⟨nd, rfl⟩⟩; refine ⟨_, rfl, ?_⟩))
                     go_ret; exact rt_y HB
                   ·
                    rw [if_neg c62] at H; have c62b0 : (t135 == 0) = false := beq_eq_false_iff_ne.mpr c62; have c62b1 : (t135 != 0) = true := bne_iff_ne.mpr c62; obtain rfl := Option.some.inj H; have p133 : 0 ≤ (x89_4 : Int) := of_x; have q133 : x89_4 < (l0_6.length : Int) := of_x; obtain ⟨ad133, e133, hx133_0, hx133_1, hx133_2⟩ := at_T79 HR0_6.out x89_4 p133 q133; (cases e133); replace hx133_0 := cell_x HB hx133_0; replace hx133_1 := cell_x HB hx133_1; replace hx133_2 := cell_x HB hx133_2; replace p133 := eq_true p133; replace q133 := eq_true q133
                    go_wp2_with (first | (refine box_r (N := 10) rfl (cs := #[.int .i64 0, .int .i64 0, .int .i64 0]) (t := 79) ?_; intro gb134 hg w75 hbox hb; have BK134 := Aside0.mk (hbox); have GW134 := gw_x hg HB; have GE134 := GW134; replace HB := bl_x HB hb; have NB119_134 := nb_x hg BK119; have NB134_119 := nb_y hg BK119; replace BK119 := bk_x BK119 hb; clear hb hbox hg; have hnb76 := NB134_119.out; have hnc76 := NB119_134.out; obtain ⟨hfz77_0, _, _, _⟩ := cf3 BK134) | (refine goesG_x 75 rfl (some 95) Try.func75 #[.agg #[.int .i64 ((rd_T79 l0_6 x89_4).f0.f0), .int .i64 ((rd_T79 l0_6 x89_4).f0.f1)], .int .i64 5000] ?_; (with_reducible refine (ship_checkRange.calls k4 ((rd_T79 l0_6 x89_4).f0.f0) ((rd_T79 l0_6 x89_4).f0.f1) 5000 t135 _ A61.out).mono ?_); rintro e w78 ⟨rfl, hb⟩; refine ⟨_, rfl, ?_⟩; replace BK119 := Aside0.mk (blk_below (g := gb119) (o := .cells #[.int .i64 a0_0, .int .i64 a0_1, .int .i64 a0_2, .slice A0_3 l0_3.length c0_3, .int .i64 a0_4, .slice A0_5 l0_5.length c0_5, .slice (some ad133) l0_6.length c0_6] 26 (0, 0)) (blk_w BK119.out) hb); replace BK134 := Aside0.mk (blk_below (g := gb134) (o := .cells #[.int .i64 ((rd_T79 l0_6 x89_4).f0.f0), .int .i64 ((rd_T79 l0_6 x89_4).f0.f1), .int .i64 ((rd_T79 l0_6 x89_4).f1)] 79 (0, 0)) (blk_z BK134.out) hb); replace HB := bl_x HB hb; (try clear hb); (try clear hk); (try clear hi)))
                    go_ret; exact rt_y HB
                  ·
                   rw [if_neg c60] at H; exact absurd H (by simp)
                 ·
                  rw [if_neg c59] at H; exact absurd H (by simp)
                ·
                 rw [if_neg c58] at H; have c58b0 : decide (x89_4 < (l0_6.length : Int)) = false := decide_eq_false c58; clear c58; obtain rfl := Option.some.inj H; go_wp2; go_ret; exact rt_y HB
        ·
         replace c38 := Bool.eq_false_iff.mpr c38; subst c38; replace H : (some 1) = some r := ifn_x H; obtain rfl := Option.some.inj H; obtain ⟨hfz79_0, _, _, _, _, _, _, _⟩ := cf7 BK119
         go_wp2_with (first | (refine goesG_x 72 rfl (some 62) Try.func72 #[.int .i64 a0_4, .int .i64 0, .int .i64 2880] ?_; (with_reducible refine (ship_in.calls a0_4 0 2880 false _ A37.out).mono ?_); rintro e w' ⟨rfl, ⟨nd, rfl⟩⟩; refine ⟨_, rfl, ?_⟩))
         go_ret; exact rt_y HB
    ·
     rw [if_neg c14] at H; have c14b0 : (t123 == 0) = false := beq_eq_false_iff_ne.mpr c14; have c14b1 : (t123 != 0) = true := bne_iff_ne.mpr c14; obtain rfl := Option.some.inj H; obtain ⟨hfz80_0, _, _, _, _, _, _, _⟩ := cf7 BK119
     go_wp2_with (first | (refine goesG_x 73 rfl (some 31) Try.func73 #[.int .i64 (l0_3.length : Int), .int .i64 3] ?_; (with_reducible refine (ship_many.calls (l0_3.length : Int) 3 t123 _ A13.out).mono ?_); rintro e w' ⟨rfl, ⟨nd, rfl⟩⟩; refine ⟨_, rfl, ?_⟩))
     go_ret; exact rt_y HB
mutual
def ship_checkStowage.l0 : Nat → List Int → List Int → Int → Int → Int → Int → Int → List (S85) → Int → List (S59) → List (S79) → Option (Int)
 | 0, _, _, _, _, _, _, _, _, _, _, _ => none
 | k + 1, x1, x18, x19, x20, x102000, x102001, x102002, x102003, x102004, x102005, x102006 => if x20 < x19 then (if 0 ≤ x20 then (if x20 < (x18.length : Int) then ((ship_in.f (rd x18 x20) (-1) (wrap64 ((x102003.length : Int) - 1))).bind fun t103 => (if t103 = true then (ship_checkStowage.l0 k x1 x18 x19 (wrap64 (x20 + 1)) x102000 x102001 x102002 x102003 x102004 x102005 x102006) else (some 3))) else (none)) else (none)) else (ship_checkStowage.l1 k x1 x102003 (x102003.length : Int) 0 x102000 x102001 x102002 x102003 x102004 x102005 x102006)
def ship_checkStowage.l1 : Nat → List Int → List (S85) → Int → Int → Int → Int → Int → List (S85) → Int → List (S59) → List (S79) → Option (Int)
 | 0, _, _, _, _, _, _, _, _, _, _, _ => none
 | k + 1, x1, x33, x34, x35, x102000, x102001, x102002, x102003, x102004, x102005, x102006 => if x35 < x34 then (if 0 ≤ x35 then (if x35 < (x33.length : Int) then (ship_checkStowage.l2 k x1 x35 ((rd_T85 x33 x35).f0) x33 x34 x35 x1 (x1.length : Int) 0 x102000 x102001 x102002 x102003 x102004 x102005 x102006) else (none)) else (none)) else (some 0)
def ship_checkStowage.l2 : Nat → List Int → Int → Int → List (S85) → Int → Int → List Int → Int → Int → Int → Int → Int → List (S85) → Int → List (S59) → List (S79) → Option (Int)
 | 0, _, _, _, _, _, _, _, _, _, _, _, _, _, _, _, _ => none
 | k + 1, x1, x7, x9, x33, x34, x35, x42, x43, x44, x102000, x102001, x102002, x102003, x102004, x102005, x102006 => if x44 < x43 then (if 0 ≤ x44 then (if x44 < (x42.length : Int) then (if (rd x42 x44) = x7 then (if x44 < (x102006.length : Int) then (ship_checkStowage.l2 k x1 x7 (wrap64 (x9 - ((rd_T79 x102006 x44).f0.f1))) x33 x34 x35 x42 x43 (wrap64 (x44 + 1)) x102000 x102001 x102002 x102003 x102004 x102005 x102006) else (none)) else (ship_checkStowage.l2 k x1 x7 x9 x33 x34 x35 x42 x43 (wrap64 (x44 + 1)) x102000 x102001 x102002 x102003 x102004 x102005 x102006)) else (none)) else (none)) else (if x9 < 0 then (some 13) else (ship_checkStowage.l1 k x1 x33 x34 (wrap64 (x35 + 1)) x102000 x102001 x102002 x102003 x102004 x102005 x102006))
end
def ship_checkStowage.f (k : Nat) (a0_0 : Int) (a0_1 : Int) (a0_2 : Int) (l0_3 : List (S85)) (a0_4 : Int) (l0_5 : List (S59)) (l0_6 : List (S79)) (l1 : List Int) : Option (Int) := if (l1.length : Int) = (l0_6.length : Int) then (ship_checkStowage.l0 k l1 l1 (l1.length : Int) 0 a0_0 a0_1 a0_2 l0_3 a0_4 l0_5 l0_6) else (some 2)
theorem ship_checkStowage.mono_l : ∀ k, (∀ y0 y1 y2 y3 y4 y5 y6 y7 y8 y9 y10, LeO (ship_checkStowage.l0 k y0 y1 y2 y3 y4 y5 y6 y7 y8 y9 y10) (ship_checkStowage.l0 (k + 1) y0 y1 y2 y3 y4 y5 y6 y7 y8 y9 y10)) ∧ (∀ y0 y1 y2 y3 y4 y5 y6 y7 y8 y9 y10, LeO (ship_checkStowage.l1 k y0 y1 y2 y3 y4 y5 y6 y7 y8 y9 y10) (ship_checkStowage.l1 (k + 1) y0 y1 y2 y3 y4 y5 y6 y7 y8 y9 y10)) ∧ (∀ y0 y1 y2 y3 y4 y5 y6 y7 y8 y9 y10 y11 y12 y13 y14 y15, LeO (ship_checkStowage.l2 k y0 y1 y2 y3 y4 y5 y6 y7 y8 y9 y10 y11 y12 y13 y14 y15) (ship_checkStowage.l2 (k + 1) y0 y1 y2 y3 y4 y5 y6 y7 y8 y9 y10 y11 y12 y13 y14 y15))
 | 0 => ⟨fun _ _ _ _ _ _ _ _ _ _ _ r h => by simp [ship_checkStowage.l0] at h, fun _ _ _ _ _ _ _ _ _ _ _ r h => by simp [ship_checkStowage.l1] at h, fun _ _ _ _ _ _ _ _ _ _ _ _ _ _ _ _ r h => by simp [ship_checkStowage.l2] at h⟩
 | k + 1 => by
  obtain ⟨ih0, ih1, ih2⟩ := ship_checkStowage.mono_l k; refine ⟨?_, ?_, ?_⟩
  ·
   intro y0 y1 y2 y3 y4 y5 y6 y7 y8 y9 y10; unfold ship_checkStowage.l0
   repeat' (with_reducible first | exact ih0 _ _ _ _ _ _ _ _ _ _ _ | exact ih1 _ _ _ _ _ _ _ _ _ _ _ | exact ih2 _ _ _ _ _ _ _ _ _ _ _ _ _ _ _ _ | exact LeO.refl _ | exact LeO.none _ | refine LeO.ite ?_ ?_ | refine LeO.bind ?_ (fun _ => ?_))
  ·
   intro y0 y1 y2 y3 y4 y5 y6 y7 y8 y9 y10; unfold ship_checkStowage.l1
   repeat' (with_reducible first | exact ih0 _ _ _ _ _ _ _ _ _ _ _ | exact ih1 _ _ _ _ _ _ _ _ _ _ _ | exact ih2 _ _ _ _ _ _ _ _ _ _ _ _ _ _ _ _ | exact LeO.refl _ | exact LeO.none _ | refine LeO.ite ?_ ?_ | refine LeO.bind ?_ (fun _ => ?_))
  ·
   intro y0 y1 y2 y3 y4 y5 y6 y7 y8 y9 y10 y11 y12 y13 y14 y15; unfold ship_checkStowage.l2
   repeat' (with_reducible first | exact ih0 _ _ _ _ _ _ _ _ _ _ _ | exact ih1 _ _ _ _ _ _ _ _ _ _ _ | exact ih2 _ _ _ _ _ _ _ _ _ _ _ _ _ _ _ _ | exact LeO.refl _ | exact LeO.none _ | refine LeO.ite ?_ ?_ | refine LeO.bind ?_ (fun _ => ?_))
theorem ship_checkStowage.mono : ∀ a0 a1 a2 a3 a4 a5 a6 a7 k, LeO (ship_checkStowage.f k a0 a1 a2 a3 a4 a5 a6 a7) (ship_checkStowage.f (k + 1) a0 a1 a2 a3 a4 a5 a6 a7) := by
 intro a0 a1 a2 a3 a4 a5 a6 a7 k
 obtain ⟨ih0, ih1, ih2⟩ := ship_checkStowage.mono_l k
 unfold ship_checkStowage.f
 repeat' (with_reducible first | exact ih0 _ _ _ _ _ _ _ _ _ _ _ | exact ih1 _ _ _ _ _ _ _ _ _ _ _ | exact ih2 _ _ _ _ _ _ _ _ _ _ _ _ _ _ _ _ | exact LeO.refl _ | exact LeO.none _ | refine LeO.ite ?_ ?_ | refine LeO.bind ?_ (fun _ => ?_))
set_option maxHeartbeats 8000000 in
set_option maxRecDepth 100000 in
theorem ship_checkStowage.calls (k : Nat) (a0_0 : Int) (a0_1 : Int) (a0_2 : Int) (A0_3 : Option Addr) (c0_3 : Nat) (l0_3 : List (S85)) (a0_4 : Int) (A0_5 : Option Addr) (c0_5 : Nat) (l0_5 : List (S59)) (A0_6 : Option Addr) (c0_6 : Nat) (l0_6 : List (S79)) (A1 : Option Addr) (c1 : Nat) (l1 : List Int) (r : Int) (w : World) (hr0_3 : Kd.C k85 w A0_3 l0_3.length l0_3) (hc0_3 : l0_3.length ≤ c0_3) (hr0_5 : Kd.C k59 w A0_5 l0_5.length l0_5) (hc0_5 : l0_5.length ≤ c0_5) (hr0_6 : Kd.C k79 w A0_6 l0_6.length l0_6) (hc0_6 : l0_6.length ≤ c0_6) (hr1 : Kd.C (Kd.int .i64) w A1 l1.length l1) (hc1 : l1.length ≤ c1) (h : ship_checkStowage.f k a0_0 a0_1 a0_2 l0_3 a0_4 l0_5 l0_6 l1 = some r) :
  Calls Try.prog 63 #[.agg #[.int .i64 a0_0, .int .i64 a0_1, .int .i64 a0_2, .slice A0_3 l0_3.length c0_3, .int .i64 a0_4, .slice A0_5 l0_5.length c0_5, .slice A0_6 l0_6.length c0_6], .slice A1 l1.length c1] w fun e w' => e = .returned (.int .i64 r) ∧ Below w.heap.size w w' := by
 have hu26 := Try.underlying26
 have hu85 := Try.underlying85
 have HR0_3 := Aside0.mk hr0_3
 have HC0_3 := Aside0.mk hc0_3
 clear hr0_3 hc0_3
 have HR0_5 := Aside0.mk hr0_5
 have HC0_5 := Aside0.mk hc0_5
 clear hr0_5 hc0_5
 have HR0_6 := Aside0.mk hr0_6
 have HC0_6 := Aside0.mk hc0_6
 clear hr0_6 hc0_6
 have HR1 := Aside0.mk hr1
 have HC1 := Aside0.mk hc1
 clear hr1 hc1
 have HB := Aside0.mk (Below.refl w.heap.size w)
 have H : (if (l1.length : Int) = (l0_6.length : Int) then (ship_checkStowage.l0 k l1 l1 (l1.length : Int) 0 a0_0 a0_1 a0_2 l0_3 a0_4 l0_5 l0_6) else (some 2)) = some r := h
 clear h
 by_cases c3 : (l1.length : Int) = (l0_6.length : Int)
 ·
  rw [if_pos c3] at H; have c3b0 : ((l1.length : Int) == (l0_6.length : Int)) = true := beq_iff_eq.mpr c3; have c3b1 : ((l1.length : Int) != (l0_6.length : Int)) = false := bne_eq_false_iff_eq.mpr c3; (have c3b2 : (l1.length == l0_6.length) = true := by first | simpa using c3 | (simp at c3 ⊢; omega)); clear c3; have H' := Aside0.mk H; clear H; go_enter Try.func63, Try.ntmps63
  go_wp2_with (first | (refine box_r (N := 2) rfl (cs := #[.int .i64 a0_0, .int .i64 a0_1, .int .i64 a0_2, .slice A0_3 l0_3.length c0_3, .int .i64 a0_4, .slice A0_5 l0_5.length c0_5, .slice A0_6 l0_6.length c0_6]) (t := 26) ?_; intro gb101 hg w4 hbox hb; have BK101 := Aside0.mk (hbox); have GW101 := gw_x hg HB; have GE101 := GW101; replace HB := Aside0.mk (below_step (below_x HB.out) hb); clear hb hbox hg; obtain ⟨hfz5_0, _, _, _, _, _, _, _⟩ := cf7 BK101))
  go_loopg [20] k (fun kq v20 w' => ∃ (x20_1 : Int), v20 = .int .i64 x20_1 ∧ Aside0 (ship_checkStowage.l0 kq l1 l1 (l1.length : Int) x20_1 a0_0 a0_1 a0_2 l0_3 a0_4 l0_5 l0_6 = some r) ∧ Aside0 (kq ≤ k) ∧ Aside0 (w'.heap[gb101]? = some (.cells #[.int .i64 a0_0, .int .i64 a0_1, .int .i64 a0_2, (.slice A0_3 l0_3.length c0_3), .int .i64 a0_4, (.slice A0_5 l0_5.length c0_5), (.slice A0_6 l0_6.length c0_6)] 26 (0, 0))) ∧ Aside0 (Below w.heap.size w w'))
  case atStart => exact ⟨(0), (by first | rfl | (simp; done) | (simp [*]; done)), H', ⟨Nat.le_refl _⟩, ⟨blk_x BK101.out⟩, ⟨by exact below_y HB.out⟩⟩
  case round =>
   clear H'; obtain ⟨x20_1, rfl, HA, HK1, BK101, HB⟩ := hrel; cases gk with
   | zero => exact absurd HA.out (by simp [ship_checkStowage.l0])
   | succ k1 =>
    have H := HA.out; clear HA; simp only [ship_checkStowage.l0] at H; by_cases c6 : x20_1 < (l1.length : Int)
    ·
     rw [if_pos c6] at H; have c6b0 : decide (x20_1 < (l1.length : Int)) = true := decide_eq_true c6; clear c6; by_cases c7 : 0 ≤ x20_1
     ·
      rw [if_pos c7] at H; have c7b0 : decide (0 ≤ x20_1) = true := decide_eq_true c7; clear c7; by_cases c8 : x20_1 < (l1.length : Int)
      ·
       rw [if_pos c8] at H; have c8b0 : decide (x20_1 < (l1.length : Int)) = true := decide_eq_true c8; clear c8; replace H := Option.bind_eq_some_iff.mp H; obtain ⟨t103, A90, H⟩ := H
       try dsimp only at H
       have A9 := Aside0.mk A90; clear A90; by_cases c10 : t103 = true
       ·
        subst c10; (have H1 : (ship_checkStowage.l0 k1 l1 l1 (l1.length : Int) (wrap64 (x20_1 + 1)) a0_0 a0_1 a0_2 l0_3 a0_4 l0_5 l0_6) = some r := by rw [if_pos rfl] at H; exact H); clear H; have H := H1; clear H1; have H' := Aside0.mk H; clear H; have p102 : 0 ≤ (x20_1 : Int) := of_x; have q102 : x20_1 < (l1.length : Int) := of_x; obtain ⟨ad102, e102, hx102_0⟩ := Kd.at_int HR1.out x20_1 p102 q102; (cases e102); replace hx102_0 := cell_x HB hx102_0; replace p102 := eq_true p102; replace q102 := eq_true q102; obtain ⟨hfz11_0, _, _, _, _, _, _, _⟩ := cf7 BK101
        go_wp2_with (first | (refine goesG_x 72 rfl (some 29) Try.func72 #[.int .i64 (rd l1 x20_1), .int .i64 (-1), .int .i64 (wrap64 ((l0_3.length : Int) - 1))] ?_; (with_reducible refine (ship_in.calls (rd l1 x20_1) (-1) (wrap64 ((l0_3.length : Int) - 1)) true _ A9.out).mono ?_); rintro e w' ⟨rfl, ⟨nd, rfl⟩⟩; refine ⟨_, rfl, ?_⟩))
        go_roundg k1
        case measure => have := HK1.out; omega
        case rel => exact ⟨(wrap64 (x20_1 + 1)), (by first | rfl | (simp; done) | (simp [*]; done)), H', ⟨by have := HK1.out; omega⟩, ⟨blk_x BK101.out⟩, ⟨by exact below_y HB.out⟩⟩
       ·
        replace c10 := Bool.eq_false_iff.mpr c10; subst c10; replace H : (some 3) = some r := ifn_x H; obtain rfl := Option.some.inj H; have p102 : 0 ≤ (x20_1 : Int) := of_x; have q102 : x20_1 < (l1.length : Int) := of_x; obtain ⟨ad102, e102, hx102_0⟩ := Kd.at_int HR1.out x20_1 p102 q102; (cases e102); replace hx102_0 := cell_x HB hx102_0; replace p102 := eq_true p102; replace q102 := eq_true q102; obtain ⟨hfz12_0, _, _, _, _, _, _, _⟩ := cf7 BK101
        go_wp2_with (first | (refine goesG_x 72 rfl (some 29) Try.func72 #[.int .i64 (rd l1 x20_1), .int .i64 (-1), .int .i64 (wrap64 ((l0_3.length : Int) - 1))] ?_; (with_reducible refine (ship_in.calls (rd l1 x20_1) (-1) (wrap64 ((l0_3.length : Int) - 1)) false _ A9.out).mono ?_); rintro e w' ⟨rfl, ⟨nd, rfl⟩⟩; refine ⟨_, rfl, ?_⟩))
        go_ret; exact rt_y HB
      ·
       rw [if_neg c8] at H; exact absurd H (by simp)
     ·
      rw [if_neg c7] at H; exact absurd H (by simp)
    ·
     rw [if_neg c6] at H; have c6b0 : decide (x20_1 < (l1.length : Int)) = false := decide_eq_false c6; clear c6; have H' := Aside0.mk H; clear H; obtain ⟨hfz13_0, _, _, _, _, _, _, _⟩ := cf7 BK101; go_wp2
     go_loopg [35] k1 (fun kq v35 w' => ∃ (x35_2 : Int), v35 = .int .i64 x35_2 ∧ Aside0 (ship_checkStowage.l1 kq l1 l0_3 (l0_3.length : Int) x35_2 a0_0 a0_1 a0_2 l0_3 a0_4 l0_5 l0_6 = some r) ∧ Aside0 (kq ≤ k1) ∧ Aside0 (w'.heap[gb101]? = some (.cells #[.int .i64 a0_0, .int .i64 a0_1, .int .i64 a0_2, (.slice A0_3 l0_3.length c0_3), .int .i64 a0_4, (.slice A0_5 l0_5.length c0_5), (.slice A0_6 l0_6.length c0_6)] 26 (0, 0))) ∧ Aside0 (Below w.heap.size w w'))
     case atStart => exact ⟨(0), (by first | rfl | (simp; done) | (simp [*]; done)), H', ⟨Nat.le_refl _⟩, ⟨blk_x BK101.out⟩, ⟨by exact below_y HB.out⟩⟩
     case round =>
      clear H'; obtain ⟨x35_2, rfl, HA, HK2, BK101, HB⟩ := hrel; cases gk with
      | zero => exact absurd HA.out (by simp [ship_checkStowage.l1])
      | succ k2 =>
       have H := HA.out; clear HA; simp only [ship_checkStowage.l1] at H; by_cases c14 : x35_2 < (l0_3.length : Int)
       ·
        rw [if_pos c14] at H; have c14b0 : decide (x35_2 < (l0_3.length : Int)) = true := decide_eq_true c14; clear c14; by_cases c15 : 0 ≤ x35_2
        ·
         rw [if_pos c15] at H; have c15b0 : decide (0 ≤ x35_2) = true := decide_eq_true c15; clear c15; by_cases c16 : x35_2 < (l0_3.length : Int)
         ·
          rw [if_pos c16] at H; have c16b0 : decide (x35_2 < (l0_3.length : Int)) = true := decide_eq_true c16; clear c16; have H' := Aside0.mk H; clear H; have p104 : 0 ≤ (x35_2 : Int) := of_x; have q104 : x35_2 < (l0_3.length : Int) := of_x; obtain ⟨ad104, e104, hx104_0, hx104_1, hx104_2⟩ := at_T85 HR0_3.out x35_2 p104 q104; (cases e104); replace hx104_0 := cell_x HB hx104_0; replace hx104_1 := cell_x HB hx104_1; replace hx104_2 := cell_x HB hx104_2; replace p104 := eq_true p104; replace q104 := eq_true q104
          go_wp2_with (first | (refine box_r (N := 8) rfl (cs := #[.int .i64 0, .int .i64 0, .int .i64 0]) (t := 85) ?_; intro gb105 hg w17 hbox hb; have BK105 := Aside0.mk (hbox); have GW105 := gw_x hg HB; have GE105 := GW105; replace HB := bl_x HB hb; have NB101_105 := nb_x hg BK101; have NB105_101 := nb_y hg BK101; replace BK101 := bk_x BK101 hb; clear hb hbox hg; have hnb18 := NB105_101.out; have hnc18 := NB101_105.out; obtain ⟨hfz19_0, _, _, _⟩ := cf3 BK105))
          go_loopg [9, 44] k2 (fun kq v9 v44 w' => ∃ (x9_3 : Int) (x44_3 : Int), v9 = .int .i64 x9_3 ∧ v44 = .int .i64 x44_3 ∧ Aside0 (ship_checkStowage.l2 kq l1 x35_2 x9_3 l0_3 (l0_3.length : Int) x35_2 l1 (l1.length : Int) x44_3 a0_0 a0_1 a0_2 l0_3 a0_4 l0_5 l0_6 = some r) ∧ Aside0 (kq ≤ k2) ∧ Aside0 (w'.heap[gb101]? = some (.cells #[.int .i64 a0_0, .int .i64 a0_1, .int .i64 a0_2, (.slice (some ad104) l0_3.length c0_3), .int .i64 a0_4, (.slice A0_5 l0_5.length c0_5), (.slice A0_6 l0_6.length c0_6)] 26 (0, 0))) ∧ Aside0 (w'.heap[gb105]? = some (.cells #[.int .i64 ((rd_T85 l0_3 x35_2).f0), .int .i64 ((rd_T85 l0_3 x35_2).f1), .int .i64 ((rd_T85 l0_3 x35_2).f2)] 85 (0, 0))) ∧ Aside0 (Below w.heap.size w w'))
          case atStart => exact ⟨((rd_T85 l0_3 x35_2).f0), (0), (by first | rfl | (simp; done) | (simp [*]; done)), (by first | rfl | (simp; done) | (simp [*]; done)), H', ⟨Nat.le_refl _⟩, ⟨blk_w BK101.out⟩, ⟨blk_z BK105.out⟩, ⟨by exact below_y HB.out⟩⟩
          case round =>
           clear H'; obtain ⟨x9_3, x44_3, rfl, rfl, HA, HK3, BK101, BK105, HB⟩ := hrel; cases gk with
           | zero => exact absurd HA.out (by simp [ship_checkStowage.l2])
           | succ k3 =>
            have H := HA.out; clear HA; simp only [ship_checkStowage.l2] at H; by_cases c20 : x44_3 < (l1.length : Int)
            ·
             rw [if_pos c20] at H; have c20b0 : decide (x44_3 < (l1.length : Int)) = true := decide_eq_true c20; clear c20; by_cases c21 : 0 ≤ x44_3
             ·
              rw [if_pos c21] at H; have c21b0 : decide (0 ≤ x44_3) = true := decide_eq_true c21; clear c21; by_cases c22 : x44_3 < (l1.length : Int)
              ·
               rw [if_pos c22] at H; have c22b0 : decide (x44_3 < (l1.length : Int)) = true := decide_eq_true c22; clear c22; by_cases c23 : (rd l1 x44_3) = x35_2
               ·
                rw [if_pos c23] at H; have c23b0 : ((rd l1 x44_3) == x35_2) = true := beq_iff_eq.mpr c23; have c23b1 : ((rd l1 x44_3) != x35_2) = false := bne_eq_false_iff_eq.mpr c23; clear c23; by_cases c24 : x44_3 < (l0_6.length : Int)
                ·
                 rw [if_pos c24] at H; have c24b0 : decide (x44_3 < (l0_6.length : Int)) = true := decide_eq_true c24; clear c24; have H' := Aside0.mk H; clear H; have p106 : 0 ≤ (x44_3 : Int) := of_x; have q106 : x44_3 < (l1.length : Int) := of_x; obtain ⟨ad106, e106, hx106_0⟩ := Kd.at_int HR1.out x44_3 p106 q106; (cases e106); replace hx106_0 := cell_x HB hx106_0; replace p106 := eq_true p106; replace q106 := eq_true q106; have hnb25 := NB101_105.out; have hnc25 := NB105_101.out; obtain ⟨hfz26_0, _, _, _, _, _, _, _⟩ := cf7 BK101; have p107 : 0 ≤ (x44_3 : Int) := of_x; have q107 : x44_3 < (l0_6.length : Int) := of_x; obtain ⟨ad107, e107, hx107_0, hx107_1, hx107_2⟩ := at_T79 HR0_6.out x44_3 p107 q107; (cases e107); replace hx107_0 := cell_x HB hx107_0; replace hx107_1 := cell_x HB hx107_1; replace hx107_2 := cell_x HB hx107_2; replace p107 := eq_true p107; replace q107 := eq_true q107; go_wp2; go_roundg k3
                 case measure => have := HK1.out; have := HK2.out; have := HK3.out; omega
                 case rel => exact ⟨(wrap64 (x9_3 - ((rd_T79 l0_6 x44_3).f0.f1))), (wrap64 (x44_3 + 1)), (by first | rfl | (simp; done) | (simp [*]; done)), (by first | rfl | (simp; done) | (simp [*]; done)), H', ⟨by have := HK1.out; have := HK2.out; have := HK3.out; omega⟩, ⟨blk_x BK101.out⟩, ⟨blk_x BK105.out⟩, ⟨by exact below_y HB.out⟩⟩
                ·
                 rw [if_neg c24] at H; exact absurd H (by simp)
               ·
                rw [if_neg c23] at H; have c23b0 : ((rd l1 x44_3) == x35_2) = false := beq_eq_false_iff_ne.mpr c23; have c23b1 : ((rd l1 x44_3) != x35_2) = true := bne_iff_ne.mpr c23; have H' := Aside0.mk H; clear H; have p106 : 0 ≤ (x44_3 : Int) := of_x; have q106 : x44_3 < (l1.length : Int) := of_x; obtain ⟨ad106, e106, hx106_0⟩ := Kd.at_int HR1.out x44_3 p106 q106; (cases e106); replace hx106_0 := cell_x HB hx106_0; replace p106 := eq_true p106; replace q106 := eq_true q106; go_wp2; go_roundg k3
                case measure => have := HK1.out; have := HK2.out; have := HK3.out; omega
                case rel => exact ⟨(x9_3), (wrap64 (x44_3 + 1)), (by first | rfl | (simp; done) | (simp [*]; done)), (by first | rfl | (simp; done) | (simp [*]; done)), H', ⟨by have := HK1.out; have := HK2.out; have := HK3.out; omega⟩, ⟨blk_x BK101.out⟩, ⟨blk_x BK105.out⟩, ⟨by exact below_y HB.out⟩⟩
              ·
               rw [if_neg c22] at H; exact absurd H (by simp)
             ·
              rw [if_neg c21] at H; exact absurd H (by simp)
            ·
             rw [if_neg c20] at H; have c20b0 : decide (x44_3 < (l1.length : Int)) = false := decide_eq_false c20; clear c20; by_cases c27 : x9_3 < 0
             ·
              rw [if_pos c27] at H; have c27b0 : decide (x9_3 < 0) = true := decide_eq_true c27; clear c27; obtain rfl := Option.some.inj H; go_wp2; go_ret; exact rt_y HB
             ·
              rw [if_neg c27] at H; have c27b0 : decide (x9_3 < 0) = false := decide_eq_false c27; clear c27; have H' := Aside0.mk H; clear H; go_wp2; go_roundg k3
              case measure => have := HK1.out; have := HK2.out; have := HK3.out; omega
              case rel => exact ⟨(wrap64 (x35_2 + 1)), (by first | rfl | (simp; done) | (simp [*]; done)), H', ⟨by have := HK1.out; have := HK2.out; have := HK3.out; omega⟩, ⟨blk_x BK101.out⟩, ⟨by exact below_y HB.out⟩⟩
         ·
          rw [if_neg c16] at H; exact absurd H (by simp)
        ·
         rw [if_neg c15] at H; exact absurd H (by simp)
       ·
        rw [if_neg c14] at H; have c14b0 : decide (x35_2 < (l0_3.length : Int)) = false := decide_eq_false c14; clear c14; obtain rfl := Option.some.inj H; go_wp2; go_ret; exact rt_y HB
 ·
  rw [if_neg c3] at H; have c3b0 : ((l1.length : Int) == (l0_6.length : Int)) = false := beq_eq_false_iff_ne.mpr c3; have c3b1 : ((l1.length : Int) != (l0_6.length : Int)) = true := bne_iff_ne.mpr c3; (have c3b2 : (l1.length == l0_6.length) = false := by first | simpa using c3 | (simp at c3 ⊢; omega)); obtain rfl := Option.some.inj H; go_enter Try.func63, Try.ntmps63
  go_wp2_with (first | (refine box_r (N := 2) rfl (cs := #[.int .i64 a0_0, .int .i64 a0_1, .int .i64 a0_2, .slice A0_3 l0_3.length c0_3, .int .i64 a0_4, .slice A0_5 l0_5.length c0_5, .slice A0_6 l0_6.length c0_6]) (t := 26) ?_; intro gb101 hg w28 hbox hb; have BK101 := Aside0.mk (hbox); have GW101 := gw_x hg HB; have GE101 := GW101; replace HB := Aside0.mk (below_step (below_x HB.out) hb); clear hb hbox hg; obtain ⟨hfz29_0, _, _, _, _, _, _, _⟩ := cf7 BK101))
  go_ret; exact rt_y HB
def ship_CheckStowage.f (k : Nat) (a0_0 : Int) (a0_1 : Int) (a0_2 : Int) (l0_3 : List (S85)) (a0_4 : Int) (l0_5 : List (S59)) (l0_6 : List (S79)) (l1 : List Int) : Option (Int) := (ship_Check.f k a0_0 a0_1 a0_2 l0_3 a0_4 l0_5 l0_6).bind fun t138 => (if t138 = 0 then ((ship_checkStowage.f k a0_0 a0_1 a0_2 l0_3 a0_4 l0_5 l0_6 l1).bind fun t139 => (some t139)) else (some t138))
theorem ship_CheckStowage.mono : ∀ a0 a1 a2 a3 a4 a5 a6 a7 k, LeO (ship_CheckStowage.f k a0 a1 a2 a3 a4 a5 a6 a7) (ship_CheckStowage.f (k + 1) a0 a1 a2 a3 a4 a5 a6 a7) := by
 intro a0 a1 a2 a3 a4 a5 a6 a7 k
 unfold ship_CheckStowage.f
 repeat' (with_reducible first | exact ship_Check.mono _ _ _ _ _ _ _ _ | exact ship_checkStowage.mono _ _ _ _ _ _ _ _ _ | exact LeO.refl _ | exact LeO.none _ | refine LeO.ite ?_ ?_ | refine LeO.bind ?_ (fun _ => ?_))
set_option maxHeartbeats 8000000 in
set_option maxRecDepth 100000 in
theorem ship_CheckStowage.calls (k : Nat) (a0_0 : Int) (a0_1 : Int) (a0_2 : Int) (A0_3 : Option Addr) (c0_3 : Nat) (l0_3 : List (S85)) (a0_4 : Int) (A0_5 : Option Addr) (c0_5 : Nat) (l0_5 : List (S59)) (A0_6 : Option Addr) (c0_6 : Nat) (l0_6 : List (S79)) (A1 : Option Addr) (c1 : Nat) (l1 : List Int) (r : Int) (w : World) (hr0_3 : Kd.C k85 w A0_3 l0_3.length l0_3) (hc0_3 : l0_3.length ≤ c0_3) (hr0_5 : Kd.C k59 w A0_5 l0_5.length l0_5) (hc0_5 : l0_5.length ≤ c0_5) (hr0_6 : Kd.C k79 w A0_6 l0_6.length l0_6) (hc0_6 : l0_6.length ≤ c0_6) (hr1 : Kd.C (Kd.int .i64) w A1 l1.length l1) (hc1 : l1.length ≤ c1) (h : ship_CheckStowage.f k a0_0 a0_1 a0_2 l0_3 a0_4 l0_5 l0_6 l1 = some r) :
  Calls Try.prog 40 #[.agg #[.int .i64 a0_0, .int .i64 a0_1, .int .i64 a0_2, .slice A0_3 l0_3.length c0_3, .int .i64 a0_4, .slice A0_5 l0_5.length c0_5, .slice A0_6 l0_6.length c0_6], .slice A1 l1.length c1] w fun e w' => e = .returned (.int .i64 r) ∧ Below w.heap.size w w' := by
 have hu26 := Try.underlying26
 have HR0_3 := Aside0.mk hr0_3
 have HC0_3 := Aside0.mk hc0_3
 clear hr0_3 hc0_3
 have HR0_5 := Aside0.mk hr0_5
 have HC0_5 := Aside0.mk hc0_5
 clear hr0_5 hc0_5
 have HR0_6 := Aside0.mk hr0_6
 have HC0_6 := Aside0.mk hc0_6
 clear hr0_6 hc0_6
 have HR1 := Aside0.mk hr1
 have HC1 := Aside0.mk hc1
 clear hr1 hc1
 have HB := Aside0.mk (Below.refl w.heap.size w)
 have H : ((ship_Check.f k a0_0 a0_1 a0_2 l0_3 a0_4 l0_5 l0_6).bind fun t138 => (if t138 = 0 then ((ship_checkStowage.f k a0_0 a0_1 a0_2 l0_3 a0_4 l0_5 l0_6 l1).bind fun t139 => (some t139)) else (some t138))) = some r := h
 clear h
 replace H := Option.bind_eq_some_iff.mp H
 obtain ⟨t138, A30, H⟩ := H
 try dsimp only at H
 have A3 := Aside0.mk A30
 clear A30
 by_cases c4 : t138 = 0
 ·
  rw [if_pos c4] at H; have c4b0 : (t138 == 0) = true := beq_iff_eq.mpr c4; have c4b1 : (t138 != 0) = false := bne_eq_false_iff_eq.mpr c4; clear c4; replace H := Option.bind_eq_some_iff.mp H; obtain ⟨t139, A50, H⟩ := H; replace H : (some t139) = some r := H; have A5 := Aside0.mk A50; clear A50; obtain rfl := Option.some.inj H; go_enter Try.func40, Try.ntmps40
  go_wp2_with (first | (refine box_r (N := 2) rfl (cs := #[.int .i64 a0_0, .int .i64 a0_1, .int .i64 a0_2, .slice A0_3 l0_3.length c0_3, .int .i64 a0_4, .slice A0_5 l0_5.length c0_5, .slice A0_6 l0_6.length c0_6]) (t := 26) ?_; intro gb137 hg w6 hbox hb; have BK137 := Aside0.mk (hbox); have GW137 := gw_x hg HB; have GE137 := GW137; replace HB := Aside0.mk (below_step (below_x HB.out) hb); clear hb hbox hg; obtain ⟨hfz7_0, _, _, _, _, _, _, _⟩ := cf7 BK137) | (refine goesG_x 39 rfl (some 7) Try.func39 #[.agg #[.int .i64 a0_0, .int .i64 a0_1, .int .i64 a0_2, .slice A0_3 l0_3.length c0_3, .int .i64 a0_4, .slice A0_5 l0_5.length c0_5, .slice A0_6 l0_6.length c0_6]] ?_; (with_reducible refine (ship_Check.calls k a0_0 a0_1 a0_2 _ _ l0_3 a0_4 _ _ l0_5 _ _ l0_6 t138 _ ?side1 ?side2 ?side3 ?side4 ?side5 ?side6 A3.out).mono ?_); (case side1 => exact Kd.C_x HR0_3.out HB.out); (case side2 => exact HC0_3.out); (case side3 => exact Kd.C_x HR0_5.out HB.out); (case side4 => exact HC0_5.out); (case side5 => exact Kd.C_x HR0_6.out HB.out); (case side6 => exact HC0_6.out); rintro e w8 ⟨rfl, hb⟩; refine ⟨_, rfl, ?_⟩; replace BK137 := bk_x BK137 hb; replace HB := bl_x HB hb; (try clear hb); (try clear hk); (try clear hi); obtain ⟨hfz9_0, _, _, _, _, _, _, _⟩ := cf7 BK137) | (refine goesG_x 63 rfl (some 13) Try.func63 #[.agg #[.int .i64 a0_0, .int .i64 a0_1, .int .i64 a0_2, .slice A0_3 l0_3.length c0_3, .int .i64 a0_4, .slice A0_5 l0_5.length c0_5, .slice A0_6 l0_6.length c0_6], .slice A1 l1.length c1] ?_; (with_reducible refine (ship_checkStowage.calls k a0_0 a0_1 a0_2 _ _ l0_3 a0_4 _ _ l0_5 _ _ l0_6 _ _ l1 t139 _ ?side1 ?side2 ?side3 ?side4 ?side5 ?side6 ?side7 ?side8 A5.out).mono ?_); (case side1 => exact Kd.C_x HR0_3.out HB.out); (case side2 => exact HC0_3.out); (case side3 => exact Kd.C_x HR0_5.out HB.out); (case side4 => exact HC0_5.out); (case side5 => exact Kd.C_x HR0_6.out HB.out); (case side6 => exact HC0_6.out); (case side7 => exact Kd.C_x HR1.out HB.out); (case side8 => exact HC1.out); rintro e w10 ⟨rfl, hb⟩; refine ⟨_, rfl, ?_⟩; replace BK137 := bk_x BK137 hb; replace HB := bl_x HB hb; (try clear hb); (try clear hk); (try clear hi)))
  go_ret; exact rt_y HB
 ·
  rw [if_neg c4] at H; have c4b0 : (t138 == 0) = false := beq_eq_false_iff_ne.mpr c4; have c4b1 : (t138 != 0) = true := bne_iff_ne.mpr c4; obtain rfl := Option.some.inj H; go_enter Try.func40, Try.ntmps40
  go_wp2_with (first | (refine box_r (N := 2) rfl (cs := #[.int .i64 a0_0, .int .i64 a0_1, .int .i64 a0_2, .slice A0_3 l0_3.length c0_3, .int .i64 a0_4, .slice A0_5 l0_5.length c0_5, .slice A0_6 l0_6.length c0_6]) (t := 26) ?_; intro gb137 hg w11 hbox hb; have BK137 := Aside0.mk (hbox); have GW137 := gw_x hg HB; have GE137 := GW137; replace HB := Aside0.mk (below_step (below_x HB.out) hb); clear hb hbox hg; obtain ⟨hfz12_0, _, _, _, _, _, _, _⟩ := cf7 BK137) | (refine goesG_x 39 rfl (some 7) Try.func39 #[.agg #[.int .i64 a0_0, .int .i64 a0_1, .int .i64 a0_2, .slice A0_3 l0_3.length c0_3, .int .i64 a0_4, .slice A0_5 l0_5.length c0_5, .slice A0_6 l0_6.length c0_6]] ?_; (with_reducible refine (ship_Check.calls k a0_0 a0_1 a0_2 _ _ l0_3 a0_4 _ _ l0_5 _ _ l0_6 t138 _ ?side1 ?side2 ?side3 ?side4 ?side5 ?side6 A3.out).mono ?_); (case side1 => exact Kd.C_x HR0_3.out HB.out); (case side2 => exact HC0_3.out); (case side3 => exact Kd.C_x HR0_5.out HB.out); (case side4 => exact HC0_5.out); (case side5 => exact Kd.C_x HR0_6.out HB.out); (case side6 => exact HC0_6.out); rintro e w13 ⟨rfl, hb⟩; refine ⟨_, rfl, ?_⟩; replace BK137 := bk_x BK137 hb; replace HB := bl_x HB hb; (try clear hb); (try clear hk); (try clear hi)))
  go_ret; exact rt_y HB
end Go.Proofs.Ytodmemndaaiolaa.PC7
namespace Go.Proofs.Ytodmemndaaiolaa.PC7
set_option linter.unusedVariables false
set_option linter.unusedSimpArgs false
open Go.RowKit Go.Proofs.YtodmemndaaiolaaW.PrintWords Go.Proofs.YtodmemndaaiolaaW.PrintLast Go.Proofs.YtodmemndaaiolaaW.PrintMore
noncomputable def limO {α : Type} (g : Nat → Option α) : Option α := open Classical in if h : ∃ r, Ev g r then some (Classical.choose h) else none
theorem Ev.uniq {α : Type} {g : Nat → Option α} {r s : α} (h : Ev g r) (k : Ev g s) : r = s := by
  obtain ⟨K, h⟩ := h
  obtain ⟨L, k⟩ := k
  have h1 := h (max K L) (Nat.le_max_left _ _)
  have h2 := k (max K L) (Nat.le_max_right _ _)
  rw [h1] at h2
  injection h2
theorem limO_of {α : Type} {g : Nat → Option α} {r : α} (h : Ev g r) : limO g = some r := by
  have hh : ∃ r, Ev g r := ⟨r, h⟩
  unfold limO
  rw [dif_pos hh]
  congr 1
  exact Ev.uniq (Classical.choose_spec hh) h
theorem limO_ev {α : Type} {g : Nat → Option α} {r : α} (h : limO g = some r) : ∃ k, g k = some r := by
  unfold limO at h
  by_cases hh : ∃ r, Ev g r
  · rw [dif_pos hh] at h
    have := Classical.choose_spec hh
    injection h with h
    rw [h] at this
    exact this.rounds
  · rw [dif_neg hh] at h
    cases h
noncomputable def stowE (light under trim : Int) (holds : List S85) (leaves : Int) (sills : List S59) (lots : List S79) (s : List Int) : Option Int := limO fun k => ship_CheckStowage.f k light under trim holds leaves sills lots s
theorem wrap64_id {n : Int} (h0 : -9223372036854775808 ≤ n) (h : n ≤ 9223372036854775807) : wrap64 n = n := IntWalk.wrap64_in n ⟨h0, h⟩
theorem wrapS {i : Nat} (h : i < 4611686018427387904) : wrap64 ((i : Int) + 1) = ((i + 1 : Nat) : Int) := by rw [wrap64_id (by omega) (by omega)]; omega
theorem wrapP {i : Nat} (h0 : 0 < i) (h : i < 4611686018427387904) : wrap64 ((i : Int) - 1) = ((i - 1 : Nat) : Int) := by rw [wrap64_id (by omega) (by omega)]; omega
theorem getD_mem {α : Type} (l : List α) (k : Nat) (d : α) (h : k < l.length) : l.getD k d ∈ l := by
  rw [List.getD, List.getElem?_eq_getElem h]; exact List.getElem_mem h
theorem getD_get {α : Type} (l : List α) (k : Nat) (d : α) (h : k < l.length) : l.getD k d = l[k] := by
  rw [List.getD, List.getElem?_eq_getElem h]; rfl
theorem getD_snoc_lt {α : Type} (l : List α) (x d : α) {i : Nat} (h : i < l.length) : (l ++ [x]).getD i d = l.getD i d := by
  rw [List.getD, List.getD, List.getElem?_append_left h]
theorem getD_snoc_eq {α : Type} (l : List α) (x d : α) : (l ++ [x]).getD l.length d = x := by
  rw [List.getD, List.getElem?_append_right (Nat.le_refl _)]; simp
def Res {α : Type} (g : Nat → Option α) (P : α → Prop) : Prop := ∃ r, Ev g r ∧ P r
theorem Ev.succ {α : Type} {g : Nat → Option α} {r : α} (h : Ev (fun k => g (k + 1)) r) : Ev g r := Ev.step (fun _ => rfl) h
theorem Res.step {α : Type} {g f : Nat → Option α} {P : α → Prop} (h : ∀ k, g (k + 1) = f k) (k : Res f P) : Res g P := by
  obtain ⟨r, h1, h2⟩ := k
  exact ⟨r, Ev.step h h1, h2⟩
theorem Res.succ {α : Type} {g : Nat → Option α} {P : α → Prop} (h : Res (fun k => g (k + 1)) P) : Res g P := Res.step (fun _ => rfl) h
theorem Res.now {α : Type} {P : α → Prop} {r : α} (hp : P r) : Res (fun _ => some r) P := ⟨r, Ev.now r, hp⟩
theorem Res.mono {α : Type} {g : Nat → Option α} {P Q : α → Prop} (h : Res g P) (k : ∀ r, P r → Q r) : Res g Q := by
  obtain ⟨r, h1, h2⟩ := h
  exact ⟨r, h1, k r h2⟩
theorem Res.bind {α β : Type} {g : Nat → Option α} {f : Nat → α → Option β} {P : β → Prop} {a : α} (h : Ev g a) (k : Res (fun n => f n a) P) : Res (fun n => (g n).bind (f n)) P := by
  obtain ⟨r, h1, h2⟩ := k
  exact ⟨r, Ev.bind h h1, h2⟩
theorem Ev.tail {α : Type} {g : Nat → Option α} {r : α} (h : Ev g r) : Ev (fun k => (g k).bind fun t => some t) r := Ev.bind h (Ev.now r)
theorem Ev.take {α β : Type} {o : Option α} {a : α} {f : Nat → α → Option β} {r : β} (h : o = some a) (k : Ev (fun n => f n a) r) : Ev (fun n => o.bind (f n)) r := by subst h; exact k
theorem Res.take {α β : Type} {o : Option α} {a : α} {f : Nat → α → Option β} {P : β → Prop} (h : o = some a) (k : Res (fun n => f n a) P) : Res (fun n => o.bind (f n)) P := by subst h; exact k
theorem u64_bd (n : Int) : 0 ≤ IntKind.u64.wrap n ∧ IntKind.u64.wrap n < 18446744073709551616 := by
  have : IntKind.u64.wrap n = n % 18446744073709551616 := by simp [IntKind.wrap, IntKind.bits, IntKind.signed]
  omega
theorem u64_id {n : Int} (h0 : 0 ≤ n) (h : n < 18446744073709551616) : IntKind.u64.wrap n = n := by
  have : IntKind.u64.wrap n = n % 18446744073709551616 := by simp [IntKind.wrap, IntKind.bits, IntKind.signed]
  omega
theorem below_ok (s n : Int) (h1 : 1 ≤ n) (h : n ≤ 1000000000) : ∃ r s', swarfkit_Feed_Below.f s n = some (r, s') ∧ 0 ≤ r ∧ r < n := by
  unfold swarfkit_Feed_Below.f
  by_cases h2 : n < 2
  · rw [if_pos h2]
    exact ⟨0, s, rfl, by omega, by omega⟩
  · rw [if_neg h2]
    unfold swarfkit_Feed_next.f
    simp only [Option.bind_some]
    rw [u64_id (by omega) (by omega), if_neg (by omega)]
    refine ⟨_, _, rfl, ?_⟩
    obtain ⟨ha, hb⟩ := u64_bd (feedN s * 2685821657736338717)
    have hm : feedM (feedN s) = IntKind.u64.wrap (feedN s * 2685821657736338717) := rfl
    rw [hm]
    generalize IntKind.u64.wrap (feedN s * 2685821657736338717) = x at *
    have hx : 0 ≤ x / 256 := by omega
    rw [Int.tmod_eq_emod_of_nonneg hx]
    have h3 := Int.emod_nonneg (x / 256) (show n ≠ 0 by omega)
    have h4 := Int.emod_lt_of_pos (x / 256) (show 0 < n by omega)
    rw [wrap64_id (by omega) (by omega)]
    exact ⟨h3, h4⟩
theorem between_ok (s lo hi : Int) (h : lo ≤ hi) (h0 : -1000 ≤ lo) (h1 : hi ≤ 1000000) : ∃ r s', swarfkit_Feed_Between.f s lo hi = some (r, s') ∧ lo ≤ r ∧ r ≤ hi := by
  obtain ⟨r, s', h2, h3, h4⟩ := below_ok s (hi - lo + 1) (by omega) (by omega)
  refine ⟨lo + r, s', ?_, by omega, by omega⟩
  unfold swarfkit_Feed_Between.f
  rw [wrap64_id (n := hi - lo) (by omega) (by omega), wrap64_id (by omega) (by omega), h2]
  simp only [Option.bind_some]
  rw [wrap64_id (by omega) (by omega)]
theorem either_ok (s : Int) (l : List Int) (h0 : l ≠ []) (h : l.length ≤ 1000) : ∃ r s', swarfkit_Feed_Either.f s l = some (r, s') ∧ r ∈ l := by
  have hl : 0 < l.length := List.length_pos_iff.2 h0
  obtain ⟨r, s', h2, h3, h4⟩ := below_ok s l.length (by omega) (by omega)
  refine ⟨rd l r, s', ?_, ?_⟩
  · unfold swarfkit_Feed_Either.f
    rw [if_neg (by omega), h2]
    simp only [Option.bind_some]
    rw [if_pos h3, if_pos h4]
  · obtain ⟨k, rfl⟩ : ∃ k : Nat, r = k := ⟨r.toNat, by omega⟩
    have hk : k < l.length := by omega
    have e : rd l (k : Int) = l.getD k 0 := by simp [rd]
    rw [e]
    exact getD_mem _ _ _ hk
theorem mn_cases (a b : Int) : (mn a b = a ∧ a ≤ b) ∨ (mn a b = b ∧ b ≤ a) := by
  unfold mn
  by_cases h : b < a
  · rw [if_pos h]; exact .inr ⟨rfl, by omega⟩
  · rw [if_neg h]; exact .inl ⟨rfl, by omega⟩
theorem range_ok (s lo hi : Int) (h : lo ≤ hi) (h0 : 0 ≤ lo) (h1 : hi ≤ 1000000) : ∃ a b s', swarfkit_Feed_Range.f s lo hi = some (a, b, s') ∧ lo ≤ a ∧ a ≤ b ∧ b ≤ hi := by
  obtain ⟨x, s1, e1, x1, x2⟩ := between_ok s lo hi h (by omega) h1
  obtain ⟨d, s2, e2, d1, d2⟩ := below_ok s1 4 (by decide) (by decide)
  obtain ⟨y, s3, e3, y1, y2⟩ := between_ok s2 x hi x2 (by omega) h1
  obtain ⟨u, hu⟩ : ∃ u, u = mn hi (wrap64 (x + d)) := ⟨_, rfl⟩
  have hw : wrap64 (x + d) = x + d := wrap64_id (by omega) (by omega)
  have hub : x ≤ u ∧ u ≤ hi := by
    rw [hu, hw]
    rcases mn_cases hi (x + d) with ⟨e, h⟩ | ⟨e, h⟩ <;> omega
  obtain ⟨z, s4, e4, hz⟩ := either_ok s3 [x, u, y] (by simp) (show 3 ≤ 1000 by decide)
  rw [hu] at e4
  refine ⟨x, z, s4, ?_, x1, ?_⟩
  · unfold swarfkit_Feed_Range.f
    refine Option.bind_eq_some_iff.2 ⟨_, e1, ?_⟩
    refine Option.bind_eq_some_iff.2 ⟨_, e2, ?_⟩
    refine Option.bind_eq_some_iff.2 ⟨_, e3, ?_⟩
    exact Option.bind_eq_some_iff.2 ⟨_, e4, rfl⟩
  · rcases List.mem_cons.1 hz with e | hz
    · omega
    rcases List.mem_cons.1 hz with e | hz
    · omega
    rcases List.mem_cons.1 hz with e | hz
    · omega
    · cases hz
structure LevsOK (T fr : Int) (l : List S62) : Prop where
  bd : ∀ i, i < l.length → 0 ≤ (l.getD i z62).f0 ∧ (l.getD i z62).f0 < fr ∧ 0 ≤ (l.getD i z62).f1.f0 ∧ (l.getD i z62).f1.f0 ≤ (l.getD i z62).f1.f1 ∧ (l.getD i z62).f1.f1 ≤ 12 + 2 * T
  up : ∀ i, i + 1 < l.length → (l.getD i z62).f0 < (l.getD (i + 1) z62).f0
  zero : 0 < l.length → (l.getD 0 z62).f0 = 0
  first : l.length = 0 → fr = 0
  lim : 0 ≤ fr ∧ fr ≤ 9 * l.length
theorem LevsOK.nil (T : Int) : LevsOK T 0 [] := ⟨fun i h => by simp at h, fun i h => by simp at h, fun h => by simp at h, fun _ => rfl, by simp⟩
theorem LevsOK.snoc {T fr : Int} {l : List S62} (h : LevsOK T fr l) {a b st : Int} (ha : 0 ≤ a) (hab : a ≤ b) (hb : b ≤ 12 + 2 * T) (h1 : 1 ≤ st) (h9 : st ≤ 9) : LevsOK T (fr + st) (l ++ [⟨fr, ⟨a, b⟩⟩]) := by
  have hl := h.lim
  refine ⟨fun i hi => ?_, fun i hi => ?_, fun _ => ?_, fun hh => by simp at hh, ?_⟩
  · rw [List.length_append, List.length_singleton] at hi
    by_cases e : i = l.length
    · subst e; rw [getD_snoc_eq]; exact ⟨hl.1, by show fr < fr + st; omega, ha, hab, hb⟩
    · rw [getD_snoc_lt _ _ _ (by omega)]
      obtain ⟨a1, a2, a3⟩ := h.bd i (by omega)
      exact ⟨a1, by omega, a3⟩
  · rw [List.length_append, List.length_singleton] at hi
    rw [getD_snoc_lt _ _ _ (by omega)]
    by_cases e : i + 1 = l.length
    · rw [e, getD_snoc_eq]; exact (h.bd i (by omega)).2.1
    · rw [getD_snoc_lt _ _ _ (by omega)]; exact h.up i (by omega)
  · by_cases e : l.length = 0
    · have e2 := getD_snoc_eq l (⟨fr, ⟨a, b⟩⟩ : S62) z62
      rw [e] at e2
      rw [e2]
      exact h.first e
    · rw [getD_snoc_lt _ _ _ (by omega)]; exact h.zero (by omega)
  · rw [List.length_append, List.length_singleton]; omega
def SillV (T : Int) (s : S59) : Prop := 0 ≤ s.f0.f0 ∧ s.f0.f0 ≤ s.f0.f1 ∧ s.f0.f1 ≤ 12 ∧ 1 ≤ s.f1.length ∧ s.f1.length ≤ 4 ∧ ∃ fr, LevsOK T fr s.f1
def HoldV (T : Int) (h : S85) : Prop := 0 ≤ h.f0 ∧ h.f0 ≤ 3 * T ∧ 0 ≤ h.f1 ∧ h.f1 < 1500 ∧ 0 ≤ h.f2 ∧ h.f2 < 1500
def LotV (T : Int) (c : S79) : Prop := 0 ≤ c.f0.f0 ∧ c.f0.f0 ≤ c.f0.f1 ∧ c.f0.f1 ≤ T ∧ 0 ≤ c.f1 ∧ c.f1 < 30
structure VoyOK (H S L : Nat) (T : Int) (light under trim : Int) (holds : List S85) (leaves : Int) (sills : List S59) (lots : List S79) : Prop where
  light : 0 ≤ light ∧ light < 9
  under : 0 ≤ under ∧ under < 4
  trim : 0 ≤ trim ∧ trim ≤ 40
  leaves : 0 ≤ leaves ∧ leaves < 9
  hn : 1 ≤ holds.length ∧ holds.length ≤ H
  ho : ∀ h, h ∈ holds → HoldV T h
  sn : sills.length ≤ S
  si : ∀ s, s ∈ sills → SillV T s
  ln : lots.length ≤ L
  lo : ∀ c, c ∈ lots → LotV T c
theorem mem_snoc {α : Type} {P : α → Prop} {l : List α} {x : α} (h : ∀ y, y ∈ l → P y) (hx : P x) : ∀ y, y ∈ l ++ [x] → P y := by
  intro y hy
  rcases List.mem_append.1 hy with hy | hy
  · exact h y hy
  · rw [List.mem_singleton.1 hy]; exact hx
abbrev VoyT := Int × Int × Int × (List (S85)) × Int × (List (S59)) × (List (S79)) × Int
theorem voy_l3 (T L U R V : Int) (holds : List S85) (sills : List S59) (hT : 0 ≤ T) (hT2 : T ≤ 1000) (P : VoyT → Prop) (M : Nat) (hM : M ≤ 1000)
    (hP : ∀ lots s, (∀ c, c ∈ lots → LotV T c) → lots.length = M → P (L, U, R, holds, V, sills, lots, s)) :
    ∀ (d : Nat) (s : Int) (lots : List S79), (∀ c, c ∈ lots → LotV T c) → lots.length + d = M → Res (fun k => swarfkit_VoyageOf.l3 k T (d : Int) s L U R holds V sills lots) P := by
  intro d
  induction d with
  | zero =>
    intro s lots hl hm
    refine Res.succ ?_
    simp (disch := omega) only [swarfkit_VoyageOf.l3, if_neg]
    exact Res.now (hP lots s hl (by omega))
  | succ d ih =>
    intro s lots hl hm
    refine Res.succ ?_
    simp (disch := omega) only [swarfkit_VoyageOf.l3, if_pos]
    obtain ⟨a, b, s1, e1, a1, a2, a3⟩ := range_ok s 0 T (by omega) (by omega) (by omega)
    obtain ⟨c, s2, e2, c1, c2⟩ := below_ok s1 30 (by decide) (by decide)
    refine Res.take e1 (Res.take e2 ?_)
    rw [wrapP (by omega) (by omega)]
    exact ih s2 _ (mem_snoc hl ⟨a1, a2, a3, c1, c2⟩) (by simp; omega)
theorem voy_l2 (T L U R V : Int) (H : Nat) (x3 : Int) (holds : List S85) (sills : List S59) (hT : 0 ≤ T) (hT2 : T ≤ 1000) (hs : sills.length ≤ 1000) (a b x13 : Int) (P : VoyT → Prop) (N : Nat) (hN : N ≤ 4)
    (hP : ∀ lv s fr, LevsOK T fr lv → lv.length = N → Res (fun k => swarfkit_VoyageOf.l1 k x3 T (wrap64 (x13 - 1)) s L U R holds V (sills ++ [⟨⟨a, b⟩, lv⟩])) P) :
    ∀ (d : Nat) (fr s : Int) (lv : List S62), LevsOK T fr lv → lv.length + d = N → Res (fun k => swarfkit_VoyageOf.l2 k x3 T x13 fr (d : Int) s L U R holds V sills a b lv) P := by
  intro d
  induction d with
  | zero =>
    intro fr s lv hl hm
    refine Res.succ ?_
    simp (disch := omega) only [swarfkit_VoyageOf.l2, if_neg, if_pos]
    exact hP lv s fr hl (by omega)
  | succ d ih =>
    intro fr s lv hl hm
    refine Res.succ ?_
    have hlim := hl.lim
    obtain ⟨c, s1, e1, c1, c2⟩ := below_ok s 12 (by decide) (by decide)
    obtain ⟨p, q, s2, e2, p1, p2, p3⟩ := range_ok s1 c (12 + 2 * T) (by omega) (by omega) (by omega)
    obtain ⟨st, s3, e3, t1, t2⟩ := between_ok s2 1 9 (by decide) (by decide) (by decide)
    have hw : wrap64 (12 + wrap64 (2 * T)) = 12 + 2 * T := by rw [wrap64_id (n := 2 * T) (by omega) (by omega)]; exact wrap64_id (by omega) (by omega)
    have hw2 : wrap64 (fr + st) = fr + st := wrap64_id (by omega) (by omega)
    simp (disch := omega) only [swarfkit_VoyageOf.l2, if_pos]
    refine Res.take e1 ?_
    dsimp only
    rw [hw]
    refine Res.take e2 (Res.take e3 ?_)
    dsimp only
    rw [wrapP (by omega) (by omega), hw2]
    exact ih (fr + st) s3 _ (hl.snoc (by omega) p2 p3 t1 t2) (by simp; omega)
theorem voy_l1 (T L U R V : Int) (holds : List S85) (x3 : Nat) (hx3 : x3 ≤ 100) (hT : 0 ≤ T) (hT2 : T ≤ 1000) (P : VoyT → Prop) (M : Nat) (hM : M ≤ 1000)
    (hP : ∀ sills lots s, (∀ c, c ∈ sills → SillV T c) → sills.length = M → (∀ c, c ∈ lots → LotV T c) → lots.length ≤ x3 → P (L, U, R, holds, V, sills, lots, s)) :
    ∀ (d : Nat) (s : Int) (sills : List S59), (∀ c, c ∈ sills → SillV T c) → sills.length + d = M → Res (fun k => swarfkit_VoyageOf.l1 k x3 T (d : Int) s L U R holds V sills) P := by
  intro d
  induction d with
  | zero =>
    intro s sills hs hm
    refine Res.succ ?_
    obtain ⟨r, s1, e1, r1, r2⟩ := below_ok s ((x3 : Int) + 1) (by omega) (by omega)
    simp (disch := omega) only [swarfkit_VoyageOf.l1, if_neg]
    rw [wrapS (by omega), show ((x3 + 1 : Nat) : Int) = (x3 : Int) + 1 by omega]
    refine Res.take e1 ?_
    obtain ⟨n, rfl⟩ := Int.eq_ofNat_of_zero_le r1
    exact voy_l3 T L U R V holds sills hT hT2 P n (by omega) (fun lots s2 hl hn => hP sills lots s2 hs (by omega) hl (by omega)) n s1 [] (fun _ h => by cases h) (by simp)
  | succ d ih =>
    intro s sills hs hm
    refine Res.succ ?_
    obtain ⟨c, s1, e1, hc⟩ := either_ok s [3, 12] (by simp) (show 2 ≤ 1000 by decide)
    have hcb : 3 ≤ c ∧ c ≤ 12 := by
      rcases List.mem_cons.1 hc with rfl | hc
      · omega
      · rw [List.mem_singleton.1 hc]; omega
    obtain ⟨a, b, s2, e2, a1, a2, a3⟩ := range_ok s1 0 c (by omega) (by omega) (by omega)
    obtain ⟨n, s3, e3, n1, n2⟩ := between_ok s2 1 4 (by decide) (by decide) (by decide)
    simp (disch := omega) only [swarfkit_VoyageOf.l1, if_pos]
    refine Res.take e1 (Res.take e2 (Res.take e3 ?_))
    dsimp only
    obtain ⟨m, rfl⟩ := Int.eq_ofNat_of_zero_le (show 0 ≤ n by omega)
    refine voy_l2 T L U R V 0 x3 holds sills hT hT2 (by omega) a b _ P m (by omega) (fun lv s4 fr hl hn => ?_) m 0 s3 [] (LevsOK.nil T) (by simp)
    rw [wrapP (by omega) (by omega)]
    exact ih s4 _ (mem_snoc hs ⟨a1, a2, by show b ≤ 12; omega, by show 1 ≤ lv.length; omega, by show lv.length ≤ 4; omega, fr, hl⟩) (by simp; omega)
theorem voy_l0 (T L U R V : Int) (x2 x3 : Nat) (hx2 : x2 ≤ 100) (hx3 : x3 ≤ 100) (hT : 1 ≤ T) (hT2 : T ≤ 1000) (P : VoyT → Prop) (M : Nat) (hM : M ≤ 1000)
    (hP : ∀ holds sills lots s, (∀ h, h ∈ holds → HoldV T h) → holds.length = M → (∀ c, c ∈ sills → SillV T c) → sills.length ≤ x2 → (∀ c, c ∈ lots → LotV T c) → lots.length ≤ x3 → P (L, U, R, holds, V, sills, lots, s)) :
    ∀ (d : Nat) (s : Int) (holds : List S85), (∀ h, h ∈ holds → HoldV T h) → holds.length + d = M → Res (fun k => swarfkit_VoyageOf.l0 k x2 x3 T (d : Int) s L U R holds V) P := by
  intro d
  induction d with
  | zero =>
    intro s holds hh hm
    refine Res.succ ?_
    obtain ⟨r, s1, e1, r1, r2⟩ := below_ok s ((x2 : Int) + 1) (by omega) (by omega)
    simp (disch := omega) only [swarfkit_VoyageOf.l0, if_neg]
    rw [wrapS (by omega), show ((x2 + 1 : Nat) : Int) = (x2 : Int) + 1 by omega]
    refine Res.take e1 ?_
    obtain ⟨n, rfl⟩ := Int.eq_ofNat_of_zero_le r1
    exact voy_l1 T L U R V holds x3 hx3 (by omega) hT2 P n (by omega) (fun sills lots s2 hs hn hl hln => hP holds sills lots s2 hh (by omega) hs (by omega) hl hln) n s1 [] (fun _ h => by cases h) (by simp)
  | succ d ih =>
    intro s holds hh hm
    refine Res.succ ?_
    have hw : wrap64 (3 * T) = 3 * T := wrap64_id (by omega) (by omega)
    obtain ⟨c, s1, e1, c1, c2⟩ := below_ok s (3 * T) (by omega) (by omega)
    obtain ⟨r, s2, e2, hr⟩ := either_ok s1 [T, 3 * T, c] (by simp) (show 3 ≤ 1000 by decide)
    have hrb : 0 ≤ r ∧ r ≤ 3 * T := by
      rcases List.mem_cons.1 hr with rfl | hr
      · omega
      rcases List.mem_cons.1 hr with rfl | hr
      · omega
      · rw [List.mem_singleton.1 hr]; omega
    obtain ⟨p, s3, e3, p1, p2⟩ := below_ok s2 1500 (by decide) (by decide)
    obtain ⟨q, s4, e4, q1, q2⟩ := below_ok s3 1500 (by decide) (by decide)
    simp (disch := omega) only [swarfkit_VoyageOf.l0, if_pos, hw]
    refine Res.take e1 (Res.take e2 (Res.take e3 (Res.take e4 ?_)))
    dsimp only
    rw [wrapP (by omega) (by omega)]
    exact ih s4 _ (mem_snoc hh ⟨hrb.1, hrb.2, p1, p2, q1, q2⟩) (by simp; omega)
theorem voyageOf_res (s : Int) (H S L : Nat) (T : Int) (hH : 1 ≤ H) (hH2 : H ≤ 100) (hS : S ≤ 100) (hL : L ≤ 100) (hT : 1 ≤ T) (hT2 : T ≤ 1000) :
    Res (fun k => swarfkit_VoyageOf.f k s H S L T) (fun r => VoyOK H S L T r.1 r.2.1 r.2.2.1 r.2.2.2.1 r.2.2.2.2.1 r.2.2.2.2.2.1 r.2.2.2.2.2.2.1) := by
  obtain ⟨a, s1, e1, a1, a2⟩ := below_ok s 9 (by decide) (by decide)
  obtain ⟨b, s2, e2, b1, b2⟩ := below_ok s1 4 (by decide) (by decide)
  obtain ⟨c, s3, e3, c1, c2⟩ := below_ok s2 9 (by decide) (by decide)
  obtain ⟨d, s4, e4, hd⟩ := either_ok s3 [c, 40] (by simp) (show 2 ≤ 1000 by decide)
  have hdb : 0 ≤ d ∧ d ≤ 40 := by
    rcases List.mem_cons.1 hd with rfl | hd
    · omega
    · rw [List.mem_singleton.1 hd]; omega
  obtain ⟨e, s5, e5, l1, l2⟩ := below_ok s4 9 (by decide) (by decide)
  obtain ⟨n, s6, e6, n1, n2⟩ := between_ok s5 1 (H : Int) (by omega) (by decide) (by omega)
  unfold swarfkit_VoyageOf.f
  refine Res.take e1 (Res.take e2 (Res.take e3 (Res.take e4 (Res.take e5 (Res.take e6 ?_)))))
  dsimp only
  obtain ⟨m, rfl⟩ := Int.eq_ofNat_of_zero_le (show 0 ≤ n by omega)
  exact voy_l0 T a b d e S L hS hL hT hT2 _ m (by omega) (fun holds sills lots s7 h1 h2 h3 h4 h5 h6 => ⟨⟨a1, a2⟩, ⟨b1, b2⟩, hdb, ⟨l1, l2⟩, ⟨by show 1 ≤ holds.length; omega, by show holds.length ≤ H; omega⟩, h1, h4, h3, h6, h5⟩) m s6 [] (fun _ h => by cases h) (by simp)
theorem rd62 (l : List S62) (k : Nat) : rd_T62 l (k : Int) = l.getD k z62 := by simp [rd_T62]
theorem rd59 (l : List S59) (k : Nat) : rd_T59 l (k : Int) = l.getD k z59 := by simp [rd_T59]
theorem rd85 (l : List S85) (k : Nat) : rd_T85 l (k : Int) = l.getD k z85 := by simp [rd_T85]
theorem rd79 (l : List S79) (k : Nat) : rd_T79 l (k : Int) = l.getD k z79 := by simp [rd_T79]
theorem rdI (l : List Int) (k : Nat) : rd l (k : Int) = l.getD k 0 := by simp [rd]
def used (lots : List S79) (h : Int) : Nat → List Int → Int
  | _, [] => 0
  | i, a :: t => (if a = h then (lots.getD i z79).f0.f1 else 0) + used lots h (i + 1) t
theorem used_snoc (lots : List S79) (h a : Int) : ∀ (l : List Int) (i : Nat), used lots h i (l ++ [a]) = used lots h i l + if a = h then (lots.getD (i + l.length) z79).f0.f1 else 0
  | [], i => by simp [used]
  | x :: l, i => by
    simp only [List.cons_append, used, used_snoc lots h a l (i + 1), List.length_cons]
    rw [show i + 1 + l.length = i + (l.length + 1) by omega]
    omega
structure StowOK (holds : List S85) (lots : List S79) (s : List Int) : Prop where
  len : s.length = lots.length
  rg : ∀ y, y ∈ s → -1 ≤ y ∧ y < (holds.length : Int)
  room : ∀ h : Nat, h < holds.length → used lots h 0 s ≤ (holds.getD h z85).f0
end Go.Proofs.Ytodmemndaaiolaa.PC7
namespace Go.Proofs.Ytodmemndaaiolaa.PC7
open Go.RowKit Go.Proofs.YtodmemndaaiolaaW.PrintWords Go.Proofs.YtodmemndaaiolaaW.PrintLast Go.Proofs.YtodmemndaaiolaaW.PrintMore
attribute [local go_sem] max2_int min2_int max_two min_two max_three min_three max_four min_four
set_option linter.unusedVariables false
set_option linter.unusedSimpArgs false
def swarfref07_between.f (a0 : Int) (a1 : Int) (a2 : Int) : Option (Bool) := if a0 ≥ a1 then (some (decide (a0 ≤ a2))) else (some false)
set_option maxHeartbeats 8000000 in
set_option maxRecDepth 100000 in
theorem swarfref07_between.calls (a0 : Int) (a1 : Int) (a2 : Int) (r : Bool) (w : World) (h : swarfref07_between.f a0 a1 a2 = some r) :
  Calls Try.prog 61 #[.int .i64 a0, .int .i64 a1, .int .i64 a2] w fun e w' => e = .returned (.bool r) ∧ Drawn0 w w' := by
 have H : (if a0 ≥ a1 then (some (decide (a0 ≤ a2))) else (some false)) = some r := h
 clear h
 by_cases c4 : a0 ≥ a1
 ·
  rw [if_pos c4] at H; have c4b0 : decide (a1 ≤ a0) = true := decide_eq_true c4; clear c4; obtain rfl := Option.some.inj H; go_enter Try.func61, Try.ntmps61; go_wp2; go_ret; exact ⟨by first | rfl | (simp; done) | (simp [*]; done), by repeat (first | exact Drawn0.refl _ | apply Drawn0.step)⟩
 ·
  rw [if_neg c4] at H; have c4b0 : decide (a1 ≤ a0) = false := decide_eq_false c4; clear c4; obtain rfl := Option.some.inj H; go_enter Try.func61, Try.ntmps61; go_wp2; go_ret; exact ⟨by first | rfl | (simp; done) | (simp [*]; done), by repeat (first | exact Drawn0.refl _ | apply Drawn0.step)⟩
mutual
def swarfref07_checkBarge.j0 : Nat → Bool → Int → Int → Int → List (S85) → Int → List (S59) → List (S79) → Option (Int)
 | 0, _, _, _, _, _, _, _, _ => none
 | k + 1, x20, x396000, x396001, x396002, x396003, x396004, x396005, x396006 => if x20 = true then (some 1) else (if (x396003.length : Int) = 0 then (some 7) else (if (x396003.length : Int) > 3 then (some 6) else (swarfref07_checkBarge.l0 k 0 x396000 x396001 x396002 x396003 x396004 x396005 x396006)))
def swarfref07_checkBarge.l0 : Nat → Int → Int → Int → Int → List (S85) → Int → List (S59) → List (S79) → Option (Int)
 | 0, _, _, _, _, _, _, _, _ => none
 | k + 1, x3, x396000, x396001, x396002, x396003, x396004, x396005, x396006 => if x3 < (x396003.length : Int) then (if 0 ≤ x3 then ((swarfref07_between.f ((rd_T85 x396003 x3).f0) 0 5000).bind fun t402 => (if t402 = true then ((swarfref07_between.f ((rd_T85 x396003 x3).f1) 0 10000).bind fun t403 => (if t403 = true then ((swarfref07_between.f ((rd_T85 x396003 x3).f2) 0 10000).bind fun t404 => (if t404 = true then (swarfref07_checkBarge.l0 k (wrap64 (x3 + 1)) x396000 x396001 x396002 x396003 x396004 x396005 x396006) else (some 1))) else (some 1))) else (some 1))) else (none)) else ((swarfref07_between.f x396004 0 2880).bind fun t399 => (if t399 = true then (some 0) else (some 1)))
end
def swarfref07_checkBarge.f (k : Nat) (a0_0 : Int) (a0_1 : Int) (a0_2 : Int) (l0_3 : List (S85)) (a0_4 : Int) (l0_5 : List (S59)) (l0_6 : List (S79)) : Option (Int) := (swarfref07_between.f a0_0 0 5000).bind fun t396 => (if t396 = true then ((swarfref07_between.f a0_1 0 5000).bind fun t397 => (if t397 = true then ((swarfref07_between.f a0_2 0 5000).bind fun t398 => (swarfref07_checkBarge.j0 k (!t398) a0_0 a0_1 a0_2 l0_3 a0_4 l0_5 l0_6)) else (swarfref07_checkBarge.j0 k true a0_0 a0_1 a0_2 l0_3 a0_4 l0_5 l0_6))) else (swarfref07_checkBarge.j0 k true a0_0 a0_1 a0_2 l0_3 a0_4 l0_5 l0_6))
set_option maxHeartbeats 8000000 in
set_option maxRecDepth 100000 in
theorem swarfref07_checkBarge.calls (k : Nat) (a0_0 : Int) (a0_1 : Int) (a0_2 : Int) (A0_3 : Option Addr) (c0_3 : Nat) (l0_3 : List (S85)) (a0_4 : Int) (A0_5 : Option Addr) (c0_5 : Nat) (l0_5 : List (S59)) (A0_6 : Option Addr) (c0_6 : Nat) (l0_6 : List (S79)) (r : Int) (w : World) (hr0_3 : Kd.C k85 w A0_3 l0_3.length l0_3) (hc0_3 : l0_3.length ≤ c0_3) (hr0_5 : Kd.C k59 w A0_5 l0_5.length l0_5) (hc0_5 : l0_5.length ≤ c0_5) (hr0_6 : Kd.C k79 w A0_6 l0_6.length l0_6) (hc0_6 : l0_6.length ≤ c0_6) (h : swarfref07_checkBarge.f k a0_0 a0_1 a0_2 l0_3 a0_4 l0_5 l0_6 = some r) :
  Calls Try.prog 58 #[.agg #[.int .i64 a0_0, .int .i64 a0_1, .int .i64 a0_2, .slice A0_3 l0_3.length c0_3, .int .i64 a0_4, .slice A0_5 l0_5.length c0_5, .slice A0_6 l0_6.length c0_6]] w fun e w' => e = .returned (.int .i64 r) ∧ Below w.heap.size w w' := by
 have hu26 := Try.underlying26
 have hu85 := Try.underlying85
 have HR0_3 := Aside0.mk hr0_3
 have HC0_3 := Aside0.mk hc0_3
 clear hr0_3 hc0_3
 have HR0_5 := Aside0.mk hr0_5
 have HC0_5 := Aside0.mk hc0_5
 clear hr0_5 hc0_5
 have HR0_6 := Aside0.mk hr0_6
 have HC0_6 := Aside0.mk hc0_6
 clear hr0_6 hc0_6
 have HB := Aside0.mk (Below.refl w.heap.size w)
 have H : ((swarfref07_between.f a0_0 0 5000).bind fun t396 => (if t396 = true then ((swarfref07_between.f a0_1 0 5000).bind fun t397 => (if t397 = true then ((swarfref07_between.f a0_2 0 5000).bind fun t398 => (swarfref07_checkBarge.j0 k (!t398) a0_0 a0_1 a0_2 l0_3 a0_4 l0_5 l0_6)) else (swarfref07_checkBarge.j0 k true a0_0 a0_1 a0_2 l0_3 a0_4 l0_5 l0_6))) else (swarfref07_checkBarge.j0 k true a0_0 a0_1 a0_2 l0_3 a0_4 l0_5 l0_6))) = some r := h
 clear h
 have HC2 := Aside0.mk H
 clear H
 go_enter Try.func58, Try.ntmps58
 go_upto_region 1 with (first | (refine box_r (N := 1) rfl (cs := #[.int .i64 a0_0, .int .i64 a0_1, .int .i64 a0_2, .slice A0_3 l0_3.length c0_3, .int .i64 a0_4, .slice A0_5 l0_5.length c0_5, .slice A0_6 l0_6.length c0_6]) (t := 26) ?_; intro gb395 hg w3 hbox hb; have BK395 := Aside0.mk (hbox); have GW395 := gw_x hg HB; have GE395 := GW395; replace HB := Aside0.mk (below_step (below_x HB.out) hb); clear hb hbox hg))
 (try simp only [Act.put, put_x])
 go_cut [20] (fun v20 wc => ∃ (kq : Nat) (x20_1 : Bool), v20 = .bool x20_1 ∧ Aside0 (swarfref07_checkBarge.j0 kq x20_1 a0_0 a0_1 a0_2 l0_3 a0_4 l0_5 l0_6 = some r) ∧ Aside0 (kq ≤ k) ∧ Aside0 (wc.heap[gb395]? = some (.cells #[.int .i64 a0_0, .int .i64 a0_1, .int .i64 a0_2, (.slice A0_3 l0_3.length c0_3), .int .i64 a0_4, (.slice A0_5 l0_5.length c0_5), (.slice A0_6 l0_6.length c0_6)] 26 (0, 0))) ∧ Aside0 (Below w.heap.size w wc))
 case first =>
  have H := HC2.out; clear HC2; replace H := Option.bind_eq_some_iff.mp H; obtain ⟨t396, A40, H⟩ := H
  try dsimp only at H
  have A4 := Aside0.mk A40; clear A40; by_cases c5 : t396 = true
  ·
   subst c5; (have H1 : ((swarfref07_between.f a0_1 0 5000).bind fun t397 => (if t397 = true then ((swarfref07_between.f a0_2 0 5000).bind fun t398 => (swarfref07_checkBarge.j0 k (!t398) a0_0 a0_1 a0_2 l0_3 a0_4 l0_5 l0_6)) else (swarfref07_checkBarge.j0 k true a0_0 a0_1 a0_2 l0_3 a0_4 l0_5 l0_6))) = some r := by rw [if_pos rfl] at H; exact H); clear H; have H := H1; clear H1; replace H := Option.bind_eq_some_iff.mp H; obtain ⟨t397, A60, H⟩ := H
   try dsimp only at H
   have A6 := Aside0.mk A60; clear A60; by_cases c7 : t397 = true
   ·
    subst c7; (have H1 : ((swarfref07_between.f a0_2 0 5000).bind fun t398 => (swarfref07_checkBarge.j0 k (!t398) a0_0 a0_1 a0_2 l0_3 a0_4 l0_5 l0_6)) = some r := by rw [if_pos rfl] at H; exact H); clear H; have H := H1; clear H1; replace H := Option.bind_eq_some_iff.mp H; obtain ⟨t398, A80, H⟩ := H
    try dsimp only at H
    have A8 := Aside0.mk A80; clear A80; have H' := Aside0.mk H; clear H; obtain ⟨hfz9_0, _, _, _, _, _, _, _⟩ := cf7 BK395
    go_wp2_with (first | (refine goesG_x 61 rfl (some 7) Try.func61 #[.int .i64 a0_0, .int .i64 0, .int .i64 5000] ?_; (with_reducible refine (swarfref07_between.calls a0_0 0 5000 true _ A4.out).mono ?_); rintro e w' ⟨rfl, ⟨nd, rfl⟩⟩; refine ⟨_, rfl, ?_⟩) | (go_at_call 61; (with_reducible refine (swarfref07_between.calls a0_1 0 5000 true _ A6.out).mono ?_); rintro e w' ⟨rfl, ⟨nd, rfl⟩⟩) | (go_at_call 61; (with_reducible refine (swarfref07_between.calls a0_2 0 5000 t398 _ A8.out).mono ?_); rintro e w' ⟨rfl, ⟨nd, rfl⟩⟩))
    go_meet
    case rel => exact ⟨_, (!t398), (by first | rfl | (simp; done) | (simp [*]; done)), H', ⟨by first | omega | exact Nat.le_refl _⟩, ⟨blk_x BK395.out⟩, ⟨by exact below_y HB.out⟩⟩
   ·
    replace c7 := Bool.eq_false_iff.mpr c7; subst c7; replace H : (swarfref07_checkBarge.j0 k true a0_0 a0_1 a0_2 l0_3 a0_4 l0_5 l0_6) = some r := ifn_x H; have H' := Aside0.mk H; clear H; obtain ⟨hfz10_0, _, _, _, _, _, _, _⟩ := cf7 BK395
    go_wp2_with (first | (refine goesG_x 61 rfl (some 7) Try.func61 #[.int .i64 a0_0, .int .i64 0, .int .i64 5000] ?_; (with_reducible refine (swarfref07_between.calls a0_0 0 5000 true _ A4.out).mono ?_); rintro e w' ⟨rfl, ⟨nd, rfl⟩⟩; refine ⟨_, rfl, ?_⟩) | (go_at_call 61; (with_reducible refine (swarfref07_between.calls a0_1 0 5000 false _ A6.out).mono ?_); rintro e w' ⟨rfl, ⟨nd, rfl⟩⟩))
    go_meet
    case rel => exact ⟨_, (true), (by first | rfl | (simp; done) | (simp [*]; done)), H', ⟨by first | omega | exact Nat.le_refl _⟩, ⟨blk_x BK395.out⟩, ⟨by exact below_y HB.out⟩⟩
  ·
   replace c5 := Bool.eq_false_iff.mpr c5; subst c5; replace H : (swarfref07_checkBarge.j0 k true a0_0 a0_1 a0_2 l0_3 a0_4 l0_5 l0_6) = some r := ifn_x H; have H' := Aside0.mk H; clear H; obtain ⟨hfz11_0, _, _, _, _, _, _, _⟩ := cf7 BK395
   go_wp2_with (first | (refine goesG_x 61 rfl (some 7) Try.func61 #[.int .i64 a0_0, .int .i64 0, .int .i64 5000] ?_; (with_reducible refine (swarfref07_between.calls a0_0 0 5000 false _ A4.out).mono ?_); rintro e w' ⟨rfl, ⟨nd, rfl⟩⟩; refine ⟨_, rfl, ?_⟩))
   go_meet
   case rel => exact ⟨_, (true), (by first | rfl | (simp; done) | (simp [*]; done)), H', ⟨by first | omega | exact Nat.le_refl _⟩, ⟨blk_x BK395.out⟩, ⟨by exact below_y HB.out⟩⟩
 case rest =>
  clear HC2; obtain ⟨kq, x20_1, rfl, HA, HJ1, BK395, HB⟩ := hcut; cases kq with
  | zero => exact absurd HA.out (by simp [swarfref07_checkBarge.j0])
  | succ kj1 =>
   have H := HA.out; clear HA; simp only [swarfref07_checkBarge.j0] at H; by_cases c12 : x20_1 = true
   ·
    subst c12; (have H1 : (some 1) = some r := by rw [if_pos rfl] at H; exact H); clear H; have H := H1; clear H1; obtain rfl := Option.some.inj H; go_wp2; go_ret; exact rt_y HB
   ·
    replace c12 := Bool.eq_false_iff.mpr c12; subst c12; replace H : (if (l0_3.length : Int) = 0 then (some 7) else (if (l0_3.length : Int) > 3 then (some 6) else (swarfref07_checkBarge.l0 kj1 0 a0_0 a0_1 a0_2 l0_3 a0_4 l0_5 l0_6))) = some r := ifn_x H; by_cases c13 : (l0_3.length : Int) = 0
    ·
     rw [if_pos c13] at H; have c13b0 : ((l0_3.length : Int) == 0) = true := beq_iff_eq.mpr c13; have c13b1 : ((l0_3.length : Int) != 0) = false := bne_eq_false_iff_eq.mpr c13; clear c13; obtain rfl := Option.some.inj H; obtain ⟨hfz14_0, _, _, _, _, _, _, _⟩ := cf7 BK395; go_wp2; go_ret; exact rt_y HB
    ·
     rw [if_neg c13] at H; have c13b0 : ((l0_3.length : Int) == 0) = false := beq_eq_false_iff_ne.mpr c13; have c13b1 : ((l0_3.length : Int) != 0) = true := bne_iff_ne.mpr c13; (have c13b2 : ¬ (l0_3 = []) := fun h_ => c13 (by rw [h_]; rfl)); by_cases c15 : (l0_3.length : Int) > 3
     ·
      rw [if_pos c15] at H; have c15b0 : decide (3 < (l0_3.length : Int)) = true := decide_eq_true c15; have c15b1 : decide (3 < l0_3.length) = true := decide_eq_true (by omega); clear c15; obtain rfl := Option.some.inj H; obtain ⟨hfz16_0, _, _, _, _, _, _, _⟩ := cf7 BK395; go_wp2; go_ret; exact rt_y HB
     ·
      rw [if_neg c15] at H; have c15b0 : decide (3 < (l0_3.length : Int)) = false := decide_eq_false c15; have c15b1 : decide (3 < l0_3.length) = false := decide_eq_false (by omega); clear c15; have H' := Aside0.mk H; clear H; obtain ⟨hfz17_0, _, _, _, _, _, _, _⟩ := cf7 BK395; go_wp2
      go_loopg [3] kj1 (fun kq v3 w' => ∃ (x3_2 : Int), v3 = .int .i64 x3_2 ∧ Aside0 (swarfref07_checkBarge.l0 kq x3_2 a0_0 a0_1 a0_2 l0_3 a0_4 l0_5 l0_6 = some r) ∧ Aside0 (kq ≤ kj1) ∧ Aside0 (w'.heap[gb395]? = some (.cells #[.int .i64 a0_0, .int .i64 a0_1, .int .i64 a0_2, (.slice A0_3 l0_3.length c0_3), .int .i64 a0_4, (.slice A0_5 l0_5.length c0_5), (.slice A0_6 l0_6.length c0_6)] 26 (0, 0))) ∧ Aside0 (Below w.heap.size w w'))
      case atStart => exact ⟨(0), (by first | rfl | (simp; done) | (simp [*]; done)), H', ⟨Nat.le_refl _⟩, ⟨blk_x BK395.out⟩, ⟨by exact below_y HB.out⟩⟩
      case round =>
       clear H'; obtain ⟨x3_2, rfl, HA, HK2, BK395, HB⟩ := hrel; cases gk with
       | zero => exact absurd HA.out (by simp [swarfref07_checkBarge.l0])
       | succ k2 =>
        have H := HA.out; clear HA; simp only [swarfref07_checkBarge.l0] at H; by_cases c18 : x3_2 < (l0_3.length : Int)
        ·
         rw [if_pos c18] at H; have c18b0 : decide (x3_2 < (l0_3.length : Int)) = true := decide_eq_true c18; clear c18; by_cases c19 : 0 ≤ x3_2
         ·
          rw [if_pos c19] at H; have c19b0 : decide (0 ≤ x3_2) = true := decide_eq_true c19; clear c19; replace H := Option.bind_eq_some_iff.mp H; obtain ⟨t402, A200, H⟩ := H
          try dsimp only at H
          have A20 := Aside0.mk A200; clear A200; by_cases c21 : t402 = true
          ·
           subst c21; (have H1 : ((swarfref07_between.f ((rd_T85 l0_3 x3_2).f1) 0 10000).bind fun t403 => (if t403 = true then ((swarfref07_between.f ((rd_T85 l0_3 x3_2).f2) 0 10000).bind fun t404 => (if t404 = true then (swarfref07_checkBarge.l0 k2 (wrap64 (x3_2 + 1)) a0_0 a0_1 a0_2 l0_3 a0_4 l0_5 l0_6) else (some 1))) else (some 1))) = some r := by rw [if_pos rfl] at H; exact H); clear H; have H := H1; clear H1; replace H := Option.bind_eq_some_iff.mp H; obtain ⟨t403, A220, H⟩ := H
           try dsimp only at H
           have A22 := Aside0.mk A220; clear A220; by_cases c23 : t403 = true
           ·
            subst c23; (have H1 : ((swarfref07_between.f ((rd_T85 l0_3 x3_2).f2) 0 10000).bind fun t404 => (if t404 = true then (swarfref07_checkBarge.l0 k2 (wrap64 (x3_2 + 1)) a0_0 a0_1 a0_2 l0_3 a0_4 l0_5 l0_6) else (some 1))) = some r := by rw [if_pos rfl] at H; exact H); clear H; have H := H1; clear H1; replace H := Option.bind_eq_some_iff.mp H; obtain ⟨t404, A240, H⟩ := H
            try dsimp only at H
            have A24 := Aside0.mk A240; clear A240; by_cases c25 : t404 = true
            ·
             subst c25; (have H1 : (swarfref07_checkBarge.l0 k2 (wrap64 (x3_2 + 1)) a0_0 a0_1 a0_2 l0_3 a0_4 l0_5 l0_6) = some r := by rw [if_pos rfl] at H; exact H); clear H; have H := H1; clear H1; have H' := Aside0.mk H; clear H; obtain ⟨hfz26_0, _, _, _, _, _, _, _⟩ := cf7 BK395; have p400 : 0 ≤ (x3_2 : Int) := of_x; have q400 : x3_2 < (l0_3.length : Int) := of_x; obtain ⟨ad400, e400, hx400_0, hx400_1, hx400_2⟩ := at_T85 HR0_3.out x3_2 p400 q400; (cases e400); replace hx400_0 := cell_x HB hx400_0; replace hx400_1 := cell_x HB hx400_1; replace hx400_2 := cell_x HB hx400_2; replace p400 := eq_true p400; replace q400 := eq_true q400
             go_wp2_with (first | (refine box_r (N := 4) rfl (cs := #[.int .i64 0, .int .i64 0, .int .i64 0]) (t := 85) ?_; intro gb401 hg w27 hbox hb; have BK401 := Aside0.mk (hbox); have GW401 := gw_x hg HB; have GE401 := GW401; replace HB := bl_x HB hb; have NB395_401 := nb_x hg BK395; have NB401_395 := nb_y hg BK395; replace BK395 := bk_x BK395 hb; clear hb hbox hg; have hnb28 := NB401_395.out; have hnc28 := NB395_401.out; obtain ⟨hfz29_0, _, _, _⟩ := cf3 BK401) | (refine goesG_x 61 rfl (some 43) Try.func61 #[.int .i64 ((rd_T85 l0_3 x3_2).f0), .int .i64 0, .int .i64 5000] ?_; (with_reducible refine (swarfref07_between.calls ((rd_T85 l0_3 x3_2).f0) 0 5000 true _ A20.out).mono ?_); rintro e w' ⟨rfl, ⟨nd, rfl⟩⟩; refine ⟨_, rfl, ?_⟩) | (go_at_call 61; (with_reducible refine (swarfref07_between.calls ((rd_T85 l0_3 x3_2).f1) 0 10000 true _ A22.out).mono ?_); rintro e w' ⟨rfl, ⟨nd, rfl⟩⟩) | (go_at_call 61; (with_reducible refine (swarfref07_between.calls ((rd_T85 l0_3 x3_2).f2) 0 10000 true _ A24.out).mono ?_); rintro e w' ⟨rfl, ⟨nd, rfl⟩⟩))
             go_roundg k2
             case measure => have := HJ1.out; have := HK2.out; omega
             case rel => exact ⟨(wrap64 (x3_2 + 1)), (by first | rfl | (simp; done) | (simp [*]; done)), H', ⟨by have := HJ1.out; have := HK2.out; omega⟩, ⟨blk_w BK395.out⟩, ⟨by exact below_y HB.out⟩⟩
            ·
             replace c25 := Bool.eq_false_iff.mpr c25; subst c25; replace H : (some 1) = some r := ifn_x H; obtain rfl := Option.some.inj H; obtain ⟨hfz30_0, _, _, _, _, _, _, _⟩ := cf7 BK395; have p400 : 0 ≤ (x3_2 : Int) := of_x; have q400 : x3_2 < (l0_3.length : Int) := of_x; obtain ⟨ad400, e400, hx400_0, hx400_1, hx400_2⟩ := at_T85 HR0_3.out x3_2 p400 q400; (cases e400); replace hx400_0 := cell_x HB hx400_0; replace hx400_1 := cell_x HB hx400_1; replace hx400_2 := cell_x HB hx400_2; replace p400 := eq_true p400; replace q400 := eq_true q400
             go_wp2_with (first | (refine box_r (N := 4) rfl (cs := #[.int .i64 0, .int .i64 0, .int .i64 0]) (t := 85) ?_; intro gb401 hg w31 hbox hb; have BK401 := Aside0.mk (hbox); have GW401 := gw_x hg HB; have GE401 := GW401; replace HB := bl_x HB hb; have NB395_401 := nb_x hg BK395; have NB401_395 := nb_y hg BK395; replace BK395 := bk_x BK395 hb; clear hb hbox hg; have hnb32 := NB401_395.out; have hnc32 := NB395_401.out; obtain ⟨hfz33_0, _, _, _⟩ := cf3 BK401) | (refine goesG_x 61 rfl (some 43) Try.func61 #[.int .i64 ((rd_T85 l0_3 x3_2).f0), .int .i64 0, .int .i64 5000] ?_; (with_reducible refine (swarfref07_between.calls ((rd_T85 l0_3 x3_2).f0) 0 5000 true _ A20.out).mono ?_); rintro e w' ⟨rfl, ⟨nd, rfl⟩⟩; refine ⟨_, rfl, ?_⟩) | (go_at_call 61; (with_reducible refine (swarfref07_between.calls ((rd_T85 l0_3 x3_2).f1) 0 10000 true _ A22.out).mono ?_); rintro e w' ⟨rfl, ⟨nd, rfl⟩⟩) | (go_at_call 61; (with_reducible refine (swarfref07_between.calls ((rd_T85 l0_3 x3_2).f2) 0 10000 false _ A24.out).mono ?_); rintro e w' ⟨rfl, ⟨nd, rfl⟩⟩))
             go_ret; exact rt_y HB
           ·
            replace c23 := Bool.eq_false_iff.mpr c23; subst c23; replace H : (some 1) = some r := ifn_x H; obtain rfl := Option.some.inj H; obtain ⟨hfz34_0, _, _, _, _, _, _, _⟩ := cf7 BK395; have p400 : 0 ≤ (x3_2 : Int) := of_x; have q400 : x3_2 < (l0_3.length : Int) := of_x; obtain ⟨ad400, e400, hx400_0, hx400_1, hx400_2⟩ := at_T85 HR0_3.out x3_2 p400 q400; (cases e400); replace hx400_0 := cell_x HB hx400_0; replace hx400_1 := cell_x HB hx400_1; replace hx400_2 := cell_x HB hx400_2; replace p400 := eq_true p400; replace q400 := eq_true q400
            go_wp2_with (first | (refine box_r (N := 4) rfl (cs := #[.int .i64 0, .int .i64 0, .int .i64 0]) (t := 85) ?_; intro gb401 hg w35 hbox hb; have BK401 := Aside0.mk (hbox); have GW401 := gw_x hg HB; have GE401 := GW401; replace HB := bl_x HB hb; have NB395_401 := nb_x hg BK395; have NB401_395 := nb_y hg BK395; replace BK395 := bk_x BK395 hb; clear hb hbox hg; have hnb36 := NB401_395.out; have hnc36 := NB395_401.out; obtain ⟨hfz37_0, _, _, _⟩ := cf3 BK401) | (refine goesG_x 61 rfl (some 43) Try.func61 #[.int .i64 ((rd_T85 l0_3 x3_2).f0), .int .i64 0, .int .i64 5000] ?_; (with_reducible refine (swarfref07_between.calls ((rd_T85 l0_3 x3_2).f0) 0 5000 true _ A20.out).mono ?_); rintro e w' ⟨rfl, ⟨nd, rfl⟩⟩; refine ⟨_, rfl, ?_⟩) | (go_at_call 61; (with_reducible refine (swarfref07_between.calls ((rd_T85 l0_3 x3_2).f1) 0 10000 false _ A22.out).mono ?_); rintro e w' ⟨rfl, ⟨nd, rfl⟩⟩))
            go_ret; exact rt_y HB
          ·
           replace c21 := Bool.eq_false_iff.mpr c21; subst c21; replace H : (some 1) = some r := ifn_x H; obtain rfl := Option.some.inj H; obtain ⟨hfz38_0, _, _, _, _, _, _, _⟩ := cf7 BK395; have p400 : 0 ≤ (x3_2 : Int) := of_x; have q400 : x3_2 < (l0_3.length : Int) := of_x; obtain ⟨ad400, e400, hx400_0, hx400_1, hx400_2⟩ := at_T85 HR0_3.out x3_2 p400 q400; (cases e400); replace hx400_0 := cell_x HB hx400_0; replace hx400_1 := cell_x HB hx400_1; replace hx400_2 := cell_x HB hx400_2; replace p400 := eq_true p400; replace q400 := eq_true q400
           go_wp2_with (first | (refine box_r (N := 4) rfl (cs := #[.int .i64 0, .int .i64 0, .int .i64 0]) (t := 85) ?_; intro gb401 hg w39 hbox hb; have BK401 := Aside0.mk (hbox); have GW401 := gw_x hg HB; have GE401 := GW401; replace HB := bl_x HB hb; have NB395_401 := nb_x hg BK395; have NB401_395 := nb_y hg BK395; replace BK395 := bk_x BK395 hb; clear hb hbox hg; have hnb40 := NB401_395.out; have hnc40 := NB395_401.out; obtain ⟨hfz41_0, _, _, _⟩ := cf3 BK401) | (refine goesG_x 61 rfl (some 43) Try.func61 #[.int .i64 ((rd_T85 l0_3 x3_2).f0), .int .i64 0, .int .i64 5000] ?_; (with_reducible refine (swarfref07_between.calls ((rd_T85 l0_3 x3_2).f0) 0 5000 false _ A20.out).mono ?_); rintro e w' ⟨rfl, ⟨nd, rfl⟩⟩; refine ⟨_, rfl, ?_⟩))
           go_ret; exact rt_y HB
         ·
          rw [if_neg c19] at H; exact absurd H (by simp)
        ·
         rw [if_neg c18] at H; have c18b0 : decide (x3_2 < (l0_3.length : Int)) = false := decide_eq_false c18; clear c18; replace H := Option.bind_eq_some_iff.mp H; obtain ⟨t399, A420, H⟩ := H; replace H : (if t399 = true then (some 0) else (some 1)) = some r := H; have A42 := Aside0.mk A420; clear A420; by_cases c43 : t399 = true
         ·
          subst c43; (have H1 : (some 0) = some r := by rw [if_pos rfl] at H; exact H); clear H; have H := H1; clear H1; obtain rfl := Option.some.inj H; obtain ⟨hfz44_0, _, _, _, _, _, _, _⟩ := cf7 BK395
          go_wp2_with (first | (refine goesG_x 61 rfl (some 59) Try.func61 #[.int .i64 a0_4, .int .i64 0, .int .i64 2880] ?_; (with_reducible refine (swarfref07_between.calls a0_4 0 2880 true _ A42.out).mono ?_); rintro e w' ⟨rfl, ⟨nd, rfl⟩⟩; refine ⟨_, rfl, ?_⟩))
          go_ret; exact rt_y HB
         ·
          replace c43 := Bool.eq_false_iff.mpr c43; subst c43; replace H : (some 1) = some r := ifn_x H; obtain rfl := Option.some.inj H; obtain ⟨hfz45_0, _, _, _, _, _, _, _⟩ := cf7 BK395
          go_wp2_with (first | (refine goesG_x 61 rfl (some 59) Try.func61 #[.int .i64 a0_4, .int .i64 0, .int .i64 2880] ?_; (with_reducible refine (swarfref07_between.calls a0_4 0 2880 false _ A42.out).mono ?_); rintro e w' ⟨rfl, ⟨nd, rfl⟩⟩; refine ⟨_, rfl, ?_⟩))
          go_ret; exact rt_y HB
def swarfref07_checkRange.j0 : Nat → Bool → Int → Int → Option (Int)
 | 0, _, _, _ => none
 | k + 1, x16, x406000, x406001 => if x16 = true then (some 1) else (if x406000 > x406001 then (some 5) else (some 0))
def swarfref07_checkRange.f (k : Nat) (a0_0 : Int) (a0_1 : Int) (a1 : Int) : Option (Int) := (swarfref07_between.f a0_0 0 a1).bind fun t406 => (if t406 = true then ((swarfref07_between.f a0_1 0 a1).bind fun t407 => (swarfref07_checkRange.j0 k (!t407) a0_0 a0_1)) else (swarfref07_checkRange.j0 k true a0_0 a0_1))
set_option maxHeartbeats 8000000 in
set_option maxRecDepth 100000 in
theorem swarfref07_checkRange.calls (k : Nat) (a0_0 : Int) (a0_1 : Int) (a1 : Int) (r : Int) (w : World) (h : swarfref07_checkRange.f k a0_0 a0_1 a1 = some r) :
  Calls Try.prog 60 #[.agg #[.int .i64 a0_0, .int .i64 a0_1], .int .i64 a1] w fun e w' => e = .returned (.int .i64 r) ∧ Below w.heap.size w w' := by
 have hu56 := Try.underlying56
 have HB := Aside0.mk (Below.refl w.heap.size w)
 have H : ((swarfref07_between.f a0_0 0 a1).bind fun t406 => (if t406 = true then ((swarfref07_between.f a0_1 0 a1).bind fun t407 => (swarfref07_checkRange.j0 k (!t407) a0_0 a0_1)) else (swarfref07_checkRange.j0 k true a0_0 a0_1))) = some r := h
 clear h
 have HC3 := Aside0.mk H
 clear H
 go_enter Try.func60, Try.ntmps60
 go_upto_region 1 with (first | (refine box_r (N := 2) rfl (cs := #[.int .i64 a0_0, .int .i64 a0_1]) (t := 56) ?_; intro gb405 hg w4 hbox hb; have BK405 := Aside0.mk (hbox); have GW405 := gw_x hg HB; have GE405 := GW405; replace HB := Aside0.mk (below_step (below_x HB.out) hb); clear hb hbox hg))
 (try simp only [Act.put, put_x])
 go_cut [16] (fun v16 wc => ∃ (kq : Nat) (x16_2 : Bool), v16 = .bool x16_2 ∧ Aside0 (swarfref07_checkRange.j0 kq x16_2 a0_0 a0_1 = some r) ∧ Aside0 (kq ≤ k) ∧ Aside0 (wc.heap[gb405]? = some (.cells #[.int .i64 a0_0, .int .i64 a0_1] 56 (0, 0))) ∧ Aside0 (Below w.heap.size w wc))
 case first =>
  have H := HC3.out; clear HC3; replace H := Option.bind_eq_some_iff.mp H; obtain ⟨t406, A50, H⟩ := H
  try dsimp only at H
  have A5 := Aside0.mk A50; clear A50; by_cases c6 : t406 = true
  ·
   subst c6; (have H1 : ((swarfref07_between.f a0_1 0 a1).bind fun t407 => (swarfref07_checkRange.j0 k (!t407) a0_0 a0_1)) = some r := by rw [if_pos rfl] at H; exact H); clear H; have H := H1; clear H1; replace H := Option.bind_eq_some_iff.mp H; obtain ⟨t407, A70, H⟩ := H; replace H : (swarfref07_checkRange.j0 k (!t407) a0_0 a0_1) = some r := H; have A7 := Aside0.mk A70; clear A70; have H' := Aside0.mk H; clear H; obtain ⟨hfz8_0, _, _⟩ := cf2 BK405
   go_wp2_with (first | (refine goesG_x 61 rfl (some 8) Try.func61 #[.int .i64 a0_0, .int .i64 0, .int .i64 a1] ?_; (with_reducible refine (swarfref07_between.calls a0_0 0 a1 true _ A5.out).mono ?_); rintro e w' ⟨rfl, ⟨nd, rfl⟩⟩; refine ⟨_, rfl, ?_⟩) | (go_at_call 61; (with_reducible refine (swarfref07_between.calls a0_1 0 a1 t407 _ A7.out).mono ?_); rintro e w' ⟨rfl, ⟨nd, rfl⟩⟩))
   go_meet
   case rel => exact ⟨_, (!t407), (by first | rfl | (simp; done) | (simp [*]; done)), H', ⟨by first | omega | exact Nat.le_refl _⟩, ⟨blk_x BK405.out⟩, ⟨by exact below_y HB.out⟩⟩
  ·
   replace c6 := Bool.eq_false_iff.mpr c6; subst c6; replace H : (swarfref07_checkRange.j0 k true a0_0 a0_1) = some r := ifn_x H; have H' := Aside0.mk H; clear H; obtain ⟨hfz9_0, _, _⟩ := cf2 BK405
   go_wp2_with (first | (refine goesG_x 61 rfl (some 8) Try.func61 #[.int .i64 a0_0, .int .i64 0, .int .i64 a1] ?_; (with_reducible refine (swarfref07_between.calls a0_0 0 a1 false _ A5.out).mono ?_); rintro e w' ⟨rfl, ⟨nd, rfl⟩⟩; refine ⟨_, rfl, ?_⟩))
   go_meet
   case rel => exact ⟨_, (true), (by first | rfl | (simp; done) | (simp [*]; done)), H', ⟨by first | omega | exact Nat.le_refl _⟩, ⟨blk_x BK405.out⟩, ⟨by exact below_y HB.out⟩⟩
 case rest =>
  clear HC3; obtain ⟨kq, x16_2, rfl, HA, HJ2, BK405, HB⟩ := hcut; cases kq with
  | zero => exact absurd HA.out (by simp [swarfref07_checkRange.j0])
  | succ kj2 =>
   have H := HA.out; clear HA; simp only [swarfref07_checkRange.j0] at H; by_cases c10 : x16_2 = true
   ·
    subst c10; (have H1 : (some 1) = some r := by rw [if_pos rfl] at H; exact H); clear H; have H := H1; clear H1; obtain rfl := Option.some.inj H; go_wp2; go_ret; exact rt_y HB
   ·
    replace c10 := Bool.eq_false_iff.mpr c10; subst c10; replace H : (if a0_0 > a0_1 then (some 5) else (some 0)) = some r := ifn_x H; by_cases c11 : a0_0 > a0_1
    ·
     rw [if_pos c11] at H; have c11b0 : decide (a0_1 < a0_0) = true := decide_eq_true c11; clear c11; obtain rfl := Option.some.inj H; obtain ⟨hfz12_0, _, _⟩ := cf2 BK405; go_wp2; go_ret; exact rt_y HB
    ·
     rw [if_neg c11] at H; have c11b0 : decide (a0_1 < a0_0) = false := decide_eq_false c11; clear c11; obtain rfl := Option.some.inj H; obtain ⟨hfz13_0, _, _⟩ := cf2 BK405; go_wp2; go_ret; exact rt_y HB
end Go.Proofs.Ytodmemndaaiolaa.PC7
