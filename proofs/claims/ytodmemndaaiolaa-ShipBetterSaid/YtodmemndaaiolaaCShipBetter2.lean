/- Lemmas on the way to this: what is known better -/
import Derived.Test.YtodmemndaaiolaaCShipBetter1
namespace Go.Proofs.Ytodmemndaaiolaa.PC7
open Go.RowKit Go.Proofs.YtodmemndaaiolaaW.PrintWords Go.Proofs.YtodmemndaaiolaaW.PrintLast Go.Proofs.YtodmemndaaiolaaW.PrintMore
attribute [local go_sem] max2_int min2_int max_two min_two max_three min_three max_four min_four
set_option linter.unusedVariables false
set_option linter.unusedSimpArgs false
mutual
def swarfkit_VoyageOf.l0 : Nat → Int → Int → Int → Int → Int → Int → Int → Int → List (S85) → Int → Option (Int × Int × Int × (List (S85)) × Int × (List (S59)) × (List (S79)) × Int)
 | 0, _, _, _, _, _, _, _, _, _, _ => none
 | k + 1, x2, x3, x4, x12, x1000, x310000, x310001, x310002, x310003, x310004 => if x12 > 0 then ((swarfkit_Feed_Below.f x1000 (wrap64 (3 * x4))).bind fun bt312 => ((swarfkit_Feed_Either.f bt312.2 (([x4, wrap64 (3 * x4), bt312.1] : List Int))).bind fun bt317 => ((swarfkit_Feed_Below.f bt317.2 1500).bind fun bt319 => ((swarfkit_Feed_Below.f bt319.2 1500).bind fun bt321 => (if x310003.length < 5864062014805 then (swarfkit_VoyageOf.l0 k x2 x3 x4 (wrap64 (x12 - 1)) bt321.2 x310000 x310001 x310002 (x310003 ++ [(⟨bt317.1, bt319.1, bt321.1⟩ : S85)]) x310004) else (none)))))) else ((swarfkit_Feed_Below.f x1000 (wrap64 (x2 + 1))).bind fun bt326 => (swarfkit_VoyageOf.l1 k x3 x4 bt326.1 bt326.2 x310000 x310001 x310002 x310003 x310004 ([] : List (S59))))
def swarfkit_VoyageOf.l1 : Nat → Int → Int → Int → Int → Int → Int → Int → List (S85) → Int → List (S59) → Option (Int × Int × Int × (List (S85)) × Int × (List (S59)) × (List (S79)) × Int)
 | 0, _, _, _, _, _, _, _, _, _, _ => none
 | k + 1, x3, x4, x13, x1000, x310000, x310001, x310002, x310003, x310004, x310005 => if x13 > 0 then ((swarfkit_Feed_Either.f x1000 (([3, 12] : List Int))).bind fun bt331 => ((swarfkit_Feed_Range.f bt331.2 0 bt331.1).bind fun bt333 => ((swarfkit_Feed_Between.f bt333.2.2 1 4).bind fun bt337 => (swarfkit_VoyageOf.l2 k x3 x4 x13 0 bt337.1 bt337.2 x310000 x310001 x310002 x310003 x310004 x310005 bt333.1 bt333.2.1 ([] : List (S62)))))) else ((swarfkit_Feed_Below.f x1000 (wrap64 (x3 + 1))).bind fun bt352 => (swarfkit_VoyageOf.l3 k x4 bt352.1 bt352.2 x310000 x310001 x310002 x310003 x310004 x310005 ([] : List (S79))))
def swarfkit_VoyageOf.l2 : Nat → Int → Int → Int → Int → Int → Int → Int → Int → Int → List (S85) → Int → List (S59) → Int → Int → List (S62) → Option (Int × Int × Int × (List (S85)) × Int × (List (S59)) × (List (S79)) × Int)
 | 0, _, _, _, _, _, _, _, _, _, _, _, _, _, _, _ => none
 | k + 1, x3, x4, x13, x15, x16, x1000, x310000, x310001, x310002, x310003, x310004, x310005, x337000, x337001, x337002 => if x16 > 0 then ((swarfkit_Feed_Below.f x1000 12).bind fun bt339 => ((swarfkit_Feed_Range.f bt339.2 bt339.1 (wrap64 (12 + (wrap64 (2 * x4))))).bind fun bt341 => (if x337002.length < 5864062014805 then ((swarfkit_Feed_Between.f bt341.2.2 1 9).bind fun bt347 => (swarfkit_VoyageOf.l2 k x3 x4 x13 (wrap64 (x15 + bt347.1)) (wrap64 (x16 - 1)) bt347.2 x310000 x310001 x310002 x310003 x310004 x310005 x337000 x337001 (x337002 ++ [(⟨x15, (⟨bt341.1, bt341.2.1⟩ : S56)⟩ : S62)]))) else (none)))) else (if x310005.length < 3518437208883 then (swarfkit_VoyageOf.l1 k x3 x4 (wrap64 (x13 - 1)) x1000 x310000 x310001 x310002 x310003 x310004 (x310005 ++ [(⟨(⟨x337000, x337001⟩ : S56), x337002⟩ : S59)])) else (none))
def swarfkit_VoyageOf.l3 : Nat → Int → Int → Int → Int → Int → Int → List (S85) → Int → List (S59) → List (S79) → Option (Int × Int × Int × (List (S85)) × Int × (List (S59)) × (List (S79)) × Int)
 | 0, _, _, _, _, _, _, _, _, _, _ => none
 | k + 1, x4, x17, x1000, x310000, x310001, x310002, x310003, x310004, x310005, x310006 => if x17 > 0 then ((swarfkit_Feed_Range.f x1000 0 x4).bind fun bt354 => ((swarfkit_Feed_Below.f bt354.2.2 30).bind fun bt357 => (if x310006.length < 5864062014805 then (swarfkit_VoyageOf.l3 k x4 (wrap64 (x17 - 1)) bt357.2 x310000 x310001 x310002 x310003 x310004 x310005 (x310006 ++ [(⟨(⟨bt354.1, bt354.2.1⟩ : S56), bt357.1⟩ : S79)])) else (none)))) else (some (x310000, x310001, x310002, x310003, x310004, x310005, x310006, x1000))
end
def swarfkit_VoyageOf.f (k : Nat) (s0_0 : Int) (a1 : Int) (a2 : Int) (a3 : Int) (a4 : Int) : Option (Int × Int × Int × (List (S85)) × Int × (List (S59)) × (List (S79)) × Int) := (swarfkit_Feed_Below.f s0_0 9).bind fun bt296 => ((swarfkit_Feed_Below.f bt296.2 4).bind fun bt298 => ((swarfkit_Feed_Below.f bt298.2 9).bind fun bt300 => ((swarfkit_Feed_Either.f bt300.2 (([bt300.1, 40] : List Int))).bind fun bt305 => ((swarfkit_Feed_Below.f bt305.2 9).bind fun bt307 => ((swarfkit_Feed_Between.f bt307.2 1 a1).bind fun bt310 => (swarfkit_VoyageOf.l0 k a2 a3 a4 bt310.1 bt310.2 bt296.1 bt298.1 bt305.1 ([] : List (S85)) bt307.1))))))
def swarfkit_VoyageOf.T5 : Bool × List (List Nat × List Nat) := (true, [([], []), ([0], [0]), ([], []), ([], []), ([], []), ([4], [4]), ([], []), ([], []), ([7], [7]), ([6, 8], [6, 8]), ([3, 5, 9], [3, 5, 9]), ([2, 10, 9], [2, 10]), ([], []), ([12, 11], [12]), ([], []), ([14, 13], [14]), ([11, 13, 15], [11, 13, 15]), ([16], [16]), ([1, 17, 15], [1, 17]), ([0, 1, 2, 3, 4, 5, 6, 7, 8, 9, 10, 11, 12, 13, 14, 15, 16, 17, 18], []), ([19, 18, 18, 0, 1, 2, 3, 4, 5, 6, 7, 8, 9, 10, 11, 12, 13, 14, 15, 16, 17, 18], [18, 19])])
def swarfkit_VoyageOf.B5 : List Nat := [0, 1, 0, 0, 0, 16, 0, 0, 128, 448, 1016, 2044, 0, 8188, 0, 32764, 65532, 131068, 262143, 524287, 1048575]
theorem swarfkit_VoyageOf.tab5 : rtab .any (opsOf Try.f17 5) = swarfkit_VoyageOf.T5 := by kernel_rfl
theorem swarfkit_VoyageOf.bits5 : waitsOk swarfkit_VoyageOf.T5.2 swarfkit_VoyageOf.B5 = true := by kernel_rfl
def swarfkit_VoyageOf.T14 : Bool × List (List Nat × List Nat) := (true, [([], []), ([0], [0]), ([], []), ([], []), ([], []), ([4], [4]), ([], []), ([6], [6]), ([7], [7]), ([3, 5, 8, 5], [3, 5, 8]), ([2, 9], [2, 9]), ([10], [10]), ([1, 11, 9], [1, 11]), ([0, 1, 2, 3, 4, 5, 6, 7, 8, 9, 10, 11, 12], []), ([13, 12, 12, 0, 1, 2, 3, 4, 5, 6, 7, 8, 9, 10, 11, 12], [12, 13])])
def swarfkit_VoyageOf.B14 : List Nat := [0, 1, 0, 0, 0, 16, 0, 64, 192, 504, 1020, 2044, 4095, 8191, 16383]
theorem swarfkit_VoyageOf.tab14 : rtab .any (opsOf Try.f17 14) = swarfkit_VoyageOf.T14 := by kernel_rfl
theorem swarfkit_VoyageOf.bits14 : waitsOk swarfkit_VoyageOf.T14.2 swarfkit_VoyageOf.B14 = true := by kernel_rfl
def swarfkit_VoyageOf.T20 : Bool × List (List Nat × List Nat) := (true, [([], []), ([0], [0]), ([], []), ([], []), ([2, 3], [2, 3]), ([], []), ([5, 4], [5]), ([4, 6], [4, 6]), ([7], [7]), ([1, 8, 6], [1, 8]), ([0, 1, 2, 3, 4, 5, 6, 7, 8, 9], []), ([10, 9, 9, 0, 1, 2, 3, 4, 5, 6, 7, 8, 9], [9, 10])])
def swarfkit_VoyageOf.B20 : List Nat := [0, 1, 0, 0, 12, 0, 60, 124, 252, 511, 1023, 2047]
theorem swarfkit_VoyageOf.tab20 : rtab .any (opsOf Try.f17 20) = swarfkit_VoyageOf.T20 := by kernel_rfl
theorem swarfkit_VoyageOf.bits20 : waitsOk swarfkit_VoyageOf.T20.2 swarfkit_VoyageOf.B20 = true := by kernel_rfl
set_option maxHeartbeats 8000000 in
set_option maxRecDepth 100000 in
theorem swarfkit_VoyageOf.calls (k : Nat) (g : Nat) (s0_0 : Int) (a1 : Int) (a2 : Int) (a3 : Int) (a4 : Int) (r1 : Int) (r2 : Int) (r3 : Int) (r4 : List (S85)) (r5 : Int) (r6 : List (S59)) (r7 : List (S79)) (r8 : Int) (w0 w : World) (hI : IsS90 w0 w g s0_0) (hB : Below w0.heap.size w0 w) (h : swarfkit_VoyageOf.f k s0_0 a1 a2 a3 a4 = some (r1, r2, r3, r4, r5, r6, r7, r8)) :
  Calls Try.prog 17 #[.pointer (some ⟨g, 0, none⟩), .int .i64 a1, .int .i64 a2, .int .i64 a3, .int .i64 a4] w fun e w' => ∃ v3_ v5_ v6_ : Value, e = .returned (.agg #[.int .i64 r1, .int .i64 r2, .int .i64 r3, v3_, .int .i64 r5, v5_, v6_]) ∧ Kd.R k85 85 w' w.heap.size (fun _ => True) v3_ r4 ∧ Kd.S k59 59 w' w.heap.size (fun _ => True) v5_ r6 ∧ Kd.R k79 79 w' w.heap.size (fun _ => True) v6_ r7 ∧ IsS90 w0 w' g r8 ∧ Below w0.heap.size w0 w' ∧ KeepBut w w' g none := by
 have hu26 := Try.underlying26
 have hu85 := Try.underlying85
 have hu59 := Try.underlying59
 have hu62 := Try.underlying62
 have hu79 := Try.underlying79
 have HI0 := Aside0.mk hI
 have HK := Aside0.mk (KeepBut.refl w g none)
 have HL := Aside0.mk hB.size
 clear hI
 have HW0 := Aside0.mk hB.size
 have HB := Aside0.mk hB
 clear hB
 have H : ((swarfkit_Feed_Below.f s0_0 9).bind fun bt296 => ((swarfkit_Feed_Below.f bt296.2 4).bind fun bt298 => ((swarfkit_Feed_Below.f bt298.2 9).bind fun bt300 => ((swarfkit_Feed_Either.f bt300.2 (([bt300.1, 40] : List Int))).bind fun bt305 => ((swarfkit_Feed_Below.f bt305.2 9).bind fun bt307 => ((swarfkit_Feed_Between.f bt307.2 1 a1).bind fun bt310 => (swarfkit_VoyageOf.l0 k a2 a3 a4 bt310.1 bt310.2 bt296.1 bt298.1 bt305.1 ([] : List (S85)) bt307.1))))))) = some (r1, r2, r3, r4, r5, r6, r7, r8) := h
 clear h
 replace H := Option.bind_eq_some_iff.mp H
 obtain ⟨⟨t296, t297⟩, A60, H⟩ := H
 try dsimp only at H
 have A6 := Aside0.mk A60
 clear A60
 replace H := Option.bind_eq_some_iff.mp H
 obtain ⟨⟨t298, t299⟩, A70, H⟩ := H
 try dsimp only at H
 have A7 := Aside0.mk A70
 clear A70
 replace H := Option.bind_eq_some_iff.mp H
 obtain ⟨⟨t300, t301⟩, A80, H⟩ := H
 try dsimp only at H
 have A8 := Aside0.mk A80
 clear A80
 obtain ⟨y302, hy302⟩ : ∃ y_ : List Int, y_ = (([t300, 40] : List Int)) := ⟨_, rfl⟩
 replace H : ((swarfkit_Feed_Either.f t301 y302).bind fun bt305 => ((swarfkit_Feed_Below.f bt305.2 9).bind fun bt307 => ((swarfkit_Feed_Between.f bt307.2 1 a1).bind fun bt310 => (swarfkit_VoyageOf.l0 k a2 a3 a4 bt310.1 bt310.2 t296 t298 bt305.1 ([] : List (S85)) bt307.1)))) = some (r1, r2, r3, r4, r5, r6, r7, r8) := by first | (rw [hy302]; with_reducible exact H) | (have H2_ := (Option.bind_some _ _).symm.trans H; rw [hy302]; with_reducible exact H2_) | (have H2_ := (Option.bind_some _ _).symm.trans H; with_reducible exact H2_) | with_reducible exact H | (rw [hy302]; exact H) | exact H
 have Ny302 := Aside0.mk hy302
 clear hy302
 replace H := Option.bind_eq_some_iff.mp H
 obtain ⟨⟨t305, t306⟩, A90, H⟩ := H
 try dsimp only at H
 have A9 := Aside0.mk A90
 clear A90
 replace H := Option.bind_eq_some_iff.mp H
 obtain ⟨⟨t307, t308⟩, A100, H⟩ := H
 try dsimp only at H
 have A10 := Aside0.mk A100
 clear A100
 replace H := Option.bind_eq_some_iff.mp H
 obtain ⟨⟨t310, t311⟩, A110, H⟩ := H
 try dsimp only at H
 have A11 := Aside0.mk A110
 clear A110
 have H' := Aside0.mk H
 clear H
 go_enter Try.func17, Try.ntmps17
 go_wp2_with (first | ((with_reducible refine gate_dst (N := 10) rfl ?_); refine box_event ?hg (N := 10) ?hd (cs := #[.int .i64 0, .int .i64 0, .int .i64 0, .slice none 0 0, .int .i64 0, .slice none 0 0, .slice none 0 0]) (t := 26) ?hr ?_; (case hd => rfl); (case hg => rfl); (case hr => first | (go_simp; done) | (go_simp; rfl)); intro gb295 hg w12 hbox hb; replace HB := bl_x HB hb; have BK295 := Aside0.mk (hbox); have GW295 := Aside0.mk ((by rw [hg]; exact (keep_size (w := w) (g := g) (row := none) (by exact keep_y HK.out)) : w.heap.size ≤ gb295)); have GE295 := Aside0.mk ((Nat.le_trans HW0.out (by rw [hg]; exact (keep_size (w := w) (g := g) (row := none) (by exact keep_y HK.out)) : w.heap.size ≤ gb295) : w0.heap.size ≤ gb295)); replace HK := Aside0.mk (KeepBut.trans (by exact keep_y HK.out) (KeepBut.of_below hb g none) (.inl rfl)); have NB0_295 := Aside0.mk ((by rw [hg]; exact Nat.ne_of_lt (IsS90.lt (show IsS90 w0 _ g s0_0 from by exact IsS90.up HI0.out)) : g ≠ gb295)); have NB295_0 := Aside0.mk ((by rw [hg]; exact Nat.ne_of_gt (IsS90.lt (show IsS90 w0 _ g s0_0 from by exact IsS90.up HI0.out)) : gb295 ≠ g)); replace HI0 := Aside0.mk (IsS90.below (by exact IsS90.up HI0.out) hb); clear hb hbox hg) | ((with_reducible refine gate_callee (f := 33) rfl ?_); refine goesL_ (some 19) rfl rfl Try.func33 (by kernel_rfl) rfl #[.pointer (some ⟨g, 0, none⟩), .int .i64 9] rfl (by (try simp only [List.map_toArray, List.map_cons, List.map_nil]); first | done | rfl | (simp only [List.length_drop, List.length_take]; rfl)) ?_; (with_reducible refine (swarfkit_Feed_Below.calls g s0_0 9 t296 t297 w0 _ ?side1 ?side2 A6.out).mono ?_); (case side1 => exact IsS90.up HI0.out); (case side2 => exact below_y HB.out); rintro e w13 ⟨rfl, hi, hb, hk⟩; refine ⟨_, rfl, ?_⟩; replace BK295 := Aside0.mk (KeepBut.blk hk (blk_x BK295.out) NB295_0.out (by simp)); replace HK := Aside0.mk (KeepBut.trans (by exact keep_y HK.out) hk (.inl rfl)); replace HB := Aside0.mk (hb); replace HI0 := Aside0.mk (hi); (try clear hb); (try clear hk); (try clear hi)) | ((with_reducible refine gate_callee (f := 33) rfl ?_); refine goesL_ (some 21) rfl rfl Try.func33 (by kernel_rfl) rfl #[.pointer (some ⟨g, 0, none⟩), .int .i64 4] rfl (by (try simp only [List.map_toArray, List.map_cons, List.map_nil]); first | done | rfl | (simp only [List.length_drop, List.length_take]; rfl)) ?_; (with_reducible refine (swarfkit_Feed_Below.calls g t297 4 t298 t299 w0 _ ?side1 ?side2 A7.out).mono ?_); (case side1 => exact IsS90.up HI0.out); (case side2 => exact below_y HB.out); rintro e w14 ⟨rfl, hi, hb, hk⟩; refine ⟨_, rfl, ?_⟩; replace BK295 := Aside0.mk (KeepBut.blk hk (blk_x BK295.out) NB295_0.out (by simp)); replace HK := Aside0.mk (KeepBut.trans (by exact keep_y HK.out) hk (.inl rfl)); replace HB := Aside0.mk (hb); replace HI0 := Aside0.mk (hi); (try clear hb); (try clear hk); (try clear hi)) | ((with_reducible refine gate_callee (f := 33) rfl ?_); refine goesL_ (some 24) rfl rfl Try.func33 (by kernel_rfl) rfl #[.pointer (some ⟨g, 0, none⟩), .int .i64 9] rfl (by (try simp only [List.map_toArray, List.map_cons, List.map_nil]); first | done | rfl | (simp only [List.length_drop, List.length_take]; rfl)) ?_; (with_reducible refine (swarfkit_Feed_Below.calls g t299 9 t300 t301 w0 _ ?side1 ?side2 A8.out).mono ?_); (case side1 => exact IsS90.up HI0.out); (case side2 => exact below_y HB.out); rintro e w15 ⟨rfl, hi, hb, hk⟩; refine ⟨_, rfl, ?_⟩; replace BK295 := Aside0.mk (KeepBut.blk hk (blk_x BK295.out) NB295_0.out (by simp)); replace HK := Aside0.mk (KeepBut.trans (by exact keep_y HK.out) hk (.inl rfl)); replace HB := Aside0.mk (hb); replace HI0 := Aside0.mk (hi); (try clear hb); (try clear hk); (try clear hi)) | ((with_reducible refine gate_dst (N := 25) rfl ?_); refine Kd.R_lit (Kd.int .i64) _ 3 ?hg (N := 25) ?hd (xs := ([t300, 40] : List Int)) (inner := [.int .i64 t300, .int .i64 40]) (ok := fun _ => True) (okp := fun _ => True) ?hr ?hp (fun _ hk => hk) trivial (Below.refl _ _) (Nat.le_refl _) (by simp) ?_; (case hd => rfl); (case hg => rfl); (case hr => first | (go_simp; done) | (go_simp; rfl)); (case hp => exact (Reps.one (show Kd.M (Kd.int .i64) _ _ _ t300 [.int .i64 t300] from rfl) (Reps.one (show Kd.M (Kd.int .i64) _ _ _ 40 [.int .i64 40] from rfl) (Reps.none _ _)))); intro v303 w16 ho17 hb hg_ hnew_; clear hg_ hnew_; (first | rw [← Ny302.out] at ho17 | (simp only [Int.reduceToNat] at ho17; rw [← Ny302.out] at ho17)); have HO304 := Aside0.mk (Kd.R_lower ho17 (keep_size (w := w) (g := g) (row := none) (by exact keep_y HK.out))); replace HI0 := Aside0.mk (IsS90.below (by exact IsS90.up HI0.out) hb); replace BK295 := Aside0.mk (blk_below (blk_x BK295.out) hb); replace HK := Aside0.mk (KeepBut.trans (by exact keep_y HK.out) (KeepBut.of_below hb g none) (.inl rfl)); replace HB := bl_x HB hb; clear hb ho17; obtain ⟨Ao18, co18, eo18⟩ := Kd.R_slice HO304.out; subst eo18) | ((with_reducible refine gate_callee (f := 18) rfl ?_); refine goesL_ (some 26) rfl rfl Try.func18 (by kernel_rfl) rfl #[.pointer (some ⟨g, 0, none⟩), .slice Ao18 y302.length co18] rfl (by (try simp only [List.map_toArray, List.map_cons, List.map_nil]); first | done | rfl | (simp only [List.length_drop, List.length_take]; rfl)) ?_; (with_reducible refine (swarfkit_Feed_Either.calls g t301 _ _ y302 t305 t306 w0 _ ?side1 ?side2 ?side3 ?side4 ?side5 A9.out).mono ?_); (case side1 => exact IsS90.up HI0.out); (case side2 => exact below_y HB.out); (case side3 => exact Kd.C_y (Kd.R_reads' HO304.out).2.2); (case side4 => exact (Kd.R_reads' HO304.out).2.1); (case side5 => exact far_slice (IsS90.own_ne HI0.out HO304.out (by decide))); rintro e w19 ⟨rfl, hi, hb, hk⟩; refine ⟨_, rfl, ?_⟩; replace BK295 := Aside0.mk (KeepBut.blk hk (blk_x BK295.out) NB295_0.out (by simp)); replace HO304 := Aside0.mk (Kd.R_mono (Kd.R_keep (IsS90.apart (show IsS90 w0 _ g t301 from by exact IsS90.up HI0.out) (Kd.R_x HO304.out) (by decide)) hk (fun _ h => h.2)) (fun _ h => h.1)); replace HK := Aside0.mk (KeepBut.trans (by exact keep_y HK.out) hk (.inl rfl)); replace HB := Aside0.mk (hb); replace HI0 := Aside0.mk (hi); (try clear hb); (try clear hk); (try clear hi)) | ((with_reducible refine gate_callee (f := 33) rfl ?_); refine goesL_ (some 28) rfl rfl Try.func33 (by kernel_rfl) rfl #[.pointer (some ⟨g, 0, none⟩), .int .i64 9] rfl (by (try simp only [List.map_toArray, List.map_cons, List.map_nil]); first | done | rfl | (simp only [List.length_drop, List.length_take]; rfl)) ?_; (with_reducible refine (swarfkit_Feed_Below.calls g t306 9 t307 t308 w0 _ ?side1 ?side2 A10.out).mono ?_); (case side1 => exact IsS90.up HI0.out); (case side2 => exact below_y HB.out); rintro e w20 ⟨rfl, hi, hb, hk⟩; refine ⟨_, rfl, ?_⟩; replace BK295 := Aside0.mk (KeepBut.blk hk (blk_x BK295.out) NB295_0.out (by simp)); replace HO304 := Aside0.mk (Kd.R_mono (Kd.R_keep (IsS90.apart (show IsS90 w0 _ g t306 from by exact IsS90.up HI0.out) (Kd.R_x HO304.out) (by decide)) hk (fun _ h => h.2)) (fun _ h => h.1)); replace HK := Aside0.mk (KeepBut.trans (by exact keep_y HK.out) hk (.inl rfl)); replace HB := Aside0.mk (hb); replace HI0 := Aside0.mk (hi); (try clear hb); (try clear hk); (try clear hi)) | ((with_reducible refine gate_dst (N := 11) rfl ?_); refine box_event ?hg (N := 11) ?hd (cs := #[.int .i64 0, .int .i64 0, .int .i64 0, .slice none 0 0, .int .i64 0, .slice none 0 0, .slice none 0 0]) (t := 26) ?hr ?_; (case hd => rfl); (case hg => rfl); (case hr => first | (go_simp; done) | (go_simp; rfl)); intro gb309 hg w21 hbox hb; replace HO304 := Aside0.mk (Kd.R_below (Kd.R_x HO304.out) hb); replace HB := bl_x HB hb; have BK309 := Aside0.mk (hbox); have GW309 := Aside0.mk ((by rw [hg]; exact (keep_size (w := w) (g := g) (row := none) (by exact keep_y HK.out)) : w.heap.size ≤ gb309)); have GE309 := Aside0.mk ((Nat.le_trans HW0.out (by rw [hg]; exact (keep_size (w := w) (g := g) (row := none) (by exact keep_y HK.out)) : w.heap.size ≤ gb309) : w0.heap.size ≤ gb309)); replace HK := Aside0.mk (KeepBut.trans (by exact keep_y HK.out) (KeepBut.of_below hb g none) (.inl rfl)); have NB295_309 := Aside0.mk ((by rw [hg]; exact Nat.ne_of_lt (blk_lt (g := gb295) (o := .cells #[.int .i64 0, .int .i64 0, .int .i64 0, .slice none 0 0, .int .i64 0, .slice none 0 0, .slice none 0 0] 26 (0, 0)) (blk_x BK295.out)) : gb295 ≠ gb309)); have NB309_295 := Aside0.mk ((by rw [hg]; exact Nat.ne_of_gt (blk_lt (g := gb295) (o := .cells #[.int .i64 0, .int .i64 0, .int .i64 0, .slice none 0 0, .int .i64 0, .slice none 0 0, .slice none 0 0] 26 (0, 0)) (blk_x BK295.out)) : gb309 ≠ gb295)); replace BK295 := Aside0.mk (blk_below (blk_x BK295.out) hb); have NB0_309 := Aside0.mk ((by rw [hg]; exact Nat.ne_of_lt (IsS90.lt (show IsS90 w0 _ g t308 from by exact IsS90.up HI0.out)) : g ≠ gb309)); have NB309_0 := Aside0.mk ((by rw [hg]; exact Nat.ne_of_gt (IsS90.lt (show IsS90 w0 _ g t308 from by exact IsS90.up HI0.out)) : gb309 ≠ g)); replace HI0 := Aside0.mk (IsS90.below (by exact IsS90.up HI0.out) hb); clear hb hbox hg; have hnb22 := NB309_295.out; have hnc22 := NB295_309.out; have hnb23 := NB309_0.out; have hnc23 := NB0_309.out; obtain ⟨_, _, _, _, _, _, _⟩ := cz7 BK309; have hfz24_0 := blk_frozen BK309.out) | ((with_reducible refine gate_callee (f := 31) rfl ?_); refine goesL_ (some 32) rfl rfl Try.func31 (by kernel_rfl) rfl #[.pointer (some ⟨g, 0, none⟩), .int .i64 1, .int .i64 a1] rfl (by (try simp only [List.map_toArray, List.map_cons, List.map_nil]); first | done | rfl | (simp only [List.length_drop, List.length_take]; rfl)) ?_; (with_reducible refine (swarfkit_Feed_Between.calls g t308 1 a1 t310 t311 w0 _ ?side1 ?side2 A11.out).mono ?_); (case side1 => exact IsS90.up HI0.out); (case side2 => exact below_y HB.out); rintro e w25 ⟨rfl, hi, hb, hk⟩; refine ⟨_, rfl, ?_⟩; replace BK295 := Aside0.mk (KeepBut.blk hk (g' := gb295) (o := .cells #[.int .i64 0, .int .i64 0, .int .i64 0, .slice none 0 0, .int .i64 0, .slice none 0 0, .slice none 0 0] 26 (0, 0)) (blk_w BK295.out) NB295_0.out (by simp)); replace HO304 := Aside0.mk (Kd.R_mono (Kd.R_keep (IsS90.apart (show IsS90 w0 _ g t308 from by exact IsS90.up HI0.out) (by (with_reducible repeat (first | apply Kd.R_alloc | apply Kd.R_drewN | apply Kd.R_drew)); exact (Kd.R_mono (Kd.R_far (p := ⟨gb309, 6, none⟩) (Kd.R_far (p := ⟨gb309, 5, none⟩) (Kd.R_far (p := ⟨gb309, 4, none⟩) (Kd.R_far (p := ⟨gb309, 3, none⟩) (Kd.R_far (p := ⟨gb309, 2, none⟩) (Kd.R_far (p := ⟨gb309, 1, none⟩) (Kd.R_far (p := ⟨gb309, 0, none⟩) (Kd.R_types HO304.out BK309.out (by decide)) (fun _ hk => hk.2) (.int .i64 t296)) (fun _ hk => hk.2) (.int .i64 t298)) (fun _ hk => hk.2) (.int .i64 t305)) (fun _ hk => hk.2) (.slice none 0 0)) (fun _ hk => hk.2) (.int .i64 t307)) (fun _ hk => hk.2) (.slice none 0 0)) (fun _ hk => hk.2) (.slice none 0 0)) (fun _ h_ => h_.1))) (by decide)) hk (fun _ h => h.2)) (fun _ h => h.1)); replace BK309 := Aside0.mk (KeepBut.blk hk (g' := gb309) (o := .cells #[.int .i64 t296, .int .i64 t298, .int .i64 t305, .slice none 0 0, .int .i64 t307, .slice none 0 0, .slice none 0 0] 26 (0, 0)) (by (with_reducible repeat (first | refine blk_drewN ?_ _ | refine blk_drew ?_ | refine blk_alloc ?_ _)); refine blk_put (cs := #[.int .i64 t296, .int .i64 t298, .int .i64 t305, .slice none 0 0, .int .i64 t307, .slice none 0 0, .slice none 0 0]) ?_ 6 _ rfl; (with_reducible repeat (first | refine blk_drewN ?_ _ | refine blk_drew ?_ | refine blk_alloc ?_ _)); refine blk_put (cs := #[.int .i64 t296, .int .i64 t298, .int .i64 t305, .slice none 0 0, .int .i64 t307, .slice none 0 0, .slice none 0 0]) ?_ 5 _ rfl; (with_reducible repeat (first | refine blk_drewN ?_ _ | refine blk_drew ?_ | refine blk_alloc ?_ _)); refine blk_put (cs := #[.int .i64 t296, .int .i64 t298, .int .i64 t305, .slice none 0 0, .int .i64 0, .slice none 0 0, .slice none 0 0]) ?_ 4 _ rfl; (with_reducible repeat (first | refine blk_drewN ?_ _ | refine blk_drew ?_ | refine blk_alloc ?_ _)); refine blk_put (cs := #[.int .i64 t296, .int .i64 t298, .int .i64 t305, .slice none 0 0, .int .i64 0, .slice none 0 0, .slice none 0 0]) ?_ 3 _ rfl; (with_reducible repeat (first | refine blk_drewN ?_ _ | refine blk_drew ?_ | refine blk_alloc ?_ _)); refine blk_put (cs := #[.int .i64 t296, .int .i64 t298, .int .i64 0, .slice none 0 0, .int .i64 0, .slice none 0 0, .slice none 0 0]) ?_ 2 _ rfl; (with_reducible repeat (first | refine blk_drewN ?_ _ | refine blk_drew ?_ | refine blk_alloc ?_ _)); refine blk_put (cs := #[.int .i64 t296, .int .i64 0, .int .i64 0, .slice none 0 0, .int .i64 0, .slice none 0 0, .slice none 0 0]) ?_ 1 _ rfl; (with_reducible repeat (first | refine blk_drewN ?_ _ | refine blk_drew ?_ | refine blk_alloc ?_ _)); refine blk_put (cs := #[.int .i64 0, .int .i64 0, .int .i64 0, .slice none 0 0, .int .i64 0, .slice none 0 0, .slice none 0 0]) ?_ 0 _ rfl; (with_reducible repeat (first | refine blk_drewN ?_ _ | refine blk_drew ?_ | refine blk_alloc ?_ _)); exact BK309.out) NB309_0.out (by simp)); replace HK := Aside0.mk (KeepBut.trans (by exact keep_y HK.out) hk (.inl rfl)); replace HB := Aside0.mk (hb); replace HI0 := Aside0.mk (hi); (try clear hb); (try clear hk); (try clear hi)))
 go_loopg [12] k (fun kq v12 w' => ∃ (x12_1 : Int) (x1000_1 : Int) (x310003_1 : List (S85)) (u310003 : Value), v12 = .int .i64 x12_1 ∧ Aside0 (swarfkit_VoyageOf.l0 kq a2 a3 a4 x12_1 x1000_1 t296 t298 t305 x310003_1 t307 = some (r1, r2, r3, r4, r5, r6, r7, r8)) ∧ Aside0 (kq ≤ k) ∧ Aside0 (Kd.R k85 85 w' w.heap.size (fun _ => True) u310003 x310003_1) ∧ Aside0 (w'.heap[gb295]? = some (.cells #[.int .i64 0, .int .i64 0, .int .i64 0, (.slice none 0 0), .int .i64 0, (.slice none 0 0), (.slice none 0 0)] 26 (0, 0))) ∧ Aside0 (w'.heap[gb309]? = some (.cells #[.int .i64 t296, .int .i64 t298, .int .i64 t305, u310003, .int .i64 t307, (.slice none 0 0), (.slice none 0 0)] 26 (0, 0))) ∧ Aside0 (IsS90 w0 w' g x1000_1) ∧ Aside0 (KeepBut w w' g none) ∧ Aside0 (Below w0.heap.size w0 w'))
 case atStart => exact ⟨(t310), (t311), (([] : List (S85))), (.slice none 0 0), (by first | rfl | (simp; done) | (simp [*]; done)), H', ⟨Nat.le_refl _⟩, ⟨by first | exact Kd.R_nil _ _ _ _ _ | exact Kd.N_nil _ _ _ _ _ | exact Kd.V_nil _ _ _ _ _ | exact Kd.Q_nil _ _ _ _ _ | exact Kd.S_nil _ _ _ _ _⟩, ⟨blk_x BK295.out⟩, ⟨blk_x BK309.out⟩, ⟨by exact IsS90.up HI0.out⟩, ⟨by exact keep_y HK.out⟩, ⟨by exact below_y HB.out⟩⟩
 case round =>
  clear H'
  obtain ⟨x12_1, x1000_1, x310003_1, u310003, rfl, HA, HK1, HO_310003, BK295, BK309, HI0, HK, HB⟩ := hrel
  cases gk with
  | zero => exact absurd HA.out (by simp [swarfkit_VoyageOf.l0])
  | succ k1 =>
   have H := HA.out
   clear HA
   simp only [swarfkit_VoyageOf.l0] at H
   by_cases c26 : x12_1 > 0
   ·
    rw [if_pos c26] at H
    have c26b0 : decide (0 < x12_1) = true := decide_eq_true c26
    clear c26
    replace H := Option.bind_eq_some_iff.mp H
    obtain ⟨⟨t312, t313⟩, A270, H⟩ := H
    try dsimp only at H
    have A27 := Aside0.mk A270
    clear A270
    obtain ⟨y314, hy314⟩ : ∃ y_ : List Int, y_ = (([a4, wrap64 (3 * a4), t312] : List Int)) := ⟨_, rfl⟩
    replace H : ((swarfkit_Feed_Either.f t313 y314).bind fun bt317 => ((swarfkit_Feed_Below.f bt317.2 1500).bind fun bt319 => ((swarfkit_Feed_Below.f bt319.2 1500).bind fun bt321 => (if x310003_1.length < 5864062014805 then (swarfkit_VoyageOf.l0 k1 a2 a3 a4 (wrap64 (x12_1 - 1)) bt321.2 t296 t298 t305 (x310003_1 ++ [(⟨bt317.1, bt319.1, bt321.1⟩ : S85)]) t307) else (none))))) = some (r1, r2, r3, r4, r5, r6, r7, r8) := by first | (rw [hy314]; with_reducible exact H) | (have H2_ := (Option.bind_some _ _).symm.trans H; rw [hy314]; with_reducible exact H2_) | (have H2_ := (Option.bind_some _ _).symm.trans H; with_reducible exact H2_) | with_reducible exact H | (rw [hy314]; exact H) | exact H
    have Ny314 := Aside0.mk hy314
    clear hy314
    replace H := Option.bind_eq_some_iff.mp H
    obtain ⟨⟨t317, t318⟩, A280, H⟩ := H
    try dsimp only at H
    have A28 := Aside0.mk A280
    clear A280
    replace H := Option.bind_eq_some_iff.mp H
    obtain ⟨⟨t319, t320⟩, A290, H⟩ := H
    try dsimp only at H
    have A29 := Aside0.mk A290
    clear A290
    replace H := Option.bind_eq_some_iff.mp H
    obtain ⟨⟨t321, t322⟩, A300, H⟩ := H
    try dsimp only at H
    have A30 := Aside0.mk A300
    clear A300
    by_cases c31 : x310003_1.length < 5864062014805
    ·
     rw [if_pos c31] at H
     have LMc31 := Aside0.mk c31
     clear c31
     obtain ⟨y323, hy323⟩ : ∃ y_ : List (S85), y_ = (x310003_1 ++ [(⟨t317, t319, t321⟩ : S85)]) := ⟨_, rfl⟩
     replace H : (swarfkit_VoyageOf.l0 k1 a2 a3 a4 (wrap64 (x12_1 - 1)) t322 t296 t298 t305 y323 t307) = some (r1, r2, r3, r4, r5, r6, r7, r8) := by first | (rw [hy323]; with_reducible exact H) | (have H2_ := (Option.bind_some _ _).symm.trans H; rw [hy323]; with_reducible exact H2_) | (have H2_ := (Option.bind_some _ _).symm.trans H; with_reducible exact H2_) | with_reducible exact H | (rw [hy323]; exact H) | exact H
     have Ny323 := Aside0.mk hy323
     clear hy323
     have H' := Aside0.mk H
     clear H
     try go_wp2
     replace HO_310003 := Aside0.mk (Kd.R_drew HO_310003.out)
     replace BK295 := Aside0.mk (blk_drew BK295.out)
     replace BK309 := Aside0.mk (blk_drew BK309.out)
     replace HI0 := Aside0.mk (IsS90.drew HI0.out)
     replace HK := Aside0.mk (keep_drew HK.out)
     replace HB := Aside0.mk (below_drew1 HB.out)
     refine start_ (n := 21) (S := fun w' => w'.cell? ⟨gb309, 0, none⟩ = some (.int .i64 t296) ∧ w'.cell? ⟨gb309, 1, none⟩ = some (.int .i64 t298) ∧ w'.cell? ⟨gb309, 2, none⟩ = some (.int .i64 t305) ∧ w'.cell? ⟨gb309, 3, none⟩ = some (u310003) ∧ w'.cell? ⟨gb309, 4, none⟩ = some (.int .i64 t307) ∧ w'.cell? ⟨gb309, 5, none⟩ = some (.slice none 0 0) ∧ w'.cell? ⟨gb309, 6, none⟩ = some (.slice none 0 0)) (ds := [20]) #[false, false, false, false, false, false, false, false, false, false, false, false, false, false, false, false, false, false, false, false, false] (by kernel_rfl) rfl rfl ⟨(blk_cell BK309.out 0).trans rfl, (blk_cell BK309.out 1).trans rfl, (blk_cell BK309.out 2).trans rfl, (blk_cell BK309.out 3).trans rfl, (blk_cell BK309.out 4).trans rfl, (blk_cell BK309.out 5).trans rfl, (blk_cell BK309.out 6).trans rfl⟩ (fun hHeld => ?_); refine with_tabW swarfkit_VoyageOf.tab5 swarfkit_VoyageOf.bits5 (fun HT_ HW_ => ?_)
     generalize wr.drew = w32 at HO_310003 BK295 BK309 HI0 HK HB hHeld ⊢
     refine pure_t 0 (some 37) (bz 21 1) HT_ ?_
     refine pure_t 2 (some 39) (bz 21 5) HT_ ?_
     refine pure_t 3 (some 40) (bz 21 13) HT_ ?_
     refine pure_t 4 (some 41) (bz 21 29) HT_ ?_
     refine pure_t 5 (some 42) (bz 21 61) HT_ ?_
     refine pure_t 6 (some 43) (bz 21 125) HT_ ?_
     refine pure_t 7 (some 44) (bz 21 253) HT_ ?_
     refine pure_t 8 (some 45) (bz 21 509) HT_ ?_
     refine pure_t 12 (some 49) (bz 21 4605) HT_ ?_
     refine pure_t 14 (some 51) (bz 21 20989) HT_ ?_
     refine take_ (i := 1) (N := some 38) (v := ?_) (a' := ?_) (bz 21 20991) rfl rfl (take_ofW HT_.out HW_.out (by kernel_rfl)) (fun _ _ _ h => h) (Or.inl ⟨by rfl, ?_⟩) hHeld ?_ ?_
     rotate_left; (rintro w' ⟨s0, s1, s2, s3, s4, s5, s6⟩; go_simp; with_reducible rfl); rotate_left; (simp only [Act.put, put_x, i64_w, i32_w]; rfl)
     refine one_ (i := 9) (N := some 46) (bz 21 21503) rfl rfl (one_of HT_.out (by kernel_rfl)) (by decide) (fun K hK => ?_)
     refine goes_ Try.func33 (by kernel_rfl) rfl #[.pointer (some ⟨g, 0, none⟩), .int .i64 (wrap64 (3 * a4))] (by rfl) rfl rfl (by (try simp only [List.map_toArray, List.map_cons, List.map_nil]); first | done | rfl | (simp only [List.length_drop, List.length_take]; rfl)) ?_
     with_reducible refine (swarfkit_Feed_Below.calls g x1000_1 (wrap64 (3 * a4)) t312 t313 w0 _ ?side1 ?side2 A27.out).mono ?_
     (case side1 => exact IsS90.up HI0.out)
     (case side2 => exact below_y HB.out)
     rintro e w33 ⟨rfl, hi, hb, hk⟩
     refine ⟨_, rfl, ?_⟩
     replace HO_310003 := Aside0.mk (Kd.R_mono (Kd.R_keep (IsS90.apart (show IsS90 w0 _ g x1000_1 from by exact IsS90.up HI0.out) (Kd.R_x HO_310003.out) (by decide)) hk (fun _ h => h.2)) (fun _ h => h.1))
     replace BK295 := Aside0.mk (KeepBut.blk hk (blk_x BK295.out) NB295_0.out (by simp))
     replace BK309 := Aside0.mk (KeepBut.blk hk (blk_x BK309.out) NB309_0.out (by simp))
     replace HK := Aside0.mk (KeepBut.trans (by exact keep_y HK.out) hk (.inl rfl))
     replace HB := Aside0.mk (hb)
     replace HI0 := Aside0.mk (hi)
     (try clear hb)
     (try clear hb2)
     (try clear hk)
     (try clear hi)
     refine hK.out _ _ ⟨(blk_cell BK309.out 0).trans rfl, (blk_cell BK309.out 1).trans rfl, (blk_cell BK309.out 2).trans rfl, (blk_cell BK309.out 3).trans rfl, (blk_cell BK309.out 4).trans rfl, (blk_cell BK309.out 5).trans rfl, (blk_cell BK309.out 6).trans rfl⟩ (fun hHeld => ?_)
     clear hK K
     refine norm_ (a' := ?_) ?_ ?_; rotate_left; (show Act.put _ (some 46) _ = _; simp only [Act.put, put_x, i64_w, i32_w]; rfl)
     refine one_ (i := 10) (N := some 47) (bz 21 22527) rfl rfl (one_of HT_.out (by kernel_rfl)) (by decide) (fun K hK => ?_)
     refine Kd.R_lit_step (Kd.int .i64) _ 3 ?hg (N := 47) ?hd (xs := ([a4, wrap64 (3 * a4), t312] : List Int)) (inner := [.int .i64 a4, .int .i64 (wrap64 (3 * a4)), .int .i64 t312]) (ok := fun _ => True) (okp := fun _ => True) ?hr ?hp (fun _ hk => hk) trivial (Below.refl _ _) (Nat.le_refl _) (by simp) ?_; (case hd => rfl); (case hg => rfl); (case hr => first | (go_simp; done) | (go_simp; rfl)); (case hp => exact (Reps.one (show Kd.M (Kd.int .i64) _ _ _ a4 [.int .i64 a4] from rfl) (Reps.one (show Kd.M (Kd.int .i64) _ _ _ (wrap64 (3 * a4)) [.int .i64 (wrap64 (3 * a4))] from rfl) (Reps.one (show Kd.M (Kd.int .i64) _ _ _ t312 [.int .i64 t312] from rfl) (Reps.none _ _)))))
     intro v315 w34 ho35 hb hg_ hnew_
     clear hg_ hnew_
     (first | rw [← Ny314.out] at ho35 | (simp only [Int.reduceToNat] at ho35; rw [← Ny314.out] at ho35))
     replace HO_310003 := Aside0.mk (Kd.R_below (Kd.R_x HO_310003.out) hb)
     have HO316 := Aside0.mk (Kd.R_lower ho35 (keep_size (w := w) (g := g) (row := none) (by exact keep_y HK.out)))
     replace BK295 := Aside0.mk (blk_below (blk_x BK295.out) hb)
     replace BK309 := Aside0.mk (blk_below (blk_x BK309.out) hb)
     replace HI0 := Aside0.mk (IsS90.below (by exact IsS90.up HI0.out) hb)
     replace HK := Aside0.mk (KeepBut.trans (by exact keep_y HK.out) (KeepBut.of_below hb g none) (.inl rfl))
     replace HB := bl_x HB hb
     clear hb ho35
     obtain ⟨Ao36, co36, eo36⟩ := Kd.R_slice HO316.out
     (first | subst eo36 | (injection eo36 with f1_ f2_ f3_; have f4_ := f1_.symm; have f5_ := f3_.symm; clear f1_ f2_ f3_; subst f4_; subst f5_))
     refine hK.out _ _ ⟨(blk_cell BK309.out 0).trans rfl, (blk_cell BK309.out 1).trans rfl, (blk_cell BK309.out 2).trans rfl, (blk_cell BK309.out 3).trans rfl, (blk_cell BK309.out 4).trans rfl, (blk_cell BK309.out 5).trans rfl, (blk_cell BK309.out 6).trans rfl⟩ (fun hHeld => ?_)
     clear hK K
     refine norm_ (a' := ?_) ?_ ?_; rotate_left; (show Act.put _ (some 47) _ = _; simp only [Act.put, put_x, i64_w, i32_w]; rfl)
     refine one_ (i := 11) (N := some 48) (bz 21 24575) rfl rfl (one_of HT_.out (by kernel_rfl)) (by decide) (fun K hK => ?_)
     refine goes_ Try.func18 (by kernel_rfl) rfl #[.pointer (some ⟨g, 0, none⟩), .slice Ao36 y314.length co36] (by rfl) rfl rfl (by (try simp only [List.map_toArray, List.map_cons, List.map_nil]); first | done | rfl | (simp only [List.length_drop, List.length_take]; rfl)) ?_
     with_reducible refine (swarfkit_Feed_Either.calls g t313 _ _ y314 t317 t318 w0 _ ?side1 ?side2 ?side3 ?side4 ?side5 A28.out).mono ?_
     (case side1 => exact IsS90.up HI0.out)
     (case side2 => exact below_y HB.out)
     (case side3 => exact Kd.C_y (Kd.R_reads' HO316.out).2.2)
     (case side4 => exact (Kd.R_reads' HO316.out).2.1)
     (case side5 => exact far_slice (IsS90.own_ne HI0.out HO316.out (by decide)))
     rintro e w37 ⟨rfl, hi, hb, hk⟩
     refine ⟨_, rfl, ?_⟩
     replace HO_310003 := Aside0.mk (Kd.R_mono (Kd.R_keep (IsS90.apart (show IsS90 w0 _ g t313 from by exact IsS90.up HI0.out) (Kd.R_x HO_310003.out) (by decide)) hk (fun _ h => h.2)) (fun _ h => h.1))
     replace BK295 := Aside0.mk (KeepBut.blk hk (blk_x BK295.out) NB295_0.out (by simp))
     replace BK309 := Aside0.mk (KeepBut.blk hk (blk_x BK309.out) NB309_0.out (by simp))
     replace HO316 := Aside0.mk (Kd.R_mono (Kd.R_keep (IsS90.apart (show IsS90 w0 _ g t313 from by exact IsS90.up HI0.out) (Kd.R_x HO316.out) (by decide)) hk (fun _ h => h.2)) (fun _ h => h.1))
     replace HK := Aside0.mk (KeepBut.trans (by exact keep_y HK.out) hk (.inl rfl))
     replace HB := Aside0.mk (hb)
     replace HI0 := Aside0.mk (hi)
     (try clear hb)
     (try clear hb2)
     (try clear hk)
     (try clear hi)
     refine hK.out _ _ ⟨(blk_cell BK309.out 0).trans rfl, (blk_cell BK309.out 1).trans rfl, (blk_cell BK309.out 2).trans rfl, (blk_cell BK309.out 3).trans rfl, (blk_cell BK309.out 4).trans rfl, (blk_cell BK309.out 5).trans rfl, (blk_cell BK309.out 6).trans rfl⟩ (fun hHeld => ?_)
     clear hK K
     refine norm_ (a' := ?_) ?_ ?_; rotate_left; (show Act.put _ (some 48) _ = _; simp only [Act.put, put_x, i64_w, i32_w]; rfl)
     refine one_ (i := 13) (N := some 50) (bz 21 32767) rfl rfl (one_of HT_.out (by kernel_rfl)) (by decide) (fun K hK => ?_)
     refine goes_ Try.func33 (by kernel_rfl) rfl #[.pointer (some ⟨g, 0, none⟩), .int .i64 1500] (by rfl) rfl rfl (by (try simp only [List.map_toArray, List.map_cons, List.map_nil]); first | done | rfl | (simp only [List.length_drop, List.length_take]; rfl)) ?_
     with_reducible refine (swarfkit_Feed_Below.calls g t318 1500 t319 t320 w0 _ ?side1 ?side2 A29.out).mono ?_
     (case side1 => exact IsS90.up HI0.out)
     (case side2 => exact below_y HB.out)
     rintro e w38 ⟨rfl, hi, hb, hk⟩
     refine ⟨_, rfl, ?_⟩
     replace HO_310003 := Aside0.mk (Kd.R_mono (Kd.R_keep (IsS90.apart (show IsS90 w0 _ g t318 from by exact IsS90.up HI0.out) (Kd.R_x HO_310003.out) (by decide)) hk (fun _ h => h.2)) (fun _ h => h.1))
     replace BK295 := Aside0.mk (KeepBut.blk hk (blk_x BK295.out) NB295_0.out (by simp))
     replace BK309 := Aside0.mk (KeepBut.blk hk (blk_x BK309.out) NB309_0.out (by simp))
     replace HO316 := Aside0.mk (Kd.R_mono (Kd.R_keep (IsS90.apart (show IsS90 w0 _ g t318 from by exact IsS90.up HI0.out) (Kd.R_x HO316.out) (by decide)) hk (fun _ h => h.2)) (fun _ h => h.1))
     replace HK := Aside0.mk (KeepBut.trans (by exact keep_y HK.out) hk (.inl rfl))
     replace HB := Aside0.mk (hb)
     replace HI0 := Aside0.mk (hi)
     (try clear hb)
     (try clear hb2)
     (try clear hk)
     (try clear hi)
     refine hK.out _ _ ⟨(blk_cell BK309.out 0).trans rfl, (blk_cell BK309.out 1).trans rfl, (blk_cell BK309.out 2).trans rfl, (blk_cell BK309.out 3).trans rfl, (blk_cell BK309.out 4).trans rfl, (blk_cell BK309.out 5).trans rfl, (blk_cell BK309.out 6).trans rfl⟩ (fun hHeld => ?_)
     clear hK K
     refine norm_ (a' := ?_) ?_ ?_; rotate_left; (show Act.put _ (some 50) _ = _; simp only [Act.put, put_x, i64_w, i32_w]; rfl)
     refine one_ (i := 15) (N := some 52) (bz 21 65535) rfl rfl (one_of HT_.out (by kernel_rfl)) (by decide) (fun K hK => ?_)
     refine goes_ Try.func33 (by kernel_rfl) rfl #[.pointer (some ⟨g, 0, none⟩), .int .i64 1500] (by rfl) rfl rfl (by (try simp only [List.map_toArray, List.map_cons, List.map_nil]); first | done | rfl | (simp only [List.length_drop, List.length_take]; rfl)) ?_
     with_reducible refine (swarfkit_Feed_Below.calls g t320 1500 t321 t322 w0 _ ?side1 ?side2 A30.out).mono ?_
     (case side1 => exact IsS90.up HI0.out)
     (case side2 => exact below_y HB.out)
     rintro e w39 ⟨rfl, hi, hb, hk⟩
     refine ⟨_, rfl, ?_⟩
     replace HO_310003 := Aside0.mk (Kd.R_mono (Kd.R_keep (IsS90.apart (show IsS90 w0 _ g t320 from by exact IsS90.up HI0.out) (Kd.R_x HO_310003.out) (by decide)) hk (fun _ h => h.2)) (fun _ h => h.1))
     replace BK295 := Aside0.mk (KeepBut.blk hk (blk_x BK295.out) NB295_0.out (by simp))
     replace BK309 := Aside0.mk (KeepBut.blk hk (blk_x BK309.out) NB309_0.out (by simp))
     replace HO316 := Aside0.mk (Kd.R_mono (Kd.R_keep (IsS90.apart (show IsS90 w0 _ g t320 from by exact IsS90.up HI0.out) (Kd.R_x HO316.out) (by decide)) hk (fun _ h => h.2)) (fun _ h => h.1))
     replace HK := Aside0.mk (KeepBut.trans (by exact keep_y HK.out) hk (.inl rfl))
     replace HB := Aside0.mk (hb)
     replace HI0 := Aside0.mk (hi)
     (try clear hb)
     (try clear hb2)
     (try clear hk)
     (try clear hi)
     refine hK.out _ _ ⟨(blk_cell BK309.out 0).trans rfl, (blk_cell BK309.out 1).trans rfl, (blk_cell BK309.out 2).trans rfl, (blk_cell BK309.out 3).trans rfl, (blk_cell BK309.out 4).trans rfl, (blk_cell BK309.out 5).trans rfl, (blk_cell BK309.out 6).trans rfl⟩ (fun hHeld => ?_)
     clear hK K
     refine norm_ (a' := ?_) ?_ ?_; rotate_left; (show Act.put _ (some 52) _ = _; simp only [Act.put, put_x, i64_w, i32_w]; rfl)
     refine pure_t 16 (some 53) (bz 21 131071) HT_ ?_
     refine one_ (i := 17) (N := some 54) (bz 21 262143) rfl rfl (one_of HT_.out (by kernel_rfl)) (by decide) (fun K hK => ?_)
     refine value_ (w1 := ?_) (v := ?_) (by rfl) rfl ?_ ?_
     rotate_left 2
     ·
      go_simp
      constructor
      ·
       rfl
      ·
       rfl
     refine hK.out _ _ ⟨(blk_cell (blk_alloc BK309.out _) 0).trans rfl, (blk_cell (blk_alloc BK309.out _) 1).trans rfl, (blk_cell (blk_alloc BK309.out _) 2).trans rfl, (blk_cell (blk_alloc BK309.out _) 3).trans rfl, (blk_cell (blk_alloc BK309.out _) 4).trans rfl, (blk_cell (blk_alloc BK309.out _) 5).trans rfl, (blk_cell (blk_alloc BK309.out _) 6).trans rfl⟩ (fun hHeld => ?_)
     clear hK K
     refine norm_ (a' := ?_) ?_ ?_; rotate_left; (show Act.put _ (some 54) _ = _; simp only [Act.put, put_x, i64_w, i32_w]; rfl)
     refine one_ (i := 18) (N := some 55) (bz 21 524287) rfl rfl (one_of HT_.out (by kernel_rfl)) (by decide) (fun K hK => ?_)
     refine Kd.R_append_step k85 w.heap.size (by rfl) (.tmp 38) (.tmp 54) 22 85 (.agg #[(.int .i64 0), (.int .i64 0), (.int .i64 0)]) 24 rfl Try.underlying22 info85 rfl (by decide) (by omega) u310003 x310003_1 (⟨t317, t319, t321⟩ : S85) [.int .i64 t317, .int .i64 t319, .int .i64 t321] (fun _ => True) (fun _ => False) rfl rfl ?aP (fun _ hk => hk.elim) ?aF ?aO (Below.refl _ _) ?aS ?aL ?_
     (case aP => exact k85_mkM _ _ _ (⟨t317, t319, t321⟩ : S85))
     (case aF => exact (fun _ _ => trivial))
     (case aO => exact (Kd.R_x HO_310003.out))
     (case aS => exact (keep_size (w := w) (g := g) (row := none) (by exact keep_y HK.out)))
     (case aL => have := LMc31.out; omega)
     intro v324 w40 ho hb hg hat
     rw [← Ny323.out] at ho
     replace BK295 := Aside0.mk (blk_grown (blk_x BK295.out) hg (Kd.R_ne HO_310003.out BK295.out (by decide)))
     replace BK309 := Aside0.mk (blk_grown (blk_x BK309.out) hg (Kd.R_ne HO_310003.out BK309.out (by decide)))
     replace HI0 := Aside0.mk (IsS90.grown (by exact IsS90.up HI0.out) hg (IsS90.own_ne HI0.out HO_310003.out (by decide)))
     replace HO316 := Aside0.mk (Kd.R_over' (Kd.R_x HO316.out) (Kd.R_typed (Kd.R_x HO_310003.out)) (by decide) hg)
     replace HB := Aside0.mk (below_weaken (by exact below_y HB.out) HL.out hb)
     replace HK := Aside0.mk (KeepBut.trans (by exact keep_y HK.out) (KeepBut.of_grown hg g) (Kd.R_base2 HO_310003.out))
     have HO325 := Aside0.mk (ho)
     clear HO_310003 ho hb hg hat
     obtain ⟨Ao41, co41, eo41⟩ := Kd.R_slice HO325.out
     (first | subst eo41 | (injection eo41 with f1_ f2_ f3_; have f4_ := f1_.symm; have f5_ := f3_.symm; clear f1_ f2_ f3_; subst f4_; subst f5_))
     refine hK.out _ _ ⟨(blk_cell BK309.out 0).trans rfl, (blk_cell BK309.out 1).trans rfl, (blk_cell BK309.out 2).trans rfl, (blk_cell BK309.out 3).trans rfl, (blk_cell BK309.out 4).trans rfl, (blk_cell BK309.out 5).trans rfl, (blk_cell BK309.out 6).trans rfl⟩ (fun hHeld => ?_)
     clear hK K
     refine norm_ (a' := ?_) ?_ ?_; rotate_left; (show Act.put _ (some 55) _ = _; simp only [Act.put, put_x, i64_w, i32_w]; rfl)
     refine pure_t 19 (some 56) (bz 21 1048575) HT_ ?_
     refine last_ (i := 20) (N := none) (bz 21 2097151) rfl rfl (one_of HT_.out (by kernel_rfl)) (by decide) (fun K hK => ?_)
     have hs42 : w40.cell? ⟨gb309, 3, none⟩ = some (u310003) := (blk_cell BK309.out 3).trans rfl
     have hfs42 := blk_frozen BK309.out 3
     have hns42_0 := NB295_309.out
     have hms42_0 := NB309_295.out
     refine skip_ (w1 := ?_) (by rfl) rfl ?_ ?_
     rotate_left
     ·
      go_simp
      rfl
     refine hK.out _ _ ?_
     clear hK K
     refine done_ (done_of HT_.out (by kernel_rfl)) ?_
     try go_wp2
     go_roundg k1
     case measure => have := HK1.out; omega
     case rel => exact ⟨(wrap64 (x12_1 - 1)), (t322), (y323), (.slice Ao41 y323.length co41), (by first | rfl | (simp; done) | (simp [*]; done)), H', ⟨by have := HK1.out; omega⟩, ⟨by (with_reducible repeat (first | apply Kd.R_alloc | apply Kd.R_drewN | apply Kd.R_drew)); exact Kd.R_mono (Kd.R_far (p := ⟨gb309, 3, none⟩) (Kd.R_types HO325.out BK309.out (by decide)) (fun _ hk => hk.2) (.slice Ao41 y323.length co41)) (fun _ hk => trivial)⟩, ⟨blk_w BK295.out⟩, ⟨by (with_reducible repeat (first | refine blk_drewN ?_ _ | refine blk_drew ?_ | refine blk_alloc ?_ _)); refine blk_put (cs := #[.int .i64 t296, .int .i64 t298, .int .i64 t305, u310003, .int .i64 t307, .slice none 0 0, .slice none 0 0]) ?_ 3 _ rfl; (with_reducible repeat (first | refine blk_drewN ?_ _ | refine blk_drew ?_ | refine blk_alloc ?_ _)); exact BK309.out⟩, ⟨by exact IsS90.up HI0.out⟩, ⟨by exact keep_y HK.out⟩, ⟨by exact below_y HB.out⟩⟩
    ·
     rw [if_neg c31] at H
     exact absurd H (by simp)
   ·
    rw [if_neg c26] at H
    have c26b0 : decide (0 < x12_1) = false := decide_eq_false c26
    clear c26
    replace H := Option.bind_eq_some_iff.mp H
    obtain ⟨⟨t326, t327⟩, A430, H⟩ := H
    try dsimp only at H
    have A43 := Aside0.mk A430
    clear A430
    have H' := Aside0.mk H
    clear H
    go_wp2_with (first | ((with_reducible refine gate_callee (f := 33) rfl ?_); refine goesL_ (some 60) rfl rfl Try.func33 (by kernel_rfl) rfl #[.pointer (some ⟨g, 0, none⟩), .int .i64 (wrap64 (a2 + 1))] rfl (by (try simp only [List.map_toArray, List.map_cons, List.map_nil]); first | done | rfl | (simp only [List.length_drop, List.length_take]; rfl)) ?_; (with_reducible refine (swarfkit_Feed_Below.calls g x1000_1 (wrap64 (a2 + 1)) t326 t327 w0 _ ?side1 ?side2 A43.out).mono ?_); (case side1 => exact IsS90.up HI0.out); (case side2 => exact below_y HB.out); rintro e w44 ⟨rfl, hi, hb, hk⟩; refine ⟨_, rfl, ?_⟩; replace HO_310003 := Aside0.mk (Kd.R_mono (Kd.R_keep (IsS90.apart (show IsS90 w0 _ g x1000_1 from by exact IsS90.up HI0.out) (Kd.R_x HO_310003.out) (by decide)) hk (fun _ h => h.2)) (fun _ h => h.1)); replace BK295 := Aside0.mk (KeepBut.blk hk (blk_x BK295.out) NB295_0.out (by simp)); replace BK309 := Aside0.mk (KeepBut.blk hk (blk_x BK309.out) NB309_0.out (by simp)); replace HK := Aside0.mk (KeepBut.trans (by exact keep_y HK.out) hk (.inl rfl)); replace HB := Aside0.mk (hb); replace HI0 := Aside0.mk (hi); (try clear hb); (try clear hk); (try clear hi)))
    go_loopg [13] k1 (fun kq v13 w' => ∃ (x13_2 : Int) (x1000_2 : Int) (x310005_2 : List (S59)) (u310005 : Value), v13 = .int .i64 x13_2 ∧ Aside0 (swarfkit_VoyageOf.l1 kq a3 a4 x13_2 x1000_2 t296 t298 t305 x310003_1 t307 x310005_2 = some (r1, r2, r3, r4, r5, r6, r7, r8)) ∧ Aside0 (kq ≤ k1) ∧ Aside0 (Kd.R k85 85 w' w.heap.size (fun _ => True) u310003 x310003_1) ∧ Aside0 (Kd.S k59 59 w' w.heap.size (fun _ => True) u310005 x310005_2) ∧ Aside0 (w'.heap[gb295]? = some (.cells #[.int .i64 0, .int .i64 0, .int .i64 0, (.slice none 0 0), .int .i64 0, (.slice none 0 0), (.slice none 0 0)] 26 (0, 0))) ∧ Aside0 (w'.heap[gb309]? = some (.cells #[.int .i64 t296, .int .i64 t298, .int .i64 t305, u310003, .int .i64 t307, u310005, (.slice none 0 0)] 26 (0, 0))) ∧ Aside0 (IsS90 w0 w' g x1000_2) ∧ Aside0 (KeepBut w w' g none) ∧ Aside0 (Below w0.heap.size w0 w'))
    case atStart => exact ⟨(t326), (t327), (([] : List (S59))), (.slice none 0 0), (by first | rfl | (simp; done) | (simp [*]; done)), H', ⟨Nat.le_refl _⟩, ⟨by (with_reducible repeat (first | apply Kd.R_alloc | apply Kd.R_drewN | apply Kd.R_drew)); exact HO_310003.out⟩, ⟨by first | exact Kd.S_nil _ _ _ _ _ | exact Kd.N_nil _ _ _ _ _ | exact Kd.V_nil _ _ _ _ _ | exact Kd.Q_nil _ _ _ _ _ | exact Kd.R_nil _ _ _ _ _⟩, ⟨blk_x BK295.out⟩, ⟨blk_x BK309.out⟩, ⟨by exact IsS90.up HI0.out⟩, ⟨by exact keep_y HK.out⟩, ⟨by exact below_y HB.out⟩⟩
    case round =>
     clear H'
     obtain ⟨x13_2, x1000_2, x310005_2, u310005, rfl, HA, HK2, HO_310003, HO_310005, BK295, BK309, HI0, HK, HB⟩ := hrel
     cases gk with
     | zero => exact absurd HA.out (by simp [swarfkit_VoyageOf.l1])
     | succ k2 =>
      have H := HA.out
      clear HA
      simp only [swarfkit_VoyageOf.l1] at H
      by_cases c45 : x13_2 > 0
      ·
       rw [if_pos c45] at H
       have c45b0 : decide (0 < x13_2) = true := decide_eq_true c45
       clear c45
       obtain ⟨y328, hy328⟩ : ∃ y_ : List Int, y_ = (([3, 12] : List Int)) := ⟨_, rfl⟩
       replace H : ((swarfkit_Feed_Either.f x1000_2 y328).bind fun bt331 => ((swarfkit_Feed_Range.f bt331.2 0 bt331.1).bind fun bt333 => ((swarfkit_Feed_Between.f bt333.2.2 1 4).bind fun bt337 => (swarfkit_VoyageOf.l2 k2 a3 a4 x13_2 0 bt337.1 bt337.2 t296 t298 t305 x310003_1 t307 x310005_2 bt333.1 bt333.2.1 ([] : List (S62)))))) = some (r1, r2, r3, r4, r5, r6, r7, r8) := by first | (rw [hy328]; with_reducible exact H) | (have H2_ := (Option.bind_some _ _).symm.trans H; rw [hy328]; with_reducible exact H2_) | (have H2_ := (Option.bind_some _ _).symm.trans H; with_reducible exact H2_) | with_reducible exact H | (rw [hy328]; exact H) | exact H
       have Ny328 := Aside0.mk hy328
       clear hy328
       replace H := Option.bind_eq_some_iff.mp H
       obtain ⟨⟨t331, t332⟩, A460, H⟩ := H
       try dsimp only at H
       have A46 := Aside0.mk A460
       clear A460
       replace H := Option.bind_eq_some_iff.mp H
       obtain ⟨⟨t333, t334, t335⟩, A470, H⟩ := H
       try dsimp only at H
       have A47 := Aside0.mk A470
       clear A470
       replace H := Option.bind_eq_some_iff.mp H
       obtain ⟨⟨t337, t338⟩, A480, H⟩ := H
       try dsimp only at H
       have A48 := Aside0.mk A480
       clear A480
       have H' := Aside0.mk H
       clear H
       go_wp2_with (first | ((with_reducible refine gate_dst (N := 67) rfl ?_); refine Kd.R_lit (Kd.int .i64) _ 3 ?hg (N := 67) ?hd (xs := ([3, 12] : List Int)) (inner := [.int .i64 3, .int .i64 12]) (ok := fun _ => True) (okp := fun _ => True) ?hr ?hp (fun _ hk => hk) trivial (Below.refl _ _) (Nat.le_refl _) (by simp) ?_; (case hd => rfl); (case hg => rfl); (case hr => first | (go_simp; done) | (go_simp; rfl)); (case hp => exact (Reps.one (show Kd.M (Kd.int .i64) _ _ _ 3 [.int .i64 3] from rfl) (Reps.one (show Kd.M (Kd.int .i64) _ _ _ 12 [.int .i64 12] from rfl) (Reps.none _ _)))); intro v329 w49 ho50 hb hg_ hnew_; clear hg_ hnew_; (first | rw [← Ny328.out] at ho50 | (simp only [Int.reduceToNat] at ho50; rw [← Ny328.out] at ho50)); replace HO_310003 := Aside0.mk (Kd.R_below (Kd.R_x HO_310003.out) hb); replace HO_310005 := Aside0.mk (Kd.S_below (Kd.S_x HO_310005.out) hb); have HO330 := Aside0.mk (Kd.R_lower ho50 (keep_size (w := w) (g := g) (row := none) (by exact keep_y HK.out))); replace BK295 := Aside0.mk (blk_below (blk_x BK295.out) hb); replace BK309 := Aside0.mk (blk_below (blk_x BK309.out) hb); replace HI0 := Aside0.mk (IsS90.below (by exact IsS90.up HI0.out) hb); replace HK := Aside0.mk (KeepBut.trans (by exact keep_y HK.out) (KeepBut.of_below hb g none) (.inl rfl)); replace HB := bl_x HB hb; clear hb ho50; obtain ⟨Ao51, co51, eo51⟩ := Kd.R_slice HO330.out; subst eo51) | ((with_reducible refine gate_callee (f := 18) rfl ?_); refine goesL_ (some 68) rfl rfl Try.func18 (by kernel_rfl) rfl #[.pointer (some ⟨g, 0, none⟩), .slice Ao51 y328.length co51] rfl (by (try simp only [List.map_toArray, List.map_cons, List.map_nil]); first | done | rfl | (simp only [List.length_drop, List.length_take]; rfl)) ?_; (with_reducible refine (swarfkit_Feed_Either.calls g x1000_2 _ _ y328 t331 t332 w0 _ ?side1 ?side2 ?side3 ?side4 ?side5 A46.out).mono ?_); (case side1 => exact IsS90.up HI0.out); (case side2 => exact below_y HB.out); (case side3 => exact Kd.C_y (Kd.R_reads' HO330.out).2.2); (case side4 => exact (Kd.R_reads' HO330.out).2.1); (case side5 => exact far_slice (IsS90.own_ne HI0.out HO330.out (by decide))); rintro e w52 ⟨rfl, hi, hb, hk⟩; refine ⟨_, rfl, ?_⟩; replace HO_310003 := Aside0.mk (Kd.R_mono (Kd.R_keep (IsS90.apart (show IsS90 w0 _ g x1000_2 from by exact IsS90.up HI0.out) (Kd.R_x HO_310003.out) (by decide)) hk (fun _ h => h.2)) (fun _ h => h.1)); replace HO_310005 := Aside0.mk (Kd.S_mono (Kd.S_keep (IsS90.apartS (show IsS90 w0 _ g x1000_2 from by exact IsS90.up HI0.out) (Kd.S_x HO_310005.out) (by decide)) hk (fun _ h => h.2)) (fun _ h => h.1)); replace BK295 := Aside0.mk (KeepBut.blk hk (blk_x BK295.out) NB295_0.out (by simp)); replace BK309 := Aside0.mk (KeepBut.blk hk (blk_x BK309.out) NB309_0.out (by simp)); replace HO330 := Aside0.mk (Kd.R_mono (Kd.R_keep (IsS90.apart (show IsS90 w0 _ g x1000_2 from by exact IsS90.up HI0.out) (Kd.R_x HO330.out) (by decide)) hk (fun _ h => h.2)) (fun _ h => h.1)); replace HK := Aside0.mk (KeepBut.trans (by exact keep_y HK.out) hk (.inl rfl)); replace HB := Aside0.mk (hb); replace HI0 := Aside0.mk (hi); (try clear hb); (try clear hk); (try clear hi)) | ((with_reducible refine gate_callee (f := 54) rfl ?_); refine goesL_ (some 69) rfl rfl Try.func54 (by kernel_rfl) rfl #[.pointer (some ⟨g, 0, none⟩), .int .i64 0, .int .i64 t331] rfl (by (try simp only [List.map_toArray, List.map_cons, List.map_nil]); first | done | rfl | (simp only [List.length_drop, List.length_take]; rfl)) ?_; (with_reducible refine (swarfkit_Feed_Range.calls g t332 0 t331 t333 t334 t335 w0 _ ?side1 ?side2 A47.out).mono ?_); (case side1 => exact IsS90.up HI0.out); (case side2 => exact below_y HB.out); rintro e w53 ⟨rfl, hi, hb, hk⟩; refine ⟨_, rfl, ?_⟩; replace HO_310003 := Aside0.mk (Kd.R_mono (Kd.R_keep (IsS90.apart (show IsS90 w0 _ g t332 from by exact IsS90.up HI0.out) (Kd.R_x HO_310003.out) (by decide)) hk (fun _ h => h.2)) (fun _ h => h.1)); replace HO_310005 := Aside0.mk (Kd.S_mono (Kd.S_keep (IsS90.apartS (show IsS90 w0 _ g t332 from by exact IsS90.up HI0.out) (Kd.S_x HO_310005.out) (by decide)) hk (fun _ h => h.2)) (fun _ h => h.1)); replace BK295 := Aside0.mk (KeepBut.blk hk (blk_x BK295.out) NB295_0.out (by simp)); replace BK309 := Aside0.mk (KeepBut.blk hk (blk_x BK309.out) NB309_0.out (by simp)); replace HO330 := Aside0.mk (Kd.R_mono (Kd.R_keep (IsS90.apart (show IsS90 w0 _ g t332 from by exact IsS90.up HI0.out) (Kd.R_x HO330.out) (by decide)) hk (fun _ h => h.2)) (fun _ h => h.1)); replace HK := Aside0.mk (KeepBut.trans (by exact keep_y HK.out) hk (.inl rfl)); replace HB := Aside0.mk (hb); replace HI0 := Aside0.mk (hi); (try clear hb); (try clear hk); (try clear hi)) | ((with_reducible refine gate_dst (N := 14) rfl ?_); refine box_event ?hg (N := 14) ?hd (cs := #[.int .i64 0, .int .i64 0, .slice none 0 0]) (t := 59) ?hr ?_; (case hd => rfl); (case hg => rfl); (case hr => first | (go_simp; done) | (go_simp; rfl)); intro gb336 hg w54 hbox hb; replace HO_310003 := Aside0.mk (Kd.R_below (Kd.R_x HO_310003.out) hb); replace HO_310005 := Aside0.mk (Kd.S_below (Kd.S_elderB (Kd.S_x HO_310005.out) gb336 (Nat.le_of_eq hg.symm)) hb); replace HO330 := Aside0.mk (Kd.R_below (Kd.R_x HO330.out) hb); replace HB := bl_x HB hb; have BK336 := Aside0.mk (hbox); have GW336 := Aside0.mk ((by rw [hg]; exact (keep_size (w := w) (g := g) (row := none) (by exact keep_y HK.out)) : w.heap.size ≤ gb336)); have GE336 := Aside0.mk ((Nat.le_trans HW0.out (by rw [hg]; exact (keep_size (w := w) (g := g) (row := none) (by exact keep_y HK.out)) : w.heap.size ≤ gb336) : w0.heap.size ≤ gb336)); replace HK := Aside0.mk (KeepBut.trans (by exact keep_y HK.out) (KeepBut.of_below hb g none) (.inl rfl)); have NB295_336 := Aside0.mk ((by rw [hg]; exact Nat.ne_of_lt (blk_lt (g := gb295) (o := .cells #[.int .i64 0, .int .i64 0, .int .i64 0, .slice none 0 0, .int .i64 0, .slice none 0 0, .slice none 0 0] 26 (0, 0)) (blk_x BK295.out)) : gb295 ≠ gb336)); have NB336_295 := Aside0.mk ((by rw [hg]; exact Nat.ne_of_gt (blk_lt (g := gb295) (o := .cells #[.int .i64 0, .int .i64 0, .int .i64 0, .slice none 0 0, .int .i64 0, .slice none 0 0, .slice none 0 0] 26 (0, 0)) (blk_x BK295.out)) : gb336 ≠ gb295)); replace BK295 := Aside0.mk (blk_below (blk_x BK295.out) hb); have NB309_336 := Aside0.mk ((by rw [hg]; exact Nat.ne_of_lt (blk_lt (g := gb309) (o := .cells #[.int .i64 t296, .int .i64 t298, .int .i64 t305, u310003, .int .i64 t307, u310005, .slice none 0 0] 26 (0, 0)) (blk_x BK309.out)) : gb309 ≠ gb336)); have NB336_309 := Aside0.mk ((by rw [hg]; exact Nat.ne_of_gt (blk_lt (g := gb309) (o := .cells #[.int .i64 t296, .int .i64 t298, .int .i64 t305, u310003, .int .i64 t307, u310005, .slice none 0 0] 26 (0, 0)) (blk_x BK309.out)) : gb336 ≠ gb309)); replace BK309 := Aside0.mk (blk_below (blk_x BK309.out) hb); have NB0_336 := Aside0.mk ((by rw [hg]; exact Nat.ne_of_lt (IsS90.lt (show IsS90 w0 _ g t335 from by exact IsS90.up HI0.out)) : g ≠ gb336)); have NB336_0 := Aside0.mk ((by rw [hg]; exact Nat.ne_of_gt (IsS90.lt (show IsS90 w0 _ g t335 from by exact IsS90.up HI0.out)) : gb336 ≠ g)); replace HI0 := Aside0.mk (IsS90.below (by exact IsS90.up HI0.out) hb); clear hb hbox hg; have hnb55 := NB336_295.out; have hnc55 := NB295_336.out; have hnb56 := NB336_309.out; have hnc56 := NB309_336.out; have hnb57 := NB336_0.out; have hnc57 := NB0_336.out; obtain ⟨_, _, _⟩ := cz3 BK336; have hfz58_0 := blk_frozen BK336.out) | ((with_reducible refine gate_callee (f := 31) rfl ?_); refine goesL_ (some 72) rfl rfl Try.func31 (by kernel_rfl) rfl #[.pointer (some ⟨g, 0, none⟩), .int .i64 1, .int .i64 4] rfl (by (try simp only [List.map_toArray, List.map_cons, List.map_nil]); first | done | rfl | (simp only [List.length_drop, List.length_take]; rfl)) ?_; (with_reducible refine (swarfkit_Feed_Between.calls g t335 1 4 t337 t338 w0 _ ?side1 ?side2 A48.out).mono ?_); (case side1 => exact IsS90.up HI0.out); (case side2 => exact below_y HB.out); rintro e w59 ⟨rfl, hi, hb, hk⟩; refine ⟨_, rfl, ?_⟩; replace HO_310003 := Aside0.mk (Kd.R_mono (Kd.R_keep (IsS90.apart (show IsS90 w0 _ g t335 from by exact IsS90.up HI0.out) (by (with_reducible repeat (first | apply Kd.R_alloc | apply Kd.R_drewN | apply Kd.R_drew)); exact (Kd.R_mono (Kd.R_far (p := ⟨gb336, 2, none⟩) (Kd.R_far (p := ⟨gb336, 1, none⟩) (Kd.R_far (p := ⟨gb336, 0, none⟩) (Kd.R_types HO_310003.out BK336.out (by decide)) (fun _ hk => hk.2) (.int .i64 t333)) (fun _ hk => hk.2) (.int .i64 t334)) (fun _ hk => hk.2) (.slice none 0 0)) (fun _ h_ => h_.1))) (by decide)) hk (fun _ h => h.2)) (fun _ h => h.1)); replace HO_310005 := Aside0.mk (Kd.S_mono (Kd.S_keep (IsS90.apartS (show IsS90 w0 _ g t335 from by exact IsS90.up HI0.out) (by (with_reducible repeat (first | apply Kd.S_alloc | apply Kd.S_drewN | apply Kd.S_drew)); exact (Kd.S_mono (Kd.S_far (p := ⟨gb336, 2, none⟩) (Kd.S_far (p := ⟨gb336, 1, none⟩) (Kd.S_far (p := ⟨gb336, 0, none⟩) (Kd.S_mono HO_310005.out (fun k_ hk => (⟨hk, hk.2⟩ : _ ∧ k_ ≠ gb336))) (fun _ hk => hk.2) (.int .i64 t333)) (fun _ hk => hk.2) (.int .i64 t334)) (fun _ hk => hk.2) (.slice none 0 0)) (fun _ h_ => h_.1))) (by decide)) hk (fun _ h => h.2)) (fun _ h => h.1)); replace BK295 := Aside0.mk (KeepBut.blk hk (g' := gb295) (o := .cells #[.int .i64 0, .int .i64 0, .int .i64 0, .slice none 0 0, .int .i64 0, .slice none 0 0, .slice none 0 0] 26 (0, 0)) (blk_w BK295.out) NB295_0.out (by simp)); replace BK309 := Aside0.mk (KeepBut.blk hk (g' := gb309) (o := .cells #[.int .i64 t296, .int .i64 t298, .int .i64 t305, u310003, .int .i64 t307, u310005, .slice none 0 0] 26 (0, 0)) (blk_w BK309.out) NB309_0.out (by simp)); replace HO330 := Aside0.mk (Kd.R_mono (Kd.R_keep (IsS90.apart (show IsS90 w0 _ g t335 from by exact IsS90.up HI0.out) (by (with_reducible repeat (first | apply Kd.R_alloc | apply Kd.R_drewN | apply Kd.R_drew)); exact (Kd.R_mono (Kd.R_far (p := ⟨gb336, 2, none⟩) (Kd.R_far (p := ⟨gb336, 1, none⟩) (Kd.R_far (p := ⟨gb336, 0, none⟩) (Kd.R_types HO330.out BK336.out (by decide)) (fun _ hk => hk.2) (.int .i64 t333)) (fun _ hk => hk.2) (.int .i64 t334)) (fun _ hk => hk.2) (.slice none 0 0)) (fun _ h_ => h_.1))) (by decide)) hk (fun _ h => h.2)) (fun _ h => h.1)); replace BK336 := Aside0.mk (KeepBut.blk hk (g' := gb336) (o := .cells #[.int .i64 t333, .int .i64 t334, .slice none 0 0] 59 (0, 0)) (by (with_reducible repeat (first | refine blk_drewN ?_ _ | refine blk_drew ?_ | refine blk_alloc ?_ _)); refine blk_put (cs := #[.int .i64 t333, .int .i64 t334, .slice none 0 0]) ?_ 2 _ rfl; (with_reducible repeat (first | refine blk_drewN ?_ _ | refine blk_drew ?_ | refine blk_alloc ?_ _)); refine blk_put (cs := #[.int .i64 t333, .int .i64 0, .slice none 0 0]) ?_ 1 _ rfl; (with_reducible repeat (first | refine blk_drewN ?_ _ | refine blk_drew ?_ | refine blk_alloc ?_ _)); refine blk_put (cs := #[.int .i64 0, .int .i64 0, .slice none 0 0]) ?_ 0 _ rfl; (with_reducible repeat (first | refine blk_drewN ?_ _ | refine blk_drew ?_ | refine blk_alloc ?_ _)); exact BK336.out) NB336_0.out (by simp)); replace HK := Aside0.mk (KeepBut.trans (by exact keep_y HK.out) hk (.inl rfl)); replace HB := Aside0.mk (hb); replace HI0 := Aside0.mk (hi); (try clear hb); (try clear hk); (try clear hi)))
       go_loopg [15, 16] k2 (fun kq v15 v16 w' => ∃ (x15_3 : Int) (x16_3 : Int) (x1000_3 : Int) (x337002_3 : List (S62)) (u337002 : Value), v15 = .int .i64 x15_3 ∧ v16 = .int .i64 x16_3 ∧ Aside0 (swarfkit_VoyageOf.l2 kq a3 a4 x13_2 x15_3 x16_3 x1000_3 t296 t298 t305 x310003_1 t307 x310005_2 t333 t334 x337002_3 = some (r1, r2, r3, r4, r5, r6, r7, r8)) ∧ Aside0 (kq ≤ k2) ∧ Aside0 (Kd.R k85 85 w' w.heap.size (fun _ => True) u310003 x310003_1) ∧ Aside0 (Kd.S k59 59 w' w.heap.size (fun k_ => some k_ ≠ (u337002 : Value).ownBlock ∧ k_ ≠ gb336) u310005 x310005_2) ∧ Aside0 (Kd.R k62 62 w' w.heap.size (fun _ => True) u337002 x337002_3) ∧ Aside0 (w'.heap[gb295]? = some (.cells #[.int .i64 0, .int .i64 0, .int .i64 0, (.slice none 0 0), .int .i64 0, (.slice none 0 0), (.slice none 0 0)] 26 (0, 0))) ∧ Aside0 (w'.heap[gb309]? = some (.cells #[.int .i64 t296, .int .i64 t298, .int .i64 t305, u310003, .int .i64 t307, u310005, (.slice none 0 0)] 26 (0, 0))) ∧ Aside0 (w'.heap[gb336]? = some (.cells #[.int .i64 t333, .int .i64 t334, u337002] 59 (0, 0))) ∧ Aside0 (IsS90 w0 w' g x1000_3) ∧ Aside0 (KeepBut w w' g none) ∧ Aside0 (Below w0.heap.size w0 w'))
       case atStart => exact ⟨(0), (t337), (t338), (([] : List (S62))), (.slice none 0 0), (by first | rfl | (simp; done) | (simp [*]; done)), (by first | rfl | (simp; done) | (simp [*]; done)), H', ⟨Nat.le_refl _⟩, ⟨by (with_reducible repeat (first | apply Kd.R_alloc | apply Kd.R_drewN | apply Kd.R_drew)); exact HO_310003.out⟩, ⟨by (with_reducible repeat (first | apply Kd.S_alloc | apply Kd.S_drewN | apply Kd.S_drew)); exact Kd.S_mono HO_310005.out (fun _ hk => ⟨(by simp [Value.ownBlock]), hk.2⟩)⟩, ⟨by first | exact Kd.R_nil _ _ _ _ _ | exact Kd.N_nil _ _ _ _ _ | exact Kd.V_nil _ _ _ _ _ | exact Kd.Q_nil _ _ _ _ _ | exact Kd.S_nil _ _ _ _ _⟩, ⟨blk_x BK295.out⟩, ⟨blk_x BK309.out⟩, ⟨blk_x BK336.out⟩, ⟨by exact IsS90.up HI0.out⟩, ⟨by exact keep_y HK.out⟩, ⟨by exact below_y HB.out⟩⟩
       case round =>
        clear H'
        obtain ⟨x15_3, x16_3, x1000_3, x337002_3, u337002, rfl, rfl, HA, HK3, HO_310003, HO_310005, HO_337002, BK295, BK309, BK336, HI0, HK, HB⟩ := hrel
        cases gk with
        | zero => exact absurd HA.out (by simp [swarfkit_VoyageOf.l2])
        | succ k3 =>
         have H := HA.out
         clear HA
         simp only [swarfkit_VoyageOf.l2] at H
         by_cases c60 : x16_3 > 0
         ·
          rw [if_pos c60] at H
          have c60b0 : decide (0 < x16_3) = true := decide_eq_true c60
          clear c60
          replace H := Option.bind_eq_some_iff.mp H
          obtain ⟨⟨t339, t340⟩, A610, H⟩ := H
          try dsimp only at H
          have A61 := Aside0.mk A610
          clear A610
          replace H := Option.bind_eq_some_iff.mp H
          obtain ⟨⟨t341, t342, t343⟩, A620, H⟩ := H
          try dsimp only at H
          have A62 := Aside0.mk A620
          clear A620
          by_cases c63 : x337002_3.length < 5864062014805
          ·
           rw [if_pos c63] at H
           have LMc63 := Aside0.mk c63
           clear c63
           obtain ⟨y344, hy344⟩ : ∃ y_ : List (S62), y_ = (x337002_3 ++ [(⟨x15_3, (⟨t341, t342⟩ : S56)⟩ : S62)]) := ⟨_, rfl⟩
           replace H : ((swarfkit_Feed_Between.f t343 1 9).bind fun bt347 => (swarfkit_VoyageOf.l2 k3 a3 a4 x13_2 (wrap64 (x15_3 + bt347.1)) (wrap64 (x16_3 - 1)) bt347.2 t296 t298 t305 x310003_1 t307 x310005_2 t333 t334 y344)) = some (r1, r2, r3, r4, r5, r6, r7, r8) := by first | (rw [hy344]; with_reducible exact H) | (have H2_ := (Option.bind_some _ _).symm.trans H; rw [hy344]; with_reducible exact H2_) | (have H2_ := (Option.bind_some _ _).symm.trans H; with_reducible exact H2_) | with_reducible exact H | (rw [hy344]; exact H) | exact H
           have Ny344 := Aside0.mk hy344
           clear hy344
           replace H := Option.bind_eq_some_iff.mp H
           obtain ⟨⟨t347, t348⟩, A640, H⟩ := H
           try dsimp only at H
           have A64 := Aside0.mk A640
           clear A640
           have H' := Aside0.mk H
           clear H
           try go_wp2
           replace HO_310003 := Aside0.mk (Kd.R_drew HO_310003.out)
           replace HO_310005 := Aside0.mk (Kd.S_drew HO_310005.out)
           replace HO_337002 := Aside0.mk (Kd.R_drew HO_337002.out)
           replace BK295 := Aside0.mk (blk_drew BK295.out)
           replace BK309 := Aside0.mk (blk_drew BK309.out)
           replace BK336 := Aside0.mk (blk_drew BK336.out)
           replace HI0 := Aside0.mk (IsS90.drew HI0.out)
           replace HK := Aside0.mk (keep_drew HK.out)
           replace HB := Aside0.mk (below_drew1 HB.out)
           refine start_ (n := 15) (S := fun w' => w'.cell? ⟨gb336, 0, none⟩ = some (.int .i64 t333) ∧ w'.cell? ⟨gb336, 1, none⟩ = some (.int .i64 t334) ∧ w'.cell? ⟨gb336, 2, none⟩ = some (u337002)) (ds := [14]) #[false, false, false, false, false, false, false, false, false, false, false, false, false, false, false] (by kernel_rfl) rfl rfl ⟨(blk_cell BK336.out 0).trans rfl, (blk_cell BK336.out 1).trans rfl, (blk_cell BK336.out 2).trans rfl⟩ (fun hHeld => ?_); refine with_tabW swarfkit_VoyageOf.tab14 swarfkit_VoyageOf.bits14 (fun HT_ HW_ => ?_)
           generalize wr.drew = w65 at HO_310003 HO_310005 HO_337002 BK295 BK309 BK336 HI0 HK HB hHeld ⊢
           refine pure_t 0 (some 77) (bz 15 1) HT_ ?_
           refine pure_t 2 (some 79) (bz 15 5) HT_ ?_
           refine pure_t 3 (some 80) (bz 15 13) HT_ ?_
           refine pure_t 4 (some 81) (bz 15 29) HT_ ?_
           refine pure_t 6 (some 83) (bz 15 93) HT_ ?_
           refine pure_t 7 (some 84) (bz 15 221) HT_ ?_
           refine pure_t 8 (some 85) (bz 15 477) HT_ ?_
           refine take_ (i := 1) (N := some 78) (v := ?_) (a' := ?_) (bz 15 479) rfl rfl (take_ofW HT_.out HW_.out (by kernel_rfl)) (fun _ _ _ h => h) (Or.inl ⟨by rfl, ?_⟩) hHeld ?_ ?_
           rotate_left; (rintro w' ⟨s0, s1, s2⟩; go_simp; with_reducible rfl); rotate_left; (simp only [Act.put, put_x, i64_w, i32_w]; rfl)
           refine one_ (i := 5) (N := some 82) (bz 15 511) rfl rfl (one_of HT_.out (by kernel_rfl)) (by decide) (fun K hK => ?_)
           refine goes_ Try.func33 (by kernel_rfl) rfl #[.pointer (some ⟨g, 0, none⟩), .int .i64 12] (by rfl) rfl rfl (by (try simp only [List.map_toArray, List.map_cons, List.map_nil]); first | done | rfl | (simp only [List.length_drop, List.length_take]; rfl)) ?_
           with_reducible refine (swarfkit_Feed_Below.calls g x1000_3 12 t339 t340 w0 _ ?side1 ?side2 A61.out).mono ?_
           (case side1 => exact IsS90.up HI0.out)
           (case side2 => exact below_y HB.out)
           rintro e w66 ⟨rfl, hi, hb, hk⟩
           refine ⟨_, rfl, ?_⟩
           replace HO_310003 := Aside0.mk (Kd.R_mono (Kd.R_keep (IsS90.apart (show IsS90 w0 _ g x1000_3 from by exact IsS90.up HI0.out) (Kd.R_x HO_310003.out) (by decide)) hk (fun _ h => h.2)) (fun _ h => h.1))
           replace HO_310005 := Aside0.mk (Kd.S_mono (Kd.S_keep (IsS90.apartS (show IsS90 w0 _ g x1000_3 from by exact IsS90.up HI0.out) (Kd.S_x HO_310005.out) (by decide)) hk (fun _ h => h.2)) (fun _ h => h.1))
           replace HO_337002 := Aside0.mk (Kd.R_mono (Kd.R_keep (IsS90.apart (show IsS90 w0 _ g x1000_3 from by exact IsS90.up HI0.out) (Kd.R_x HO_337002.out) (by decide)) hk (fun _ h => h.2)) (fun _ h => h.1))
           replace BK295 := Aside0.mk (KeepBut.blk hk (blk_x BK295.out) NB295_0.out (by simp))
           replace BK309 := Aside0.mk (KeepBut.blk hk (blk_x BK309.out) NB309_0.out (by simp))
           replace BK336 := Aside0.mk (KeepBut.blk hk (blk_x BK336.out) NB336_0.out (by simp))
           replace HK := Aside0.mk (KeepBut.trans (by exact keep_y HK.out) hk (.inl rfl))
           replace HB := Aside0.mk (hb)
           replace HI0 := Aside0.mk (hi)
           (try clear hb)
           (try clear hb2)
           (try clear hk)
           (try clear hi)
           refine hK.out _ _ ⟨(blk_cell BK336.out 0).trans rfl, (blk_cell BK336.out 1).trans rfl, (blk_cell BK336.out 2).trans rfl⟩ (fun hHeld => ?_)
           clear hK K
           refine norm_ (a' := ?_) ?_ ?_; rotate_left; (show Act.put _ (some 82) _ = _; simp only [Act.put, put_x, i64_w, i32_w]; rfl)
           refine one_ (i := 9) (N := some 86) (bz 15 1023) rfl rfl (one_of HT_.out (by kernel_rfl)) (by decide) (fun K hK => ?_)
           refine goes_ Try.func54 (by kernel_rfl) rfl #[.pointer (some ⟨g, 0, none⟩), .int .i64 t339, .int .i64 (wrap64 (12 + (wrap64 (2 * a4))))] (by rfl) rfl rfl (by (try simp only [List.map_toArray, List.map_cons, List.map_nil]); first | done | rfl | (simp only [List.length_drop, List.length_take]; rfl)) ?_
           with_reducible refine (swarfkit_Feed_Range.calls g t340 t339 (wrap64 (12 + (wrap64 (2 * a4)))) t341 t342 t343 w0 _ ?side1 ?side2 A62.out).mono ?_
           (case side1 => exact IsS90.up HI0.out)
           (case side2 => exact below_y HB.out)
           rintro e w67 ⟨rfl, hi, hb, hk⟩
           refine ⟨_, rfl, ?_⟩
           replace HO_310003 := Aside0.mk (Kd.R_mono (Kd.R_keep (IsS90.apart (show IsS90 w0 _ g t340 from by exact IsS90.up HI0.out) (Kd.R_x HO_310003.out) (by decide)) hk (fun _ h => h.2)) (fun _ h => h.1))
           replace HO_310005 := Aside0.mk (Kd.S_mono (Kd.S_keep (IsS90.apartS (show IsS90 w0 _ g t340 from by exact IsS90.up HI0.out) (Kd.S_x HO_310005.out) (by decide)) hk (fun _ h => h.2)) (fun _ h => h.1))
           replace HO_337002 := Aside0.mk (Kd.R_mono (Kd.R_keep (IsS90.apart (show IsS90 w0 _ g t340 from by exact IsS90.up HI0.out) (Kd.R_x HO_337002.out) (by decide)) hk (fun _ h => h.2)) (fun _ h => h.1))
           replace BK295 := Aside0.mk (KeepBut.blk hk (blk_x BK295.out) NB295_0.out (by simp))
           replace BK309 := Aside0.mk (KeepBut.blk hk (blk_x BK309.out) NB309_0.out (by simp))
           replace BK336 := Aside0.mk (KeepBut.blk hk (blk_x BK336.out) NB336_0.out (by simp))
           replace HK := Aside0.mk (KeepBut.trans (by exact keep_y HK.out) hk (.inl rfl))
           replace HB := Aside0.mk (hb)
           replace HI0 := Aside0.mk (hi)
           (try clear hb)
           (try clear hb2)
           (try clear hk)
           (try clear hi)
           refine hK.out _ _ ⟨(blk_cell BK336.out 0).trans rfl, (blk_cell BK336.out 1).trans rfl, (blk_cell BK336.out 2).trans rfl⟩ (fun hHeld => ?_)
           clear hK K
           refine norm_ (a' := ?_) ?_ ?_; rotate_left; (show Act.put _ (some 86) _ = _; simp only [Act.put, put_x, i64_w, i32_w]; rfl)
           refine pure_t 10 (some 87) (bz 15 2047) HT_ ?_
           refine one_ (i := 11) (N := some 88) (bz 15 4095) rfl rfl (one_of HT_.out (by kernel_rfl)) (by decide) (fun K hK => ?_)
           refine value_ (w1 := ?_) (v := ?_) (by rfl) rfl ?_ ?_
           rotate_left 2
           ·
            go_simp
            constructor
            ·
             rfl
            ·
             rfl
           refine hK.out _ _ ⟨(blk_cell (blk_alloc BK336.out _) 0).trans rfl, (blk_cell (blk_alloc BK336.out _) 1).trans rfl, (blk_cell (blk_alloc BK336.out _) 2).trans rfl⟩ (fun hHeld => ?_)
           clear hK K
           refine norm_ (a' := ?_) ?_ ?_; rotate_left; (show Act.put _ (some 88) _ = _; simp only [Act.put, put_x, i64_w, i32_w]; rfl)
           refine one_ (i := 12) (N := some 89) (bz 15 8191) rfl rfl (one_of HT_.out (by kernel_rfl)) (by decide) (fun K hK => ?_)
           refine Kd.R_append_step k62 w.heap.size (by rfl) (.tmp 78) (.tmp 88) 57 62 (.agg #[(.int .i64 0), (.int .i64 0), (.int .i64 0)]) 24 rfl Try.underlying57 info62 rfl (by decide) (by omega) u337002 x337002_3 (⟨x15_3, (⟨t341, t342⟩ : S56)⟩ : S62) [.int .i64 x15_3, .int .i64 t341, .int .i64 t342] (fun _ => True) (fun _ => False) rfl rfl ?aP (fun _ hk => hk.elim) ?aF ?aO (Below.refl _ _) ?aS ?aL ?_
           (case aP => exact k62_mkM _ _ _ (⟨x15_3, (⟨t341, t342⟩ : S56)⟩ : S62))
           (case aF => exact (fun _ _ => trivial))
           (case aO => exact (Kd.R_x HO_337002.out))
           (case aS => exact (keep_size (w := w) (g := g) (row := none) (by exact keep_y HK.out)))
           (case aL => have := LMc63.out; omega)
           intro v345 w68 ho hb hg hat
           rw [← Ny344.out] at ho
           replace HO_310003 := Aside0.mk (Kd.R_over' (Kd.R_x HO_310003.out) (Kd.R_typed (Kd.R_x HO_337002.out)) (by decide) hg)
           replace HO_310005 := Aside0.mk (Kd.S_after (ok := (fun k_ => k_ ≠ gb336)) (by (with_reducible repeat (first | apply Kd.S_alloc | apply Kd.S_drewN | apply Kd.S_drew)); exact Kd.S_mono HO_310005.out (fun _ hk => ⟨hk.2, hk.1⟩)) hg hat)
           replace BK295 := Aside0.mk (blk_grown (blk_x BK295.out) hg (Kd.R_ne HO_337002.out BK295.out (by decide)))
           replace BK309 := Aside0.mk (blk_grown (blk_x BK309.out) hg (Kd.R_ne HO_337002.out BK309.out (by decide)))
           replace BK336 := Aside0.mk (blk_grown (blk_x BK336.out) hg (Kd.R_ne HO_337002.out BK336.out (by decide)))
           replace HI0 := Aside0.mk (IsS90.grown (by exact IsS90.up HI0.out) hg (IsS90.own_ne HI0.out HO_337002.out (by decide)))
           replace HB := Aside0.mk (below_weaken (by exact below_y HB.out) HL.out hb)
           replace HK := Aside0.mk (KeepBut.trans (by exact keep_y HK.out) (KeepBut.of_grown hg g) (Kd.R_base2 HO_337002.out))
           have HO346 := Aside0.mk (ho)
           clear HO_337002 ho hb hg hat
           obtain ⟨Ao69, co69, eo69⟩ := Kd.R_slice HO346.out
           (first | subst eo69 | (injection eo69 with f1_ f2_ f3_; have f4_ := f1_.symm; have f5_ := f3_.symm; clear f1_ f2_ f3_; subst f4_; subst f5_))
           refine hK.out _ _ ⟨(blk_cell BK336.out 0).trans rfl, (blk_cell BK336.out 1).trans rfl, (blk_cell BK336.out 2).trans rfl⟩ (fun hHeld => ?_)
           clear hK K
           refine norm_ (a' := ?_) ?_ ?_; rotate_left; (show Act.put _ (some 89) _ = _; simp only [Act.put, put_x, i64_w, i32_w]; rfl)
           refine pure_t 13 (some 90) (bz 15 16383) HT_ ?_
           refine last_ (i := 14) (N := none) (bz 15 32767) rfl rfl (one_of HT_.out (by kernel_rfl)) (by decide) (fun K hK => ?_)
           have hs70 : w68.cell? ⟨gb336, 2, none⟩ = some (u337002) := (blk_cell BK336.out 2).trans rfl
           have hfs70 := blk_frozen BK336.out 2
           have hns70_0 := NB295_336.out
           have hns70_1 := NB309_336.out
           have hms70_0 := NB336_295.out
           have hms70_1 := NB336_309.out
           refine skip_ (w1 := ?_) (by rfl) rfl ?_ ?_
           rotate_left
           ·
            go_simp
            rfl
           refine hK.out _ _ ?_
           clear hK K
           refine done_ (done_of HT_.out (by kernel_rfl)) ?_
           try go_wp2_with (first | ((with_reducible refine gate_callee (f := 31) rfl ?_); refine goesL_ (some 93) rfl rfl Try.func31 (by kernel_rfl) rfl #[.pointer (some ⟨g, 0, none⟩), .int .i64 1, .int .i64 9] rfl (by (try simp only [List.map_toArray, List.map_cons, List.map_nil]); first | done | rfl | (simp only [List.length_drop, List.length_take]; rfl)) ?_; (with_reducible refine (swarfkit_Feed_Between.calls g t343 1 9 t347 t348 w0 _ ?side1 ?side2 A64.out).mono ?_); (case side1 => exact IsS90.up HI0.out); (case side2 => exact below_y HB.out); rintro e w71 ⟨rfl, hi, hb, hk⟩; refine ⟨_, rfl, ?_⟩; replace HO_310003 := Aside0.mk (Kd.R_mono (Kd.R_keep (IsS90.apart (show IsS90 w0 _ g t343 from by exact IsS90.up HI0.out) (by (with_reducible repeat (first | apply Kd.R_alloc | apply Kd.R_drewN | apply Kd.R_drew)); exact (Kd.R_mono (Kd.R_far (p := ⟨gb336, 2, none⟩) (Kd.R_types HO_310003.out BK336.out (by decide)) (fun _ hk => hk.2) (.slice Ao69 y344.length co69)) (fun _ h_ => h_.1))) (by decide)) hk (fun _ h => h.2)) (fun _ h => h.1)); replace HO_310005 := Aside0.mk (Kd.S_mono (Kd.S_keep (IsS90.apartS (show IsS90 w0 _ g t343 from by exact IsS90.up HI0.out) (by (with_reducible repeat (first | apply Kd.S_alloc | apply Kd.S_drewN | apply Kd.S_drew)); exact (Kd.S_mono (Kd.S_far (p := ⟨gb336, 2, none⟩) (Kd.S_mono HO_310005.out (fun k_ hk => (⟨hk, hk.1⟩ : _ ∧ k_ ≠ gb336))) (fun _ hk => hk.2) (.slice Ao69 y344.length co69)) (fun _ h_ => h_.1))) (by decide)) hk (fun _ h => h.2)) (fun _ h => h.1)); replace BK295 := Aside0.mk (KeepBut.blk hk (g' := gb295) (o := .cells #[.int .i64 0, .int .i64 0, .int .i64 0, .slice none 0 0, .int .i64 0, .slice none 0 0, .slice none 0 0] 26 (0, 0)) (blk_w BK295.out) NB295_0.out (by simp)); replace BK309 := Aside0.mk (KeepBut.blk hk (g' := gb309) (o := .cells #[.int .i64 t296, .int .i64 t298, .int .i64 t305, u310003, .int .i64 t307, u310005, .slice none 0 0] 26 (0, 0)) (blk_w BK309.out) NB309_0.out (by simp)); replace HO346 := Aside0.mk (Kd.R_mono (Kd.R_keep (IsS90.apart (show IsS90 w0 _ g t343 from by exact IsS90.up HI0.out) (by (with_reducible repeat (first | apply Kd.R_alloc | apply Kd.R_drewN | apply Kd.R_drew)); exact (Kd.R_mono (Kd.R_far (p := ⟨gb336, 2, none⟩) (Kd.R_types HO346.out BK336.out (by decide)) (fun _ hk => hk.2) (.slice Ao69 y344.length co69)) (fun _ h_ => h_.1))) (by decide)) hk (fun _ h => h.2)) (fun _ h => h.1)); replace BK336 := Aside0.mk (KeepBut.blk hk (g' := gb336) (o := .cells #[.int .i64 t333, .int .i64 t334, .slice Ao69 y344.length co69] 59 (0, 0)) (by (with_reducible repeat (first | refine blk_drewN ?_ _ | refine blk_drew ?_ | refine blk_alloc ?_ _)); refine blk_put (cs := #[.int .i64 t333, .int .i64 t334, u337002]) ?_ 2 _ rfl; (with_reducible repeat (first | refine blk_drewN ?_ _ | refine blk_drew ?_ | refine blk_alloc ?_ _)); exact BK336.out) NB336_0.out (by simp)); replace HK := Aside0.mk (KeepBut.trans (by exact keep_y HK.out) hk (.inl rfl)); replace HB := Aside0.mk (hb); replace HI0 := Aside0.mk (hi); (try clear hb); (try clear hk); (try clear hi)))
           go_roundg k3
           case measure => have := HK1.out; have := HK2.out; have := HK3.out; omega
           case rel => exact ⟨(wrap64 (x15_3 + t347)), (wrap64 (x16_3 - 1)), (t348), (y344), (.slice Ao69 y344.length co69), (by first | rfl | (simp; done) | (simp [*]; done)), (by first | rfl | (simp; done) | (simp [*]; done)), H', ⟨by have := HK1.out; have := HK2.out; have := HK3.out; omega⟩, ⟨by (with_reducible repeat (first | apply Kd.R_alloc | apply Kd.R_drewN | apply Kd.R_drew)); exact HO_310003.out⟩, ⟨by (with_reducible repeat (first | apply Kd.S_alloc | apply Kd.S_drewN | apply Kd.S_drew)); exact Kd.S_mono HO_310005.out (fun _ hk => ⟨hk.2, hk.1⟩)⟩, ⟨by (with_reducible repeat (first | apply Kd.R_alloc | apply Kd.R_drewN | apply Kd.R_drew)); exact HO346.out⟩, ⟨blk_x BK295.out⟩, ⟨blk_x BK309.out⟩, ⟨blk_x BK336.out⟩, ⟨by exact IsS90.up HI0.out⟩, ⟨by exact keep_y HK.out⟩, ⟨by exact below_y HB.out⟩⟩
          ·
           rw [if_neg c63] at H
           exact absurd H (by simp)
         ·
          rw [if_neg c60] at H
          have c60b0 : decide (0 < x16_3) = false := decide_eq_false c60
          clear c60
          by_cases c72 : x310005_2.length < 3518437208883
          ·
           rw [if_pos c72] at H
           have LMc72 := Aside0.mk c72
           clear c72
           obtain ⟨y349, hy349⟩ : ∃ y_ : List (S59), y_ = (x310005_2 ++ [(⟨(⟨t333, t334⟩ : S56), x337002_3⟩ : S59)]) := ⟨_, rfl⟩
           replace H : (swarfkit_VoyageOf.l1 k3 a3 a4 (wrap64 (x13_2 - 1)) x1000_3 t296 t298 t305 x310003_1 t307 y349) = some (r1, r2, r3, r4, r5, r6, r7, r8) := by first | (rw [hy349]; with_reducible exact H) | (have H2_ := (Option.bind_some _ _).symm.trans H; rw [hy349]; with_reducible exact H2_) | (have H2_ := (Option.bind_some _ _).symm.trans H; with_reducible exact H2_) | with_reducible exact H | (rw [hy349]; exact H) | exact H
           have Ny349 := Aside0.mk hy349
           clear hy349
           have H' := Aside0.mk H
           clear H
           have hnb73 := NB309_295.out
           have hnc73 := NB295_309.out
           have hnb74 := NB309_336.out
           have hnc74 := NB336_309.out
           have hnb75 := NB309_0.out
           have hnc75 := NB0_309.out
           obtain ⟨_, _, _, _, _, _, _⟩ := cz7 BK309
           have hfz76_0 := blk_frozen BK309.out
           have hnb77 := NB336_295.out
           have hnc77 := NB295_336.out
           have hnb78 := NB336_0.out
           have hnc78 := NB0_336.out
           obtain ⟨_, _, _⟩ := cz3 BK336
           have hfz79_0 := blk_frozen BK336.out
           obtain ⟨Ao81, co81, eo81⟩ := Kd.R_slice HO_337002.out
           subst eo81
           go_wp2_with (first | ((with_reducible refine gate_builtin (b := .append) (xs := #[.tmp 96, .tmp 98]) rfl ?_); at_builtin; refine Kd.S_append k59 w.heap.size rfl (.tmp 96) (.tmp 98) 23 59 (.agg #[(.int .i64 0), (.int .i64 0), (.slice none 0 0)]) 40 rfl Try.underlying23 info59 rfl (by decide) (by omega) u310005 x310005_2 (⟨(⟨t333, t334⟩ : S56), x337002_3⟩ : S59) [.int .i64 t333, .int .i64 t334, .slice Ao81 x337002_3.length co81] (fun k_ => k_ ≠ gb336) (fun k_ => some k_ = (.slice Ao81 x337002_3.length co81 : Value).ownBlock) rfl rfl ?aP (fun k_ hk_ => ((Kd.R_mono (ok' := fun k_ => ((fun k_ => k_ ≠ gb336)) k_ ∧ some k_ ≠ (u310005 : Value).ownBlock) (Kd.R_types (Kd.R_apart' (HO_337002.out) (Kd.S_typed HO_310005.out) (by decide)) BK336.out (by decide)) (fun k_ hk => ⟨hk.2, hk.1.2⟩))).1 k_ hk_.symm) ?aF ?aO (Below.refl _ _) ?aS ?aL ?_; (case aP => exact k59_mkM _ _ _ (⟨(⟨t333, t334⟩ : S56), x337002_3⟩ : S59) (Kd.R_mono (Kd.R_tight rfl (Kd.R_mono (ok' := fun k_ => ((fun k_ => k_ ≠ gb336)) k_ ∧ some k_ ≠ (u310005 : Value).ownBlock) (Kd.R_types (Kd.R_apart' (HO_337002.out) (Kd.S_typed HO_310005.out) (by decide)) BK336.out (by decide)) (fun k_ hk => ⟨hk.2, hk.1.2⟩))) (fun _ h_ => h_))); (case aF => exact (fun k_ hk => Kd.freshB (g := gb336) (o := .cells #[.int .i64 t333, .int .i64 t334, .slice Ao81 x337002_3.length co81] 59 (0, 0)) (blk_x BK336.out) k_ hk)); (case aO => exact (by (with_reducible repeat (first | apply Kd.S_alloc | apply Kd.S_drewN | apply Kd.S_drew)); exact Kd.S_mono HO_310005.out (fun k_ hk => ⟨hk.2, fun e_ => hk.1 e_⟩))); (case aS => exact (keep_size (w := w) (g := g) (row := none) (by exact keep_y HK.out))); (case aL => have := LMc72.out; omega); intro v350 w80 ho hb hg hat; rw [← Ny349.out] at ho; replace HO_310003 := Aside0.mk (Kd.R_over' (Kd.R_x HO_310003.out) (Kd.S_typed (Kd.S_x HO_310005.out)) (by decide) hg); replace BK295 := Aside0.mk (blk_grown (blk_x BK295.out) hg (Kd.S_ne HO_310005.out BK295.out (by decide))); replace BK309 := Aside0.mk (blk_grown (blk_x BK309.out) hg (Kd.S_ne HO_310005.out BK309.out (by decide))); replace BK336 := Aside0.mk (blk_grown (blk_x BK336.out) hg (Kd.S_away HO_310005.out (fun _ hk => hk.2))); replace HI0 := Aside0.mk (IsS90.grown (by exact IsS90.up HI0.out) hg (IsS90.own_neS HI0.out HO_310005.out (by decide))); replace HB := Aside0.mk (below_weaken (by exact below_y HB.out) HL.out hb); replace HK := Aside0.mk (KeepBut.trans (by exact keep_y HK.out) (KeepBut.of_grown hg g) (Kd.S_base2 HO_310005.out)); have HO351 := Aside0.mk (ho); clear HO_310005 HO_337002; clear ho hb hg hat; obtain ⟨Ao82, co82, eo82⟩ := Kd.S_slice HO351.out; subst eo82; obtain ⟨_, _, _, _, _, _, _⟩ := cz7 BK309; have hfz83_0 := blk_frozen BK309.out))
           go_roundg k3
           case measure => have := HK1.out; have := HK2.out; have := HK3.out; omega
           case rel => exact ⟨(wrap64 (x13_2 - 1)), (x1000_3), (y349), (.slice Ao82 y349.length co82), (by first | rfl | (simp; done) | (simp [*]; done)), H', ⟨by have := HK1.out; have := HK2.out; have := HK3.out; omega⟩, ⟨by (with_reducible repeat (first | apply Kd.R_alloc | apply Kd.R_drewN | apply Kd.R_drew)); exact Kd.R_mono (Kd.R_far (p := ⟨gb309, 5, none⟩) (Kd.R_types HO_310003.out BK309.out (by decide)) (fun _ hk => hk.2) (.slice Ao82 y349.length co82)) (fun _ hk => trivial)⟩, ⟨by (with_reducible repeat (first | apply Kd.S_alloc | apply Kd.S_drewN | apply Kd.S_drew)); exact Kd.S_mono (Kd.S_far (p := ⟨gb309, 5, none⟩) (Kd.S_types HO351.out BK309.out (by decide)) (fun _ hk => hk.2) (.slice Ao82 y349.length co82)) (fun _ hk => trivial)⟩, ⟨blk_w BK295.out⟩, ⟨by (with_reducible repeat (first | refine blk_drewN ?_ _ | refine blk_drew ?_ | refine blk_alloc ?_ _)); refine blk_put (cs := #[.int .i64 t296, .int .i64 t298, .int .i64 t305, u310003, .int .i64 t307, u310005, .slice none 0 0]) ?_ 5 _ rfl; (with_reducible repeat (first | refine blk_drewN ?_ _ | refine blk_drew ?_ | refine blk_alloc ?_ _)); exact BK309.out⟩, ⟨by exact IsS90.up HI0.out⟩, ⟨by exact keep_y HK.out⟩, ⟨by exact below_y HB.out⟩⟩
          ·
           rw [if_neg c72] at H
           exact absurd H (by simp)
      ·
       rw [if_neg c45] at H
       have c45b0 : decide (0 < x13_2) = false := decide_eq_false c45
       clear c45
       replace H := Option.bind_eq_some_iff.mp H
       obtain ⟨⟨t352, t353⟩, A840, H⟩ := H
       try dsimp only at H
       have A84 := Aside0.mk A840
       clear A840
       have H' := Aside0.mk H
       clear H
       go_wp2_with (first | ((with_reducible refine gate_callee (f := 33) rfl ?_); refine goesL_ (some 104) rfl rfl Try.func33 (by kernel_rfl) rfl #[.pointer (some ⟨g, 0, none⟩), .int .i64 (wrap64 (a3 + 1))] rfl (by (try simp only [List.map_toArray, List.map_cons, List.map_nil]); first | done | rfl | (simp only [List.length_drop, List.length_take]; rfl)) ?_; (with_reducible refine (swarfkit_Feed_Below.calls g x1000_2 (wrap64 (a3 + 1)) t352 t353 w0 _ ?side1 ?side2 A84.out).mono ?_); (case side1 => exact IsS90.up HI0.out); (case side2 => exact below_y HB.out); rintro e w85 ⟨rfl, hi, hb, hk⟩; refine ⟨_, rfl, ?_⟩; replace HO_310003 := Aside0.mk (Kd.R_mono (Kd.R_keep (IsS90.apart (show IsS90 w0 _ g x1000_2 from by exact IsS90.up HI0.out) (Kd.R_x HO_310003.out) (by decide)) hk (fun _ h => h.2)) (fun _ h => h.1)); replace HO_310005 := Aside0.mk (Kd.S_mono (Kd.S_keep (IsS90.apartS (show IsS90 w0 _ g x1000_2 from by exact IsS90.up HI0.out) (Kd.S_x HO_310005.out) (by decide)) hk (fun _ h => h.2)) (fun _ h => h.1)); replace BK295 := Aside0.mk (KeepBut.blk hk (blk_x BK295.out) NB295_0.out (by simp)); replace BK309 := Aside0.mk (KeepBut.blk hk (blk_x BK309.out) NB309_0.out (by simp)); replace HK := Aside0.mk (KeepBut.trans (by exact keep_y HK.out) hk (.inl rfl)); replace HB := Aside0.mk (hb); replace HI0 := Aside0.mk (hi); (try clear hb); (try clear hk); (try clear hi)))
       go_loopg [17] k2 (fun kq v17 w' => ∃ (x17_3 : Int) (x1000_3 : Int) (x310006_3 : List (S79)) (u310006 : Value), v17 = .int .i64 x17_3 ∧ Aside0 (swarfkit_VoyageOf.l3 kq a4 x17_3 x1000_3 t296 t298 t305 x310003_1 t307 x310005_2 x310006_3 = some (r1, r2, r3, r4, r5, r6, r7, r8)) ∧ Aside0 (kq ≤ k2) ∧ Aside0 (Kd.R k85 85 w' w.heap.size (fun _ => True) u310003 x310003_1) ∧ Aside0 (Kd.S k59 59 w' w.heap.size (fun _ => True) u310005 x310005_2) ∧ Aside0 (Kd.R k79 79 w' w.heap.size (fun _ => True) u310006 x310006_3) ∧ Aside0 (w'.heap[gb295]? = some (.cells #[.int .i64 0, .int .i64 0, .int .i64 0, (.slice none 0 0), .int .i64 0, (.slice none 0 0), (.slice none 0 0)] 26 (0, 0))) ∧ Aside0 (w'.heap[gb309]? = some (.cells #[.int .i64 t296, .int .i64 t298, .int .i64 t305, u310003, .int .i64 t307, u310005, u310006] 26 (0, 0))) ∧ Aside0 (IsS90 w0 w' g x1000_3) ∧ Aside0 (KeepBut w w' g none) ∧ Aside0 (Below w0.heap.size w0 w'))
       case atStart => exact ⟨(t352), (t353), (([] : List (S79))), (.slice none 0 0), (by first | rfl | (simp; done) | (simp [*]; done)), H', ⟨Nat.le_refl _⟩, ⟨by (with_reducible repeat (first | apply Kd.R_alloc | apply Kd.R_drewN | apply Kd.R_drew)); exact HO_310003.out⟩, ⟨by (with_reducible repeat (first | apply Kd.S_alloc | apply Kd.S_drewN | apply Kd.S_drew)); exact HO_310005.out⟩, ⟨by first | exact Kd.R_nil _ _ _ _ _ | exact Kd.N_nil _ _ _ _ _ | exact Kd.V_nil _ _ _ _ _ | exact Kd.Q_nil _ _ _ _ _ | exact Kd.S_nil _ _ _ _ _⟩, ⟨blk_x BK295.out⟩, ⟨blk_x BK309.out⟩, ⟨by exact IsS90.up HI0.out⟩, ⟨by exact keep_y HK.out⟩, ⟨by exact below_y HB.out⟩⟩
       case round =>
        clear H'
        obtain ⟨x17_3, x1000_3, x310006_3, u310006, rfl, HA, HK3, HO_310003, HO_310005, HO_310006, BK295, BK309, HI0, HK, HB⟩ := hrel
        cases gk with
        | zero => exact absurd HA.out (by simp [swarfkit_VoyageOf.l3])
        | succ k3 =>
         have H := HA.out
         clear HA
         simp only [swarfkit_VoyageOf.l3] at H
         by_cases c86 : x17_3 > 0
         ·
          rw [if_pos c86] at H
          have c86b0 : decide (0 < x17_3) = true := decide_eq_true c86
          clear c86
          replace H := Option.bind_eq_some_iff.mp H
          obtain ⟨⟨t354, t355, t356⟩, A870, H⟩ := H
          try dsimp only at H
          have A87 := Aside0.mk A870
          clear A870
          replace H := Option.bind_eq_some_iff.mp H
          obtain ⟨⟨t357, t358⟩, A880, H⟩ := H
          try dsimp only at H
          have A88 := Aside0.mk A880
          clear A880
          by_cases c89 : x310006_3.length < 5864062014805
          ·
           rw [if_pos c89] at H
           have LMc89 := Aside0.mk c89
           clear c89
           obtain ⟨y359, hy359⟩ : ∃ y_ : List (S79), y_ = (x310006_3 ++ [(⟨(⟨t354, t355⟩ : S56), t357⟩ : S79)]) := ⟨_, rfl⟩
           replace H : (swarfkit_VoyageOf.l3 k3 a4 (wrap64 (x17_3 - 1)) t358 t296 t298 t305 x310003_1 t307 x310005_2 y359) = some (r1, r2, r3, r4, r5, r6, r7, r8) := by first | (rw [hy359]; with_reducible exact H) | (have H2_ := (Option.bind_some _ _).symm.trans H; rw [hy359]; with_reducible exact H2_) | (have H2_ := (Option.bind_some _ _).symm.trans H; with_reducible exact H2_) | with_reducible exact H | (rw [hy359]; exact H) | exact H
           have Ny359 := Aside0.mk hy359
           clear hy359
           have H' := Aside0.mk H
           clear H
           try go_wp2
           replace HO_310003 := Aside0.mk (Kd.R_drew HO_310003.out)
           replace HO_310005 := Aside0.mk (Kd.S_drew HO_310005.out)
           replace HO_310006 := Aside0.mk (Kd.R_drew HO_310006.out)
           replace BK295 := Aside0.mk (blk_drew BK295.out)
           replace BK309 := Aside0.mk (blk_drew BK309.out)
           replace HI0 := Aside0.mk (IsS90.drew HI0.out)
           replace HK := Aside0.mk (keep_drew HK.out)
           replace HB := Aside0.mk (below_drew1 HB.out)
           refine start_ (n := 12) (S := fun w' => w'.cell? ⟨gb309, 0, none⟩ = some (.int .i64 t296) ∧ w'.cell? ⟨gb309, 1, none⟩ = some (.int .i64 t298) ∧ w'.cell? ⟨gb309, 2, none⟩ = some (.int .i64 t305) ∧ w'.cell? ⟨gb309, 3, none⟩ = some (u310003) ∧ w'.cell? ⟨gb309, 4, none⟩ = some (.int .i64 t307) ∧ w'.cell? ⟨gb309, 5, none⟩ = some (u310005) ∧ w'.cell? ⟨gb309, 6, none⟩ = some (u310006)) (ds := [11]) #[false, false, false, false, false, false, false, false, false, false, false, false] (by kernel_rfl) rfl rfl ⟨(blk_cell BK309.out 0).trans rfl, (blk_cell BK309.out 1).trans rfl, (blk_cell BK309.out 2).trans rfl, (blk_cell BK309.out 3).trans rfl, (blk_cell BK309.out 4).trans rfl, (blk_cell BK309.out 5).trans rfl, (blk_cell BK309.out 6).trans rfl⟩ (fun hHeld => ?_); refine with_tabW swarfkit_VoyageOf.tab20 swarfkit_VoyageOf.bits20 (fun HT_ HW_ => ?_)
           generalize wr.drew = w90 at HO_310003 HO_310005 HO_310006 BK295 BK309 HI0 HK HB hHeld ⊢
           refine pure_t 0 (some 109) (bz 12 1) HT_ ?_
           refine pure_t 2 (some 111) (bz 12 5) HT_ ?_
           refine pure_t 3 (some 112) (bz 12 13) HT_ ?_
           refine pure_t 5 (some 114) (bz 12 45) HT_ ?_
           refine take_ (i := 1) (N := some 110) (v := ?_) (a' := ?_) (bz 12 47) rfl rfl (take_ofW HT_.out HW_.out (by kernel_rfl)) (fun _ _ _ h => h) (Or.inl ⟨by rfl, ?_⟩) hHeld ?_ ?_
           rotate_left; (rintro w' ⟨s0, s1, s2, s3, s4, s5, s6⟩; go_simp; with_reducible rfl); rotate_left; (simp only [Act.put, put_x, i64_w, i32_w]; rfl)
           refine one_ (i := 4) (N := some 113) (bz 12 63) rfl rfl (one_of HT_.out (by kernel_rfl)) (by decide) (fun K hK => ?_)
           refine goes_ Try.func54 (by kernel_rfl) rfl #[.pointer (some ⟨g, 0, none⟩), .int .i64 0, .int .i64 a4] (by rfl) rfl rfl (by (try simp only [List.map_toArray, List.map_cons, List.map_nil]); first | done | rfl | (simp only [List.length_drop, List.length_take]; rfl)) ?_
           with_reducible refine (swarfkit_Feed_Range.calls g x1000_3 0 a4 t354 t355 t356 w0 _ ?side1 ?side2 A87.out).mono ?_
           (case side1 => exact IsS90.up HI0.out)
           (case side2 => exact below_y HB.out)
           rintro e w91 ⟨rfl, hi, hb, hk⟩
           refine ⟨_, rfl, ?_⟩
           replace HO_310003 := Aside0.mk (Kd.R_mono (Kd.R_keep (IsS90.apart (show IsS90 w0 _ g x1000_3 from by exact IsS90.up HI0.out) (Kd.R_x HO_310003.out) (by decide)) hk (fun _ h => h.2)) (fun _ h => h.1))
           replace HO_310005 := Aside0.mk (Kd.S_mono (Kd.S_keep (IsS90.apartS (show IsS90 w0 _ g x1000_3 from by exact IsS90.up HI0.out) (Kd.S_x HO_310005.out) (by decide)) hk (fun _ h => h.2)) (fun _ h => h.1))
           replace HO_310006 := Aside0.mk (Kd.R_mono (Kd.R_keep (IsS90.apart (show IsS90 w0 _ g x1000_3 from by exact IsS90.up HI0.out) (Kd.R_x HO_310006.out) (by decide)) hk (fun _ h => h.2)) (fun _ h => h.1))
           replace BK295 := Aside0.mk (KeepBut.blk hk (blk_x BK295.out) NB295_0.out (by simp))
           replace BK309 := Aside0.mk (KeepBut.blk hk (blk_x BK309.out) NB309_0.out (by simp))
           replace HK := Aside0.mk (KeepBut.trans (by exact keep_y HK.out) hk (.inl rfl))
           replace HB := Aside0.mk (hb)
           replace HI0 := Aside0.mk (hi)
           (try clear hb)
           (try clear hb2)
           (try clear hk)
           (try clear hi)
           refine hK.out _ _ ⟨(blk_cell BK309.out 0).trans rfl, (blk_cell BK309.out 1).trans rfl, (blk_cell BK309.out 2).trans rfl, (blk_cell BK309.out 3).trans rfl, (blk_cell BK309.out 4).trans rfl, (blk_cell BK309.out 5).trans rfl, (blk_cell BK309.out 6).trans rfl⟩ (fun hHeld => ?_)
           clear hK K
           refine norm_ (a' := ?_) ?_ ?_; rotate_left; (show Act.put _ (some 113) _ = _; simp only [Act.put, put_x, i64_w, i32_w]; rfl)
           refine one_ (i := 6) (N := some 115) (bz 12 127) rfl rfl (one_of HT_.out (by kernel_rfl)) (by decide) (fun K hK => ?_)
           refine goes_ Try.func33 (by kernel_rfl) rfl #[.pointer (some ⟨g, 0, none⟩), .int .i64 30] (by rfl) rfl rfl (by (try simp only [List.map_toArray, List.map_cons, List.map_nil]); first | done | rfl | (simp only [List.length_drop, List.length_take]; rfl)) ?_
           with_reducible refine (swarfkit_Feed_Below.calls g t356 30 t357 t358 w0 _ ?side1 ?side2 A88.out).mono ?_
           (case side1 => exact IsS90.up HI0.out)
           (case side2 => exact below_y HB.out)
           rintro e w92 ⟨rfl, hi, hb, hk⟩
           refine ⟨_, rfl, ?_⟩
           replace HO_310003 := Aside0.mk (Kd.R_mono (Kd.R_keep (IsS90.apart (show IsS90 w0 _ g t356 from by exact IsS90.up HI0.out) (Kd.R_x HO_310003.out) (by decide)) hk (fun _ h => h.2)) (fun _ h => h.1))
           replace HO_310005 := Aside0.mk (Kd.S_mono (Kd.S_keep (IsS90.apartS (show IsS90 w0 _ g t356 from by exact IsS90.up HI0.out) (Kd.S_x HO_310005.out) (by decide)) hk (fun _ h => h.2)) (fun _ h => h.1))
           replace HO_310006 := Aside0.mk (Kd.R_mono (Kd.R_keep (IsS90.apart (show IsS90 w0 _ g t356 from by exact IsS90.up HI0.out) (Kd.R_x HO_310006.out) (by decide)) hk (fun _ h => h.2)) (fun _ h => h.1))
           replace BK295 := Aside0.mk (KeepBut.blk hk (blk_x BK295.out) NB295_0.out (by simp))
           replace BK309 := Aside0.mk (KeepBut.blk hk (blk_x BK309.out) NB309_0.out (by simp))
           replace HK := Aside0.mk (KeepBut.trans (by exact keep_y HK.out) hk (.inl rfl))
           replace HB := Aside0.mk (hb)
           replace HI0 := Aside0.mk (hi)
           (try clear hb)
           (try clear hb2)
           (try clear hk)
           (try clear hi)
           refine hK.out _ _ ⟨(blk_cell BK309.out 0).trans rfl, (blk_cell BK309.out 1).trans rfl, (blk_cell BK309.out 2).trans rfl, (blk_cell BK309.out 3).trans rfl, (blk_cell BK309.out 4).trans rfl, (blk_cell BK309.out 5).trans rfl, (blk_cell BK309.out 6).trans rfl⟩ (fun hHeld => ?_)
           clear hK K
           refine norm_ (a' := ?_) ?_ ?_; rotate_left; (show Act.put _ (some 115) _ = _; simp only [Act.put, put_x, i64_w, i32_w]; rfl)
           refine pure_t 7 (some 116) (bz 12 255) HT_ ?_
           refine one_ (i := 8) (N := some 117) (bz 12 511) rfl rfl (one_of HT_.out (by kernel_rfl)) (by decide) (fun K hK => ?_)
           refine value_ (w1 := ?_) (v := ?_) (by rfl) rfl ?_ ?_
           rotate_left 2
           ·
            go_simp
            constructor
            ·
             rfl
            ·
             rfl
           refine hK.out _ _ ⟨(blk_cell (blk_alloc BK309.out _) 0).trans rfl, (blk_cell (blk_alloc BK309.out _) 1).trans rfl, (blk_cell (blk_alloc BK309.out _) 2).trans rfl, (blk_cell (blk_alloc BK309.out _) 3).trans rfl, (blk_cell (blk_alloc BK309.out _) 4).trans rfl, (blk_cell (blk_alloc BK309.out _) 5).trans rfl, (blk_cell (blk_alloc BK309.out _) 6).trans rfl⟩ (fun hHeld => ?_)
           clear hK K
           refine norm_ (a' := ?_) ?_ ?_; rotate_left; (show Act.put _ (some 117) _ = _; simp only [Act.put, put_x, i64_w, i32_w]; rfl)
           refine one_ (i := 9) (N := some 118) (bz 12 1023) rfl rfl (one_of HT_.out (by kernel_rfl)) (by decide) (fun K hK => ?_)
           refine Kd.R_append_step k79 w.heap.size (by rfl) (.tmp 110) (.tmp 117) 24 79 (.agg #[(.int .i64 0), (.int .i64 0), (.int .i64 0)]) 24 rfl Try.underlying24 info79 rfl (by decide) (by omega) u310006 x310006_3 (⟨(⟨t354, t355⟩ : S56), t357⟩ : S79) [.int .i64 t354, .int .i64 t355, .int .i64 t357] (fun _ => True) (fun _ => False) rfl rfl ?aP (fun _ hk => hk.elim) ?aF ?aO (Below.refl _ _) ?aS ?aL ?_
           (case aP => exact k79_mkM _ _ _ (⟨(⟨t354, t355⟩ : S56), t357⟩ : S79))
           (case aF => exact (fun _ _ => trivial))
           (case aO => exact (Kd.R_x HO_310006.out))
           (case aS => exact (keep_size (w := w) (g := g) (row := none) (by exact keep_y HK.out)))
           (case aL => have := LMc89.out; omega)
           intro v360 w93 ho hb hg hat
           rw [← Ny359.out] at ho
           replace HO_310003 := Aside0.mk (Kd.R_over' (Kd.R_x HO_310003.out) (Kd.R_typed (Kd.R_x HO_310006.out)) (by decide) hg)
           replace HO_310005 := Aside0.mk (Kd.S_over' (Kd.S_x HO_310005.out) (Kd.R_typed (Kd.R_x HO_310006.out)) (by decide) hg)
           replace BK295 := Aside0.mk (blk_grown (blk_x BK295.out) hg (Kd.R_ne HO_310006.out BK295.out (by decide)))
           replace BK309 := Aside0.mk (blk_grown (blk_x BK309.out) hg (Kd.R_ne HO_310006.out BK309.out (by decide)))
           replace HI0 := Aside0.mk (IsS90.grown (by exact IsS90.up HI0.out) hg (IsS90.own_ne HI0.out HO_310006.out (by decide)))
           replace HB := Aside0.mk (below_weaken (by exact below_y HB.out) HL.out hb)
           replace HK := Aside0.mk (KeepBut.trans (by exact keep_y HK.out) (KeepBut.of_grown hg g) (Kd.R_base2 HO_310006.out))
           have HO361 := Aside0.mk (ho)
           clear HO_310006 ho hb hg hat
           obtain ⟨Ao94, co94, eo94⟩ := Kd.R_slice HO361.out
           (first | subst eo94 | (injection eo94 with f1_ f2_ f3_; have f4_ := f1_.symm; have f5_ := f3_.symm; clear f1_ f2_ f3_; subst f4_; subst f5_))
           refine hK.out _ _ ⟨(blk_cell BK309.out 0).trans rfl, (blk_cell BK309.out 1).trans rfl, (blk_cell BK309.out 2).trans rfl, (blk_cell BK309.out 3).trans rfl, (blk_cell BK309.out 4).trans rfl, (blk_cell BK309.out 5).trans rfl, (blk_cell BK309.out 6).trans rfl⟩ (fun hHeld => ?_)
           clear hK K
           refine norm_ (a' := ?_) ?_ ?_; rotate_left; (show Act.put _ (some 118) _ = _; simp only [Act.put, put_x, i64_w, i32_w]; rfl)
           refine pure_t 10 (some 119) (bz 12 2047) HT_ ?_
           refine last_ (i := 11) (N := none) (bz 12 4095) rfl rfl (one_of HT_.out (by kernel_rfl)) (by decide) (fun K hK => ?_)
           have hs95 : w93.cell? ⟨gb309, 6, none⟩ = some (u310006) := (blk_cell BK309.out 6).trans rfl
           have hfs95 := blk_frozen BK309.out 6
           have hns95_0 := NB295_309.out
           have hms95_0 := NB309_295.out
           refine skip_ (w1 := ?_) (by rfl) rfl ?_ ?_
           rotate_left
           ·
            go_simp
            rfl
           refine hK.out _ _ ?_
           clear hK K
           refine done_ (done_of HT_.out (by kernel_rfl)) ?_
           try go_wp2
           go_roundg k3
           case measure => have := HK1.out; have := HK2.out; have := HK3.out; omega
           case rel => exact ⟨(wrap64 (x17_3 - 1)), (t358), (y359), (.slice Ao94 y359.length co94), (by first | rfl | (simp; done) | (simp [*]; done)), H', ⟨by have := HK1.out; have := HK2.out; have := HK3.out; omega⟩, ⟨by (with_reducible repeat (first | apply Kd.R_alloc | apply Kd.R_drewN | apply Kd.R_drew)); exact Kd.R_mono (Kd.R_far (p := ⟨gb309, 6, none⟩) (Kd.R_types HO_310003.out BK309.out (by decide)) (fun _ hk => hk.2) (.slice Ao94 y359.length co94)) (fun _ hk => trivial)⟩, ⟨by (with_reducible repeat (first | apply Kd.S_alloc | apply Kd.S_drewN | apply Kd.S_drew)); exact Kd.S_mono (Kd.S_far (p := ⟨gb309, 6, none⟩) (Kd.S_types HO_310005.out BK309.out (by decide)) (fun _ hk => hk.2) (.slice Ao94 y359.length co94)) (fun _ hk => trivial)⟩, ⟨by (with_reducible repeat (first | apply Kd.R_alloc | apply Kd.R_drewN | apply Kd.R_drew)); exact Kd.R_mono (Kd.R_far (p := ⟨gb309, 6, none⟩) (Kd.R_types HO361.out BK309.out (by decide)) (fun _ hk => hk.2) (.slice Ao94 y359.length co94)) (fun _ hk => trivial)⟩, ⟨blk_w BK295.out⟩, ⟨by (with_reducible repeat (first | refine blk_drewN ?_ _ | refine blk_drew ?_ | refine blk_alloc ?_ _)); refine blk_put (cs := #[.int .i64 t296, .int .i64 t298, .int .i64 t305, u310003, .int .i64 t307, u310005, u310006]) ?_ 6 _ rfl; (with_reducible repeat (first | refine blk_drewN ?_ _ | refine blk_drew ?_ | refine blk_alloc ?_ _)); exact BK309.out⟩, ⟨by exact IsS90.up HI0.out⟩, ⟨by exact keep_y HK.out⟩, ⟨by exact below_y HB.out⟩⟩
          ·
           rw [if_neg c89] at H
           exact absurd H (by simp)
         ·
          rw [if_neg c86] at H
          have c86b0 : decide (0 < x17_3) = false := decide_eq_false c86
          clear c86
          simp only [Option.some.injEq, Prod.mk.injEq] at H
          obtain ⟨rfl, rfl, rfl, rfl, rfl, rfl, rfl, rfl⟩ := H
          have hnb96 := NB309_295.out
          have hnc96 := NB295_309.out
          have hnb97 := NB309_0.out
          have hnc97 := NB0_309.out
          obtain ⟨_, _, _, _, _, _, _⟩ := cz7 BK309
          have hfz98_0 := blk_frozen BK309.out
          have hnb99 := NB295_0.out
          have hnc99 := NB0_295.out
          obtain ⟨_, _, _, _, _, _, _⟩ := cz7 BK295
          have hfz100_0 := blk_frozen BK295.out
          obtain ⟨Ao101, co101, eo101⟩ := Kd.R_slice HO_310003.out
          subst eo101
          obtain ⟨Ao102, co102, eo102⟩ := Kd.S_slice HO_310005.out
          subst eo102
          obtain ⟨Ao103, co103, eo103⟩ := Kd.R_slice HO_310006.out
          subst eo103
          go_wp2
          refine bodyPost_ret (results_cell_row rfl _ _ gb295 26 #[.int .i64 t296, .int .i64 t298, .int .i64 t305, .slice Ao101 x310003_1.length co101, .int .i64 t307, .slice Ao102 x310005_2.length co102, .slice Ao103 x310006_3.length co103] (0, 0) _ rfl (by (with_reducible repeat (first | refine blk_drewN ?_ _ | refine blk_drew ?_ | refine blk_alloc ?_ _)); refine blk_put (cs := #[.int .i64 t296, .int .i64 t298, .int .i64 t305, .slice Ao101 x310003_1.length co101, .int .i64 t307, .slice Ao102 x310005_2.length co102, .slice none 0 0]) ?_ 6 _ rfl; (with_reducible repeat (first | refine blk_drewN ?_ _ | refine blk_drew ?_ | refine blk_alloc ?_ _)); refine blk_put (cs := #[.int .i64 t296, .int .i64 t298, .int .i64 t305, .slice Ao101 x310003_1.length co101, .int .i64 t307, .slice none 0 0, .slice none 0 0]) ?_ 5 _ rfl; (with_reducible repeat (first | refine blk_drewN ?_ _ | refine blk_drew ?_ | refine blk_alloc ?_ _)); refine blk_put (cs := #[.int .i64 t296, .int .i64 t298, .int .i64 t305, .slice Ao101 x310003_1.length co101, .int .i64 0, .slice none 0 0, .slice none 0 0]) ?_ 4 _ rfl; (with_reducible repeat (first | refine blk_drewN ?_ _ | refine blk_drew ?_ | refine blk_alloc ?_ _)); refine blk_put (cs := #[.int .i64 t296, .int .i64 t298, .int .i64 t305, .slice none 0 0, .int .i64 0, .slice none 0 0, .slice none 0 0]) ?_ 3 _ rfl; (with_reducible repeat (first | refine blk_drewN ?_ _ | refine blk_drew ?_ | refine blk_alloc ?_ _)); refine blk_put (cs := #[.int .i64 t296, .int .i64 t298, .int .i64 0, .slice none 0 0, .int .i64 0, .slice none 0 0, .slice none 0 0]) ?_ 2 _ rfl; (with_reducible repeat (first | refine blk_drewN ?_ _ | refine blk_drew ?_ | refine blk_alloc ?_ _)); refine blk_put (cs := #[.int .i64 t296, .int .i64 0, .int .i64 0, .slice none 0 0, .int .i64 0, .slice none 0 0, .slice none 0 0]) ?_ 1 _ rfl; (with_reducible repeat (first | refine blk_drewN ?_ _ | refine blk_drew ?_ | refine blk_alloc ?_ _)); refine blk_put (cs := #[.int .i64 0, .int .i64 0, .int .i64 0, .slice none 0 0, .int .i64 0, .slice none 0 0, .slice none 0 0]) ?_ 0 _ rfl; (with_reducible repeat (first | refine blk_drewN ?_ _ | refine blk_drew ?_ | refine blk_alloc ?_ _)); exact BK295.out) Try.underlying26 rfl (by kernel_rfl)) rfl ?_
          exact ⟨_, _, _, by first | rfl | (simp [errW_none, errW_some] <;> rfl) | (simp [*, errW_none, errW_some] <;> rfl), by (with_reducible repeat (first | apply Kd.R_alloc | apply Kd.R_drewN | apply Kd.R_drew)); exact Kd.R_mono (Kd.R_far (p := ⟨gb295, 6, none⟩) (Kd.R_far (p := ⟨gb295, 5, none⟩) (Kd.R_far (p := ⟨gb295, 4, none⟩) (Kd.R_far (p := ⟨gb295, 3, none⟩) (Kd.R_far (p := ⟨gb295, 2, none⟩) (Kd.R_far (p := ⟨gb295, 1, none⟩) (Kd.R_far (p := ⟨gb295, 0, none⟩) (Kd.R_types HO_310003.out BK295.out (by decide)) (fun _ hk => hk.2) (.int .i64 t296)) (fun _ hk => hk.2) (.int .i64 t298)) (fun _ hk => hk.2) (.int .i64 t305)) (fun _ hk => hk.2) (.slice Ao101 x310003_1.length co101)) (fun _ hk => hk.2) (.int .i64 t307)) (fun _ hk => hk.2) (.slice Ao102 x310005_2.length co102)) (fun _ hk => hk.2) (.slice Ao103 x310006_3.length co103)) (fun _ hk => trivial), by (with_reducible repeat (first | apply Kd.S_alloc | apply Kd.S_drewN | apply Kd.S_drew)); exact Kd.S_mono (Kd.S_far (p := ⟨gb295, 6, none⟩) (Kd.S_far (p := ⟨gb295, 5, none⟩) (Kd.S_far (p := ⟨gb295, 4, none⟩) (Kd.S_far (p := ⟨gb295, 3, none⟩) (Kd.S_far (p := ⟨gb295, 2, none⟩) (Kd.S_far (p := ⟨gb295, 1, none⟩) (Kd.S_far (p := ⟨gb295, 0, none⟩) (Kd.S_types HO_310005.out BK295.out (by decide)) (fun _ hk => hk.2) (.int .i64 t296)) (fun _ hk => hk.2) (.int .i64 t298)) (fun _ hk => hk.2) (.int .i64 t305)) (fun _ hk => hk.2) (.slice Ao101 x310003_1.length co101)) (fun _ hk => hk.2) (.int .i64 t307)) (fun _ hk => hk.2) (.slice Ao102 x310005_2.length co102)) (fun _ hk => hk.2) (.slice Ao103 x310006_3.length co103)) (fun _ hk => trivial), by (with_reducible repeat (first | apply Kd.R_alloc | apply Kd.R_drewN | apply Kd.R_drew)); exact Kd.R_mono (Kd.R_far (p := ⟨gb295, 6, none⟩) (Kd.R_far (p := ⟨gb295, 5, none⟩) (Kd.R_far (p := ⟨gb295, 4, none⟩) (Kd.R_far (p := ⟨gb295, 3, none⟩) (Kd.R_far (p := ⟨gb295, 2, none⟩) (Kd.R_far (p := ⟨gb295, 1, none⟩) (Kd.R_far (p := ⟨gb295, 0, none⟩) (Kd.R_types HO_310006.out BK295.out (by decide)) (fun _ hk => hk.2) (.int .i64 t296)) (fun _ hk => hk.2) (.int .i64 t298)) (fun _ hk => hk.2) (.int .i64 t305)) (fun _ hk => hk.2) (.slice Ao101 x310003_1.length co101)) (fun _ hk => hk.2) (.int .i64 t307)) (fun _ hk => hk.2) (.slice Ao102 x310005_2.length co102)) (fun _ hk => hk.2) (.slice Ao103 x310006_3.length co103)) (fun _ hk => trivial), by exact IsS90.up HI0.out, by exact below_y HB.out, by exact keep_y HK.out⟩
end Go.Proofs.Ytodmemndaaiolaa.PC7
namespace Go.Proofs.Ytodmemndaaiolaa.PC7
set_option linter.unusedVariables false
set_option linter.unusedSimpArgs false
open Go.RowKit Go.Proofs.YtodmemndaaiolaaW.PrintWords Go.Proofs.YtodmemndaaiolaaW.PrintLast Go.Proofs.YtodmemndaaiolaaW.PrintMore
structure VoyV where
  light : Int
  under : Int
  trim : Int
  A3 : Option Addr
  c3 : Nat
  holds : List S85
  leaves : Int
  A5 : Option Addr
  c5 : Nat
  sills : List S59
  A6 : Option Addr
  c6 : Nat
  lots : List S79
structure VoyV.Ok (x : VoyV) (w : World) : Prop where
  h : Kd.C k85 w x.A3 x.holds.length x.holds
  hc : x.holds.length ≤ x.c3
  s : Kd.C k59 w x.A5 x.sills.length x.sills
  sc : x.sills.length ≤ x.c5
  l : Kd.C k79 w x.A6 x.lots.length x.lots
  lc : x.lots.length ≤ x.c6
theorem VoyV.Ok.below {x : VoyV} {w w' : World} (h : x.Ok w) (hb : Below w.heap.size w w') : x.Ok w' :=
  ⟨Kd.C_below h.h hb, h.hc, Kd.C_below h.s hb, h.sc, Kd.C_below h.l hb, h.lc⟩
theorem blk_ne_ {w : World} {a b : Nat} {t t' : TypeId} {cs cs' : Array Value} (ha : w.heap[a]? = some (.cells cs t (0, 0))) (hb : w.heap[b]? = some (.cells cs' t' (0, 0))) (h : t ≠ t') : a ≠ b := by
  rintro rfl
  rw [ha] at hb
  injection hb with hb
  injection hb with _ hb
  exact h hb
structure Q4 where
  b0 : Int
  b1 : Int
  h0 : Int
  h1 : Int
def ladS (h : S85) (t : S56) (q : Q4) : Q4 := ⟨wrap64 (q.b0 + wrap64 (t.f0 * h.f1)), wrap64 (q.b1 + wrap64 (t.f0 * h.f2)), wrap64 (q.h0 + wrap64 (t.f1 * h.f1)), wrap64 (q.h1 + wrap64 (t.f1 * h.f2))⟩
def ladO (holds : List S85) (lots : List S79) : Nat → List Int → Q4 → Option Q4
  | _, [], q => some q
  | i, a :: r, q => if a < 0 then ladO holds lots (i + 1) r q else if a < (holds.length : Int) then (if i < lots.length then ladO holds lots (i + 1) r (ladS (rd_T85 holds a) (rd_T79 lots (i : Int)).f0 q) else none) else none
def ladenO (light : Int) (holds : List S85) (lots : List S79) (s : List Int) : Option Q4 := ladO holds lots 0 s ⟨wrap64 (1000 * light), wrap64 (1000 * light), wrap64 (1000 * light), wrap64 (1000 * light)⟩
theorem drop_rd (l : List Int) (k : Nat) (h : k < l.length) : l.drop k = rd l (k : Int) :: l.drop (k + 1) := by
  rw [List.drop_eq_getElem_cons h]
  have : rd l (k : Int) = l[k] := by simp [rd, List.getD, h]
  rw [this]
theorem R_of_owns (k : IntKind) {e : Nat} {W : World} {base : Nat} {v : Value} {xs : List Int} (h : W.ownsRow base e 1 v xs.length (xs.map (Value.int k))) : Kd.R (Kd.int k) e W base (fun _ => True) v xs := by
  refine ⟨fun _ _ => trivial, xs.map (Value.int k), h, by rw [List.length_map]; exact (Nat.mul_one _).symm, fun j p hj => ?_⟩
  have hlt : j < xs.length := by
    by_cases hh : j < xs.length
    · exact hh
    · rw [List.getElem?_eq_none (by omega)] at hj; cases hj
  rw [List.getElem?_eq_getElem hlt] at hj
  obtain rfl := Option.some.inj hj
  show (List.take 1 (List.drop (j * 1) (xs.map (Value.int k)))) = [Value.int k xs[j]]
  rw [Nat.mul_one, List.drop_eq_getElem_cons (by simpa using hlt)]
  simp
theorem grow_below {w W w1 : World} {e size k : Nat} {v : Value} {xs : List Value} {tmp : Obj} (hB : Below w.heap.size w W) (hrow : W.ownsRow w.heap.size e size v k xs) (hgrow : (W.alloc tmp).grownBy w1 v.ownBlock) : Below w.heap.size w w1 :=
  (below_alloc hB tmp).grown hgrow (by have := hB.size; simp; omega) (fun j ej => own_base hrow j ej)
theorem infoInt : (Try.prog.info? 3).map (fun i => (i.zero, i.size, i.bytes)) = some (some (.int .i64 0), 1, 8) := by kernel_rfl
def waterOf (b : Bool) (l : S62) : Int := if b then l.f1.f1 else l.f1.f0
def passW (soon : Bool) : List S62 → Int → Int → Option Int
  | [], _, _ => none
  | [l], now, needs => if mx now l.f0 ≤ 2880 ∧ needs ≤ wrap64 (1000 * waterOf soon l) then some (mx now l.f0) else none
  | l :: l2 :: r, now, needs => if l2.f0 ≤ now then passW soon (l2 :: r) now needs else if mx now l.f0 ≤ 2880 ∧ needs ≤ wrap64 (1000 * waterOf soon l) then some (mx now l.f0) else passW soon (l2 :: r) (mx now l.f0) needs
def travelOf (soon : Bool) (s : S59) : Int := if soon then s.f0.f0 else s.f0.f1
def sailW (soon : Bool) : List S59 → Int → Int → List Int
  | [], _, _ => []
  | s :: r, now, needs => match passW soon s.f1 (wrap64 (now + travelOf soon s)) needs with
    | some t => t :: sailW soon r t needs
    | none => []
def needsW (under : Int) (q : Q4) (soon : Bool) : Int := wrap64 (mx (if soon then q.b0 else q.h0) (if soon then q.b1 else q.h1) + wrap64 (1000 * under))
def sailO (under leaves : Int) (sills : List S59) (q : Q4) (soon : Bool) : List Int := sailW soon sills leaves (needsW under q soon)
theorem sailW_len (soon : Bool) (l : List S59) : ∀ now needs, (sailW soon l now needs).length ≤ l.length := by
  induction l with
  | nil => intro now needs; exact Nat.le_refl _
  | cons s l ih =>
    intro now needs
    simp only [sailW]
    split
    · simpa using ih _ _
    · exact Nat.zero_le _
theorem drop_cons_of {α : Type} (l : List α) (k : Nat) (h : k < l.length) (d : α) : l.drop k = l.getD k d :: l.drop (k + 1) := by
  rw [List.drop_eq_getElem_cons h]
  have : l.getD k d = l[k] := by simp [List.getD, h]
  rw [this]
end Go.Proofs.Ytodmemndaaiolaa.PC7
namespace Go.Proofs.Ytodmemndaaiolaa.PC7
open Go.RowKit Go.Proofs.YtodmemndaaiolaaW.PrintWords Go.Proofs.YtodmemndaaiolaaW.PrintLast Go.Proofs.YtodmemndaaiolaaW.PrintMore
attribute [local go_sem] max2_int min2_int max_two min_two max_three min_three max_four min_four
set_option linter.unusedVariables false
set_option linter.unusedSimpArgs false
def ship_in.f (a0 : Int) (a1 : Int) (a2 : Int) : Option (Bool) := if a1 ≤ a0 then (some (decide (a0 ≤ a2))) else (some false)
set_option maxHeartbeats 8000000 in
set_option maxRecDepth 100000 in
theorem ship_in.calls (a0 : Int) (a1 : Int) (a2 : Int) (r : Bool) (w : World) (h : ship_in.f a0 a1 a2 = some r) :
  Calls Try.prog 72 #[.int .i64 a0, .int .i64 a1, .int .i64 a2] w fun e w' => e = .returned (.bool r) ∧ Drawn0 w w' := by
 have H : (if a1 ≤ a0 then (some (decide (a0 ≤ a2))) else (some false)) = some r := h
 clear h
 by_cases c4 : a1 ≤ a0
 ·
  rw [if_pos c4] at H
  have c4b0 : decide (a1 ≤ a0) = true := decide_eq_true c4
  clear c4
  obtain rfl := Option.some.inj H
  go_enter Try.func72, Try.ntmps72
  go_wp2
  go_ret
  exact ⟨by first | rfl | (simp; done) | (simp [*]; done), by repeat (first | exact Drawn0.refl _ | apply Drawn0.step)⟩
 ·
  rw [if_neg c4] at H
  have c4b0 : decide (a1 ≤ a0) = false := decide_eq_false c4
  clear c4
  obtain rfl := Option.some.inj H
  go_enter Try.func72, Try.ntmps72
  go_wp2
  go_ret
  exact ⟨by first | rfl | (simp; done) | (simp [*]; done), by repeat (first | exact Drawn0.refl _ | apply Drawn0.step)⟩
def ship_many.f (a0 : Int) (a1 : Int) : Option (Int) := if a0 = 0 then (some 7) else (if a0 > a1 then (some 6) else (some 0))
set_option maxHeartbeats 8000000 in
set_option maxRecDepth 100000 in
theorem ship_many.calls (a0 : Int) (a1 : Int) (r : Int) (w : World) (h : ship_many.f a0 a1 = some r) :
  Calls Try.prog 73 #[.int .i64 a0, .int .i64 a1] w fun e w' => e = .returned (.int .i64 r) ∧ Drawn0 w w' := by
 have H : (if a0 = 0 then (some 7) else (if a0 > a1 then (some 6) else (some 0))) = some r := h
 clear h
 by_cases c3 : a0 = 0
 ·
  rw [if_pos c3] at H
  have c3b0 : (a0 == 0) = true := beq_iff_eq.mpr c3
  have c3b1 : (a0 != 0) = false := bne_eq_false_iff_eq.mpr c3
  clear c3
  obtain rfl := Option.some.inj H
  go_enter Try.func73, Try.ntmps73
  go_wp2
  go_ret
  exact ⟨by first | rfl | (simp; done) | (simp [*]; done), by repeat (first | exact Drawn0.refl _ | apply Drawn0.step)⟩
 ·
  rw [if_neg c3] at H
  have c3b0 : (a0 == 0) = false := beq_eq_false_iff_ne.mpr c3
  have c3b1 : (a0 != 0) = true := bne_iff_ne.mpr c3
  by_cases c4 : a0 > a1
  ·
   rw [if_pos c4] at H
   have c4b0 : decide (a1 < a0) = true := decide_eq_true c4
   clear c4
   obtain rfl := Option.some.inj H
   go_enter Try.func73, Try.ntmps73
   go_wp2
   go_ret
   exact ⟨by first | rfl | (simp; done) | (simp [*]; done), by repeat (first | exact Drawn0.refl _ | apply Drawn0.step)⟩
  ·
   rw [if_neg c4] at H
   have c4b0 : decide (a1 < a0) = false := decide_eq_false c4
   clear c4
   obtain rfl := Option.some.inj H
   go_enter Try.func73, Try.ntmps73
   go_wp2
   go_ret
   exact ⟨by first | rfl | (simp; done) | (simp [*]; done), by repeat (first | exact Drawn0.refl _ | apply Drawn0.step)⟩
def ship_checkRange.j0 : Nat → Bool → Int → Int → Option (Int)
 | 0, _, _, _ => none
 | k + 1, x5, x109000, x109001 => if x5 = true then (some 1) else (if x109000 > x109001 then (some 5) else (some 0))
def ship_checkRange.f (k : Nat) (a0_0 : Int) (a0_1 : Int) (a1 : Int) : Option (Int) := (ship_in.f a0_0 0 a1).bind fun t109 => (if t109 = true then ((ship_in.f a0_1 0 a1).bind fun t110 => (ship_checkRange.j0 k (!t110) a0_0 a0_1)) else (ship_checkRange.j0 k (!t109) a0_0 a0_1))
theorem ship_checkRange.mono_l : ∀ k, (∀ y0 y1 y2, LeO (ship_checkRange.j0 k y0 y1 y2) (ship_checkRange.j0 (k + 1) y0 y1 y2))
 | 0 => fun _ _ _ r h => by simp [ship_checkRange.j0] at h
 | k + 1 => by
  have ih0 := ship_checkRange.mono_l k
  ·
   intro y0 y1 y2
   unfold ship_checkRange.j0
   repeat' first
   | (with_reducible exact ih0 _ _ _)
   | (with_reducible exact LeO.refl _)
   | (with_reducible exact LeO.none _)
   | (with_reducible refine LeO.ite ?_ ?_)
   | (with_reducible refine LeO.bind ?_ (fun _ => ?_))
   | exact ih0 _ _ _
   | exact LeO.none _
   | refine LeO.ite ?_ ?_
   | refine LeO.bind ?_ (fun _ => ?_)
theorem ship_checkRange.mono : ∀ a0 a1 a2 k, LeO (ship_checkRange.f k a0 a1 a2) (ship_checkRange.f (k + 1) a0 a1 a2) := by
 intro a0 a1 a2 k
 have ih0 := ship_checkRange.mono_l k
 unfold ship_checkRange.f
 repeat' first
   | (with_reducible exact ih0 _ _ _)
   | (with_reducible exact LeO.refl _)
   | (with_reducible exact LeO.none _)
   | (with_reducible refine LeO.ite ?_ ?_)
   | (with_reducible refine LeO.bind ?_ (fun _ => ?_))
   | exact ih0 _ _ _
   | exact LeO.none _
   | refine LeO.ite ?_ ?_
   | refine LeO.bind ?_ (fun _ => ?_)
set_option maxHeartbeats 8000000 in
set_option maxRecDepth 100000 in
theorem ship_checkRange.calls (k : Nat) (a0_0 : Int) (a0_1 : Int) (a1 : Int) (r : Int) (w : World) (h : ship_checkRange.f k a0_0 a0_1 a1 = some r) :
  Calls Try.prog 75 #[.agg #[.int .i64 a0_0, .int .i64 a0_1], .int .i64 a1] w fun e w' => e = .returned (.int .i64 r) ∧ Below w.heap.size w w' := by
 have hu56 := Try.underlying56
 have HB := Aside0.mk (Below.refl w.heap.size w)
 have H : ((ship_in.f a0_0 0 a1).bind fun t109 => (if t109 = true then ((ship_in.f a0_1 0 a1).bind fun t110 => (ship_checkRange.j0 k (!t110) a0_0 a0_1)) else (ship_checkRange.j0 k (!t109) a0_0 a0_1))) = some r := h
 clear h
 replace H := Option.bind_eq_some_iff.mp H
 obtain ⟨t109, A30, H⟩ := H
 try dsimp only at H
 have A3 := Aside0.mk A30
 clear A30
 have HC4 := Aside0.mk H
 clear H
 go_enter Try.func75, Try.ntmps75
 go_upto_if 5 with (first | ((with_reducible refine gate_dst (N := 2) rfl ?_); refine box_event ?hg (N := 2) ?hd (cs := #[.int .i64 a0_0, .int .i64 a0_1]) (t := 56) ?hr ?_; (case hd => rfl); (case hg => rfl); (case hr => first | (go_simp; done) | (go_simp; rfl)); intro gb108 hg w5 hbox hb; have BK108 := Aside0.mk (hbox); have GW108 := Aside0.mk ((by rw [hg]; exact (below_size (below_x HB.out)) : w.heap.size ≤ gb108)); have GE108 := Aside0.mk ((by rw [hg]; exact (below_size (below_x HB.out)) : w.heap.size ≤ gb108)); replace HB := Aside0.mk (below_step (below_x HB.out) hb); clear hb hbox hg; obtain ⟨_, _⟩ := cz2 BK108; have hfz6_0 := blk_frozen BK108.out) | ((with_reducible refine gate_callee (f := 72) rfl ?_); refine goesL_ (some 9) rfl rfl Try.func72 (by kernel_rfl) rfl #[.int .i64 a0_0, .int .i64 0, .int .i64 a1] rfl (by (try simp only [List.map_toArray, List.map_cons, List.map_nil]); first | done | rfl | (simp only [List.length_drop, List.length_take]; rfl)) ?_; (with_reducible refine (ship_in.calls a0_0 0 a1 t109 _ A3.out).mono ?_); rintro e w' ⟨rfl, ⟨nd, rfl⟩⟩; refine ⟨_, rfl, ?_⟩))
 (try simp only [Act.put, put_x])
 go_cut [5] (fun v5 wc => ∃ (kq : Nat) (x5_3 : Bool), v5 = .bool x5_3 ∧ Aside0 (ship_checkRange.j0 kq x5_3 a0_0 a0_1 = some r) ∧ Aside0 (kq ≤ k) ∧ Aside0 (wc.heap[gb108]? = some (.cells #[.int .i64 a0_0, .int .i64 a0_1] 56 (0, 0))) ∧ Aside0 (Below w.heap.size w wc))
 case first =>
  have H := HC4.out
  clear HC4
  by_cases c7 : t109 = true
  ·
   subst c7
   have H1 : ((ship_in.f a0_1 0 a1).bind fun t110 => (ship_checkRange.j0 k (!t110) a0_0 a0_1)) = some r := by rw [if_pos rfl] at H; exact H
   clear H
   have H := H1
   clear H1
   replace H := Option.bind_eq_some_iff.mp H
   obtain ⟨t110, A80, H⟩ := H
   replace H : (ship_checkRange.j0 k (!t110) a0_0 a0_1) = some r := H
   have A8 := Aside0.mk A80
   clear A80
   have H' := Aside0.mk H
   clear H
   obtain ⟨_, _⟩ := cz2 BK108
   have hfz9_0 := blk_frozen BK108.out
   go_wp2_with (first | ((with_reducible refine gate_callee (f := 72) rfl ?_); refine goesL_ (some 14) rfl rfl Try.func72 (by kernel_rfl) rfl #[.int .i64 a0_1, .int .i64 0, .int .i64 a1] rfl (by (try simp only [List.map_toArray, List.map_cons, List.map_nil]); first | done | rfl | (simp only [List.length_drop, List.length_take]; rfl)) ?_; (with_reducible refine (ship_in.calls a0_1 0 a1 t110 _ A8.out).mono ?_); rintro e w' ⟨rfl, ⟨nd, rfl⟩⟩; refine ⟨_, rfl, ?_⟩))
   go_meet
   case rel => exact ⟨_, (!t110), (by first | rfl | (simp; done) | (simp [*]; done)), H', ⟨by first | omega | exact Nat.le_refl _⟩, ⟨blk_x BK108.out⟩, ⟨by exact below_y HB.out⟩⟩
  ·
   replace c7 := Bool.eq_false_iff.mpr c7
   subst c7
   have H1 : (ship_checkRange.j0 k (!false) a0_0 a0_1) = some r := by rw [if_neg (show ¬ (false = true) by decide)] at H; exact H
   clear H
   have H := H1
   clear H1
   have H' := Aside0.mk H
   clear H
   go_wp2
   go_meet
   case rel => exact ⟨_, (!false), (by first | rfl | (simp; done) | (simp [*]; done)), H', ⟨by first | omega | exact Nat.le_refl _⟩, ⟨blk_x BK108.out⟩, ⟨by exact below_y HB.out⟩⟩
 case rest =>
  clear HC4
  obtain ⟨kq, x5_3, rfl, HA, HJ3, BK108, HB⟩ := hcut
  cases kq with
  | zero => exact absurd HA.out (by simp [ship_checkRange.j0])
  | succ kj3 =>
   have H := HA.out
   clear HA
   simp only [ship_checkRange.j0] at H
   by_cases c10 : x5_3 = true
   ·
    subst c10
    have H1 : (some 1) = some r := by rw [if_pos rfl] at H; exact H
    clear H
    have H := H1
    clear H1
    obtain rfl := Option.some.inj H
    go_wp2
    go_ret
    exact ⟨by first | rfl | (simp [errW_none, errW_some] <;> rfl) | (simp [*, errW_none, errW_some] <;> rfl), by exact below_y HB.out⟩
   ·
    replace c10 := Bool.eq_false_iff.mpr c10
    subst c10
    have H1 : (if a0_0 > a0_1 then (some 5) else (some 0)) = some r := by rw [if_neg (show ¬ (false = true) by decide)] at H; exact H
    clear H
    have H := H1
    clear H1
    by_cases c11 : a0_0 > a0_1
    ·
     rw [if_pos c11] at H
     have c11b0 : decide (a0_1 < a0_0) = true := decide_eq_true c11
     clear c11
     obtain rfl := Option.some.inj H
     obtain ⟨_, _⟩ := cz2 BK108
     have hfz12_0 := blk_frozen BK108.out
     go_wp2
     go_ret
     exact ⟨by first | rfl | (simp [errW_none, errW_some] <;> rfl) | (simp [*, errW_none, errW_some] <;> rfl), by exact below_y HB.out⟩
    ·
     rw [if_neg c11] at H
     have c11b0 : decide (a0_1 < a0_0) = false := decide_eq_false c11
     clear c11
     obtain rfl := Option.some.inj H
     obtain ⟨_, _⟩ := cz2 BK108
     have hfz13_0 := blk_frozen BK108.out
     go_wp2
     go_ret
     exact ⟨by first | rfl | (simp [errW_none, errW_some] <;> rfl) | (simp [*, errW_none, errW_some] <;> rfl), by exact below_y HB.out⟩
mutual
def ship_checkSill.l0 : Nat → List (S62) → Int → Int → Int → Int → List (S62) → Option (Int)
 | 0, _, _, _, _, _, _ => none
 | k + 1, x22, x23, x24, x112000, x112001, x112002 => if x24 < x23 then (if 0 ≤ x24 then (if x24 < (x22.length : Int) then ((ship_in.f ((rd_T62 x22 x24).f0) 0 2880).bind fun t116 => (if t116 = true then (if x24 = 0 then (ship_checkSill.j1 k x24 x22 x23 x24 (((rd_T62 x22 x24).f0) != 0) x112000 x112001 x112002 ((rd_T62 x22 x24).f0) ((rd_T62 x22 x24).f1.f0) ((rd_T62 x22 x24).f1.f1)) else (ship_checkSill.j1 k x24 x22 x23 x24 false x112000 x112001 x112002 ((rd_T62 x22 x24).f0) ((rd_T62 x22 x24).f1.f0) ((rd_T62 x22 x24).f1.f1))) else (some 1))) else (none)) else (none)) else (some 0)
def ship_checkSill.j1 : Nat → Int → List (S62) → Int → Int → Bool → Int → Int → List (S62) → Int → Int → Int → Option (Int)
 | 0, _, _, _, _, _, _, _, _, _, _, _ => none
 | k + 1, x5, x22, x23, x24, x34, x112000, x112001, x112002, x116000, x116001, x116002 => if x34 = true then (some 2) else (if x5 > 0 then (if 0 ≤ (wrap64 (x5 - 1)) then (if (wrap64 (x5 - 1)) < (x112002.length : Int) then (ship_checkSill.j2 k x22 x23 x24 (decide (x116000 ≤ ((rd_T62 x112002 (wrap64 (x5 - 1))).f0))) x112000 x112001 x112002 x116000 x116001 x116002) else (none)) else (none)) else (ship_checkSill.j2 k x22 x23 x24 false x112000 x112001 x112002 x116000 x116001 x116002))
def ship_checkSill.j2 : Nat → List (S62) → Int → Int → Bool → Int → Int → List (S62) → Int → Int → Int → Option (Int)
 | 0, _, _, _, _, _, _, _, _, _, _ => none
 | k + 1, x22, x23, x24, x42, x112000, x112001, x112002, x116000, x116001, x116002 => if x42 = true then (some 5) else ((ship_checkRange.f k x116001 x116002 10000).bind fun t118 => (if t118 = 0 then (ship_checkSill.l0 k x22 x23 (wrap64 (x24 + 1)) x112000 x112001 x112002) else (some t118)))
end
def ship_checkSill.f (k : Nat) (a0_0 : Int) (a0_1 : Int) (l0_2 : List (S62)) : Option (Int) := (ship_checkRange.f k a0_0 a0_1 2880).bind fun t112 => (if t112 = 0 then ((ship_many.f (l0_2.length : Int) 6).bind fun t113 => (if t113 = 0 then (ship_checkSill.l0 k l0_2 (l0_2.length : Int) 0 a0_0 a0_1 l0_2) else (some t113))) else (some t112))
theorem ship_checkSill.mono_l : ∀ k, (∀ y0 y1 y2 y3 y4 y5, LeO (ship_checkSill.l0 k y0 y1 y2 y3 y4 y5) (ship_checkSill.l0 (k + 1) y0 y1 y2 y3 y4 y5)) ∧ (∀ y0 y1 y2 y3 y4 y5 y6 y7 y8 y9 y10, LeO (ship_checkSill.j1 k y0 y1 y2 y3 y4 y5 y6 y7 y8 y9 y10) (ship_checkSill.j1 (k + 1) y0 y1 y2 y3 y4 y5 y6 y7 y8 y9 y10)) ∧ (∀ y0 y1 y2 y3 y4 y5 y6 y7 y8 y9, LeO (ship_checkSill.j2 k y0 y1 y2 y3 y4 y5 y6 y7 y8 y9) (ship_checkSill.j2 (k + 1) y0 y1 y2 y3 y4 y5 y6 y7 y8 y9))
 | 0 => ⟨fun _ _ _ _ _ _ r h => by simp [ship_checkSill.l0] at h, fun _ _ _ _ _ _ _ _ _ _ _ r h => by simp [ship_checkSill.j1] at h, fun _ _ _ _ _ _ _ _ _ _ r h => by simp [ship_checkSill.j2] at h⟩
 | k + 1 => by
  obtain ⟨ih0, ih1, ih2⟩ := ship_checkSill.mono_l k
  refine ⟨?_, ?_, ?_⟩
  ·
   intro y0 y1 y2 y3 y4 y5
   unfold ship_checkSill.l0
   repeat' first
   | (with_reducible exact ih0 _ _ _ _ _ _)
   | (with_reducible exact ih1 _ _ _ _ _ _ _ _ _ _ _)
   | (with_reducible exact ih2 _ _ _ _ _ _ _ _ _ _)
   | (with_reducible exact ship_checkRange.mono _ _ _ _)
   | (with_reducible exact LeO.refl _)
   | (with_reducible exact LeO.none _)
   | (with_reducible refine LeO.ite ?_ ?_)
   | (with_reducible refine LeO.bind ?_ (fun _ => ?_))
   | exact ih0 _ _ _ _ _ _
   | exact ih1 _ _ _ _ _ _ _ _ _ _ _
   | exact ih2 _ _ _ _ _ _ _ _ _ _
   | exact ship_checkRange.mono _ _ _ _
   | exact LeO.none _
   | refine LeO.ite ?_ ?_
   | refine LeO.bind ?_ (fun _ => ?_)
  ·
   intro y0 y1 y2 y3 y4 y5 y6 y7 y8 y9 y10
   unfold ship_checkSill.j1
   repeat' first
   | (with_reducible exact ih0 _ _ _ _ _ _)
   | (with_reducible exact ih1 _ _ _ _ _ _ _ _ _ _ _)
   | (with_reducible exact ih2 _ _ _ _ _ _ _ _ _ _)
   | (with_reducible exact ship_checkRange.mono _ _ _ _)
   | (with_reducible exact LeO.refl _)
   | (with_reducible exact LeO.none _)
   | (with_reducible refine LeO.ite ?_ ?_)
   | (with_reducible refine LeO.bind ?_ (fun _ => ?_))
   | exact ih0 _ _ _ _ _ _
   | exact ih1 _ _ _ _ _ _ _ _ _ _ _
   | exact ih2 _ _ _ _ _ _ _ _ _ _
   | exact ship_checkRange.mono _ _ _ _
   | exact LeO.none _
   | refine LeO.ite ?_ ?_
   | refine LeO.bind ?_ (fun _ => ?_)
  ·
   intro y0 y1 y2 y3 y4 y5 y6 y7 y8 y9
   unfold ship_checkSill.j2
   repeat' first
   | (with_reducible exact ih0 _ _ _ _ _ _)
   | (with_reducible exact ih1 _ _ _ _ _ _ _ _ _ _ _)
   | (with_reducible exact ih2 _ _ _ _ _ _ _ _ _ _)
   | (with_reducible exact ship_checkRange.mono _ _ _ _)
   | (with_reducible exact LeO.refl _)
   | (with_reducible exact LeO.none _)
   | (with_reducible refine LeO.ite ?_ ?_)
   | (with_reducible refine LeO.bind ?_ (fun _ => ?_))
   | exact ih0 _ _ _ _ _ _
   | exact ih1 _ _ _ _ _ _ _ _ _ _ _
   | exact ih2 _ _ _ _ _ _ _ _ _ _
   | exact ship_checkRange.mono _ _ _ _
   | exact LeO.none _
   | refine LeO.ite ?_ ?_
   | refine LeO.bind ?_ (fun _ => ?_)
theorem ship_checkSill.mono : ∀ a0 a1 a2 k, LeO (ship_checkSill.f k a0 a1 a2) (ship_checkSill.f (k + 1) a0 a1 a2) := by
 intro a0 a1 a2 k
 obtain ⟨ih0, ih1, ih2⟩ := ship_checkSill.mono_l k
 unfold ship_checkSill.f
 repeat' first
   | (with_reducible exact ih0 _ _ _ _ _ _)
   | (with_reducible exact ih1 _ _ _ _ _ _ _ _ _ _ _)
   | (with_reducible exact ih2 _ _ _ _ _ _ _ _ _ _)
   | (with_reducible exact ship_checkRange.mono _ _ _ _)
   | (with_reducible exact LeO.refl _)
   | (with_reducible exact LeO.none _)
   | (with_reducible refine LeO.ite ?_ ?_)
   | (with_reducible refine LeO.bind ?_ (fun _ => ?_))
   | exact ih0 _ _ _ _ _ _
   | exact ih1 _ _ _ _ _ _ _ _ _ _ _
   | exact ih2 _ _ _ _ _ _ _ _ _ _
   | exact ship_checkRange.mono _ _ _ _
   | exact LeO.none _
   | refine LeO.ite ?_ ?_
   | refine LeO.bind ?_ (fun _ => ?_)
set_option maxHeartbeats 8000000 in
set_option maxRecDepth 100000 in
theorem ship_checkSill.calls (k : Nat) (a0_0 : Int) (a0_1 : Int) (A0_2 : Option Addr) (c0_2 : Nat) (l0_2 : List (S62)) (r : Int) (w : World) (hr0_2 : Kd.C k62 w A0_2 l0_2.length l0_2) (hc0_2 : l0_2.length ≤ c0_2) (h : ship_checkSill.f k a0_0 a0_1 l0_2 = some r) :
  Calls Try.prog 74 #[.agg #[.int .i64 a0_0, .int .i64 a0_1, .slice A0_2 l0_2.length c0_2]] w fun e w' => e = .returned (.int .i64 r) ∧ Below w.heap.size w w' := by
 have hu59 := Try.underlying59
 have hu56 := Try.underlying56
 have hu62 := Try.underlying62
 have HR0_2 := Aside0.mk hr0_2
 have HC0_2 := Aside0.mk hc0_2
 clear hr0_2 hc0_2
 have HB := Aside0.mk (Below.refl w.heap.size w)
 have H : ((ship_checkRange.f k a0_0 a0_1 2880).bind fun t112 => (if t112 = 0 then ((ship_many.f (l0_2.length : Int) 6).bind fun t113 => (if t113 = 0 then (ship_checkSill.l0 k l0_2 (l0_2.length : Int) 0 a0_0 a0_1 l0_2) else (some t113))) else (some t112))) = some r := h
 clear h
 replace H := Option.bind_eq_some_iff.mp H
 obtain ⟨t112, A20, H⟩ := H
 try dsimp only at H
 have A2 := Aside0.mk A20
 clear A20
 by_cases c3 : t112 = 0
 ·
  rw [if_pos c3] at H
  have c3b0 : (t112 == 0) = true := beq_iff_eq.mpr c3
  have c3b1 : (t112 != 0) = false := bne_eq_false_iff_eq.mpr c3
  clear c3
  replace H := Option.bind_eq_some_iff.mp H
  obtain ⟨t113, A40, H⟩ := H
  try dsimp only at H
  have A4 := Aside0.mk A40
  clear A40
  by_cases c5 : t113 = 0
  ·
   rw [if_pos c5] at H
   have c5b0 : (t113 == 0) = true := beq_iff_eq.mpr c5
   have c5b1 : (t113 != 0) = false := bne_eq_false_iff_eq.mpr c5
   clear c5
   have H' := Aside0.mk H
   clear H
   go_enter Try.func74, Try.ntmps74
   go_wp2_with (first | ((with_reducible refine gate_dst (N := 1) rfl ?_); refine box_event ?hg (N := 1) ?hd (cs := #[.int .i64 a0_0, .int .i64 a0_1, .slice A0_2 l0_2.length c0_2]) (t := 59) ?hr ?_; (case hd => rfl); (case hg => rfl); (case hr => first | (go_simp; done) | (go_simp; rfl)); intro gb111 hg w6 hbox hb; have BK111 := Aside0.mk (hbox); have GW111 := Aside0.mk ((by rw [hg]; exact (below_size (below_x HB.out)) : w.heap.size ≤ gb111)); have GE111 := Aside0.mk ((by rw [hg]; exact (below_size (below_x HB.out)) : w.heap.size ≤ gb111)); replace HB := Aside0.mk (below_step (below_x HB.out) hb); clear hb hbox hg; obtain ⟨_, _, _⟩ := cz3 BK111; have hfz7_0 := blk_frozen BK111.out) | (go_at_call 75; (with_reducible refine (ship_checkRange.calls k a0_0 a0_1 2880 t112 _ A2.out).mono ?_); rintro e w8 ⟨rfl, hb⟩; replace BK111 := Aside0.mk (blk_below (blk_x BK111.out) hb); replace HB := bl_x HB hb; (try clear hb); (try clear hk); (try clear hi); obtain ⟨_, _, _⟩ := cz3 BK111; have hfz9_0 := blk_frozen BK111.out) | (go_at_call 73; (with_reducible refine (ship_many.calls (l0_2.length : Int) 6 t113 _ A4.out).mono ?_); rintro e w' ⟨rfl, ⟨nd, rfl⟩⟩; (try first | exact ⟨rfl, _, World.drewN_drewN _ _ _⟩ | exact ⟨rfl, _, Eq.trans (World.drewN_drewN _ _ _) (congrArg (World.drewN _) (Nat.add_assoc _ _ _))⟩)))
   repeat (go_quiet (first | ((with_reducible refine gate_dst (N := 1) rfl ?_); refine box_event ?hg (N := 1) ?hd (cs := #[.int .i64 a0_0, .int .i64 a0_1, .slice A0_2 l0_2.length c0_2]) (t := 59) ?hr ?_; (case hd => rfl); (case hg => rfl); (case hr => first | (go_simp; done) | (go_simp; rfl)); intro gb111 hg w6 hbox hb; have BK111 := Aside0.mk (hbox); have GW111 := Aside0.mk ((by rw [hg]; exact (below_size (below_x HB.out)) : w.heap.size ≤ gb111)); have GE111 := Aside0.mk ((by rw [hg]; exact (below_size (below_x HB.out)) : w.heap.size ≤ gb111)); replace HB := Aside0.mk (below_step (below_x HB.out) hb); clear hb hbox hg; obtain ⟨_, _, _⟩ := cz3 BK111; have hfz7_0 := blk_frozen BK111.out) | (go_at_call 75; (with_reducible refine (ship_checkRange.calls k a0_0 a0_1 2880 t112 _ A2.out).mono ?_); rintro e w8 ⟨rfl, hb⟩; replace BK111 := Aside0.mk (blk_below (blk_x BK111.out) hb); replace HB := bl_x HB hb; (try clear hb); (try clear hk); (try clear hi); obtain ⟨_, _, _⟩ := cz3 BK111; have hfz9_0 := blk_frozen BK111.out) | (go_at_call 73; (with_reducible refine (ship_many.calls (l0_2.length : Int) 6 t113 _ A4.out).mono ?_); rintro e w' ⟨rfl, ⟨nd, rfl⟩⟩; (try first | exact ⟨rfl, _, World.drewN_drewN _ _ _⟩ | exact ⟨rfl, _, Eq.trans (World.drewN_drewN _ _ _) (congrArg (World.drewN _) (Nat.add_assoc _ _ _))⟩))); try go_wp2_with (first | ((with_reducible refine gate_dst (N := 1) rfl ?_); refine box_event ?hg (N := 1) ?hd (cs := #[.int .i64 a0_0, .int .i64 a0_1, .slice A0_2 l0_2.length c0_2]) (t := 59) ?hr ?_; (case hd => rfl); (case hg => rfl); (case hr => first | (go_simp; done) | (go_simp; rfl)); intro gb111 hg w6 hbox hb; have BK111 := Aside0.mk (hbox); have GW111 := Aside0.mk ((by rw [hg]; exact (below_size (below_x HB.out)) : w.heap.size ≤ gb111)); have GE111 := Aside0.mk ((by rw [hg]; exact (below_size (below_x HB.out)) : w.heap.size ≤ gb111)); replace HB := Aside0.mk (below_step (below_x HB.out) hb); clear hb hbox hg; obtain ⟨_, _, _⟩ := cz3 BK111; have hfz7_0 := blk_frozen BK111.out) | (go_at_call 75; (with_reducible refine (ship_checkRange.calls k a0_0 a0_1 2880 t112 _ A2.out).mono ?_); rintro e w8 ⟨rfl, hb⟩; replace BK111 := Aside0.mk (blk_below (blk_x BK111.out) hb); replace HB := bl_x HB hb; (try clear hb); (try clear hk); (try clear hi); obtain ⟨_, _, _⟩ := cz3 BK111; have hfz9_0 := blk_frozen BK111.out) | (go_at_call 73; (with_reducible refine (ship_many.calls (l0_2.length : Int) 6 t113 _ A4.out).mono ?_); rintro e w' ⟨rfl, ⟨nd, rfl⟩⟩; (try first | exact ⟨rfl, _, World.drewN_drewN _ _ _⟩ | exact ⟨rfl, _, Eq.trans (World.drewN_drewN _ _ _) (congrArg (World.drewN _) (Nat.add_assoc _ _ _))⟩))))
   go_loopg [24] k (fun kq v24 w' => ∃ (x24_1 : Int), v24 = .int .i64 x24_1 ∧ Aside0 (ship_checkSill.l0 kq l0_2 (l0_2.length : Int) x24_1 a0_0 a0_1 l0_2 = some r) ∧ Aside0 (kq ≤ k) ∧ Aside0 (w'.heap[gb111]? = some (.cells #[.int .i64 a0_0, .int .i64 a0_1, (.slice A0_2 l0_2.length c0_2)] 59 (0, 0))) ∧ Aside0 (Below w.heap.size w w'))
   case atStart => exact ⟨(0), (by first | rfl | (simp; done) | (simp [*]; done)), H', ⟨Nat.le_refl _⟩, ⟨blk_x BK111.out⟩, ⟨by exact below_y HB.out⟩⟩
   case round =>
    clear H'
    obtain ⟨x24_1, rfl, HA, HK1, BK111, HB⟩ := hrel
    cases gk with
    | zero => exact absurd HA.out (by simp [ship_checkSill.l0])
    | succ k1 =>
     have H := HA.out
     clear HA
     simp only [ship_checkSill.l0] at H
     by_cases c10 : x24_1 < (l0_2.length : Int)
     ·
      rw [if_pos c10] at H
      have c10b0 : decide (x24_1 < (l0_2.length : Int)) = true := decide_eq_true c10
      clear c10
      by_cases c11 : 0 ≤ x24_1
      ·
       rw [if_pos c11] at H
       have c11b0 : decide (0 ≤ x24_1) = true := decide_eq_true c11
       clear c11
       by_cases c12 : x24_1 < (l0_2.length : Int)
       ·
        rw [if_pos c12] at H
        have c12b0 : decide (x24_1 < (l0_2.length : Int)) = true := decide_eq_true c12
        clear c12
        replace H := Option.bind_eq_some_iff.mp H
        obtain ⟨t116, A130, H⟩ := H
        try dsimp only at H
        have A13 := Aside0.mk A130
        clear A130
        by_cases c14 : t116 = true
        ·
         subst c14
         have H1 : (if x24_1 = 0 then (ship_checkSill.j1 k1 x24_1 l0_2 (l0_2.length : Int) x24_1 (((rd_T62 l0_2 x24_1).f0) != 0) a0_0 a0_1 l0_2 ((rd_T62 l0_2 x24_1).f0) ((rd_T62 l0_2 x24_1).f1.f0) ((rd_T62 l0_2 x24_1).f1.f1)) else (ship_checkSill.j1 k1 x24_1 l0_2 (l0_2.length : Int) x24_1 false a0_0 a0_1 l0_2 ((rd_T62 l0_2 x24_1).f0) ((rd_T62 l0_2 x24_1).f1.f0) ((rd_T62 l0_2 x24_1).f1.f1))) = some r := by rw [if_pos rfl] at H; exact H
         clear H
         have H := H1
         clear H1
         have HC15 := Aside0.mk H
         clear H
         have p114 : 0 ≤ (x24_1 : Int) := of_x
         have q114 : x24_1 < (l0_2.length : Int) := of_x
         obtain ⟨ad114, e114, hx114_0, hx114_1, hx114_2⟩ := at_T62 HR0_2.out x24_1 p114 q114
         cases e114
         replace hx114_0 := cell_x HB hx114_0
         replace hx114_1 := cell_x HB hx114_1
         replace hx114_2 := cell_x HB hx114_2
         replace p114 := eq_true p114
         replace q114 := eq_true q114
         go_upto_region 12 with (first | ((with_reducible refine gate_dst (N := 6) rfl ?_); refine box_event ?hg (N := 6) ?hd (cs := #[.int .i64 0, .int .i64 0, .int .i64 0]) (t := 62) ?hr ?_; (case hd => rfl); (case hg => rfl); (case hr => first | (go_simp; done) | (go_simp; rfl)); intro gb115 hg w16 hbox hb; have BK115 := Aside0.mk (hbox); have GW115 := Aside0.mk ((by rw [hg]; exact (below_size (by exact below_y HB.out)) : w.heap.size ≤ gb115)); have GE115 := Aside0.mk ((by rw [hg]; exact (below_size (by exact below_y HB.out)) : w.heap.size ≤ gb115)); replace HB := bl_x HB hb; have NB111_115 := Aside0.mk ((by rw [hg]; exact Nat.ne_of_lt (blk_lt (g := gb111) (o := .cells #[.int .i64 a0_0, .int .i64 a0_1, .slice (some ad114) l0_2.length c0_2] 59 (0, 0)) (blk_x BK111.out)) : gb111 ≠ gb115)); have NB115_111 := Aside0.mk ((by rw [hg]; exact Nat.ne_of_gt (blk_lt (g := gb111) (o := .cells #[.int .i64 a0_0, .int .i64 a0_1, .slice (some ad114) l0_2.length c0_2] 59 (0, 0)) (blk_x BK111.out)) : gb115 ≠ gb111)); replace BK111 := Aside0.mk (blk_below (blk_x BK111.out) hb); clear hb hbox hg; have hnb17 := NB115_111.out; have hnc17 := NB111_115.out; obtain ⟨_, _, _⟩ := cz3 BK115; have hfz18_0 := blk_frozen BK115.out) | (go_at_call 72; (with_reducible refine (ship_in.calls ((rd_T62 l0_2 x24_1).f0) 0 2880 true _ A13.out).mono ?_); rintro e w' ⟨rfl, ⟨nd, rfl⟩⟩; (try first | exact ⟨rfl, _, World.drewN_drewN _ _ _⟩ | exact ⟨rfl, _, Eq.trans (World.drewN_drewN _ _ _) (congrArg (World.drewN _) (Nat.add_assoc _ _ _))⟩)))
         repeat (go_quiet (first | ((with_reducible refine gate_dst (N := 6) rfl ?_); refine box_event ?hg (N := 6) ?hd (cs := #[.int .i64 0, .int .i64 0, .int .i64 0]) (t := 62) ?hr ?_; (case hd => rfl); (case hg => rfl); (case hr => first | (go_simp; done) | (go_simp; rfl)); intro gb115 hg w16 hbox hb; have BK115 := Aside0.mk (hbox); have GW115 := Aside0.mk ((by rw [hg]; exact (below_size (by exact below_y HB.out)) : w.heap.size ≤ gb115)); have GE115 := Aside0.mk ((by rw [hg]; exact (below_size (by exact below_y HB.out)) : w.heap.size ≤ gb115)); replace HB := bl_x HB hb; have NB111_115 := Aside0.mk ((by rw [hg]; exact Nat.ne_of_lt (blk_lt (g := gb111) (o := .cells #[.int .i64 a0_0, .int .i64 a0_1, .slice (some ad114) l0_2.length c0_2] 59 (0, 0)) (blk_x BK111.out)) : gb111 ≠ gb115)); have NB115_111 := Aside0.mk ((by rw [hg]; exact Nat.ne_of_gt (blk_lt (g := gb111) (o := .cells #[.int .i64 a0_0, .int .i64 a0_1, .slice (some ad114) l0_2.length c0_2] 59 (0, 0)) (blk_x BK111.out)) : gb115 ≠ gb111)); replace BK111 := Aside0.mk (blk_below (blk_x BK111.out) hb); clear hb hbox hg; have hnb17 := NB115_111.out; have hnc17 := NB111_115.out; obtain ⟨_, _, _⟩ := cz3 BK115; have hfz18_0 := blk_frozen BK115.out) | (go_at_call 72; (with_reducible refine (ship_in.calls ((rd_T62 l0_2 x24_1).f0) 0 2880 true _ A13.out).mono ?_); rintro e w' ⟨rfl, ⟨nd, rfl⟩⟩; (try first | exact ⟨rfl, _, World.drewN_drewN _ _ _⟩ | exact ⟨rfl, _, Eq.trans (World.drewN_drewN _ _ _) (congrArg (World.drewN _) (Nat.add_assoc _ _ _))⟩))); go_upto_region 12 with (first | ((with_reducible refine gate_dst (N := 6) rfl ?_); refine box_event ?hg (N := 6) ?hd (cs := #[.int .i64 0, .int .i64 0, .int .i64 0]) (t := 62) ?hr ?_; (case hd => rfl); (case hg => rfl); (case hr => first | (go_simp; done) | (go_simp; rfl)); intro gb115 hg w16 hbox hb; have BK115 := Aside0.mk (hbox); have GW115 := Aside0.mk ((by rw [hg]; exact (below_size (by exact below_y HB.out)) : w.heap.size ≤ gb115)); have GE115 := Aside0.mk ((by rw [hg]; exact (below_size (by exact below_y HB.out)) : w.heap.size ≤ gb115)); replace HB := bl_x HB hb; have NB111_115 := Aside0.mk ((by rw [hg]; exact Nat.ne_of_lt (blk_lt (g := gb111) (o := .cells #[.int .i64 a0_0, .int .i64 a0_1, .slice (some ad114) l0_2.length c0_2] 59 (0, 0)) (blk_x BK111.out)) : gb111 ≠ gb115)); have NB115_111 := Aside0.mk ((by rw [hg]; exact Nat.ne_of_gt (blk_lt (g := gb111) (o := .cells #[.int .i64 a0_0, .int .i64 a0_1, .slice (some ad114) l0_2.length c0_2] 59 (0, 0)) (blk_x BK111.out)) : gb115 ≠ gb111)); replace BK111 := Aside0.mk (blk_below (blk_x BK111.out) hb); clear hb hbox hg; have hnb17 := NB115_111.out; have hnc17 := NB111_115.out; obtain ⟨_, _, _⟩ := cz3 BK115; have hfz18_0 := blk_frozen BK115.out) | (go_at_call 72; (with_reducible refine (ship_in.calls ((rd_T62 l0_2 x24_1).f0) 0 2880 true _ A13.out).mono ?_); rintro e w' ⟨rfl, ⟨nd, rfl⟩⟩; (try first | exact ⟨rfl, _, World.drewN_drewN _ _ _⟩ | exact ⟨rfl, _, Eq.trans (World.drewN_drewN _ _ _) (congrArg (World.drewN _) (Nat.add_assoc _ _ _))⟩))))
         (try simp only [Act.put, put_x])
         go_cut [34] (fun v34 wc => ∃ (kq : Nat) (x34_14 : Bool), v34 = .bool x34_14 ∧ Aside0 (ship_checkSill.j1 kq x24_1 l0_2 (l0_2.length : Int) x24_1 x34_14 a0_0 a0_1 l0_2 ((rd_T62 l0_2 x24_1).f0) ((rd_T62 l0_2 x24_1).f1.f0) ((rd_T62 l0_2 x24_1).f1.f1) = some r) ∧ Aside0 (kq ≤ k1) ∧ Aside0 (wc.heap[gb111]? = some (.cells #[.int .i64 a0_0, .int .i64 a0_1, (.slice (some ad114) l0_2.length c0_2)] 59 (0, 0))) ∧ Aside0 (wc.heap[gb115]? = some (.cells #[.int .i64 ((rd_T62 l0_2 x24_1).f0), .int .i64 ((rd_T62 l0_2 x24_1).f1.f0), .int .i64 ((rd_T62 l0_2 x24_1).f1.f1)] 62 (0, 0))) ∧ Aside0 (Below w.heap.size w wc))
         case first =>
          have H := HC15.out
          clear HC15
          by_cases c19 : x24_1 = 0
          ·
           rw [if_pos c19] at H
           have c19b0 : (x24_1 == 0) = true := beq_iff_eq.mpr c19
           have c19b1 : (x24_1 != 0) = false := bne_eq_false_iff_eq.mpr c19
           clear c19
           (first | rw [c19b0] | (simp only [i64_w, i32_w]; rw [c19b0]) | skip)
           have H' := Aside0.mk H
           clear H
           have hnb20 := NB115_111.out
           have hnc20 := NB111_115.out
           obtain ⟨_, _, _⟩ := cz3 BK115
           have hfz21_0 := blk_frozen BK115.out
           go_wp2
           repeat (go_quiet (fail); try go_wp2)
           go_meet
           case rel => exact ⟨_, ((((rd_T62 l0_2 x24_1).f0) != 0)), (by first | rfl | (simp; done) | (simp [*]; done)), H', ⟨by have := HK1.out; first | omega | exact Nat.le_refl _⟩, ⟨blk_w BK111.out⟩, ⟨by (with_reducible repeat (first | refine blk_drewN ?_ _ | refine blk_drew ?_ | refine blk_alloc ?_ _)); refine blk_put (cs := #[.int .i64 ((rd_T62 l0_2 x24_1).f0), .int .i64 ((rd_T62 l0_2 x24_1).f1.f0), .int .i64 0]) ?_ 2 _ rfl; (with_reducible repeat (first | refine blk_drewN ?_ _ | refine blk_drew ?_ | refine blk_alloc ?_ _)); refine blk_put (cs := #[.int .i64 ((rd_T62 l0_2 x24_1).f0), .int .i64 0, .int .i64 0]) ?_ 1 _ rfl; (with_reducible repeat (first | refine blk_drewN ?_ _ | refine blk_drew ?_ | refine blk_alloc ?_ _)); refine blk_put (cs := #[.int .i64 0, .int .i64 0, .int .i64 0]) ?_ 0 _ rfl; (with_reducible repeat (first | refine blk_drewN ?_ _ | refine blk_drew ?_ | refine blk_alloc ?_ _)); exact BK115.out⟩, ⟨by exact below_y HB.out⟩⟩
          ·
           rw [if_neg c19] at H
           have c19b0 : (x24_1 == 0) = false := beq_eq_false_iff_ne.mpr c19
           have c19b1 : (x24_1 != 0) = true := bne_iff_ne.mpr c19
           (first | rw [c19b0] | (simp only [i64_w, i32_w]; rw [c19b0]) | skip)
           have H' := Aside0.mk H
           clear H
           go_wp2
           repeat (go_quiet (fail); try go_wp2)
           go_meet
           case rel => exact ⟨_, (false), (by first | rfl | (simp; done) | (simp [*]; done)), H', ⟨by have := HK1.out; first | omega | exact Nat.le_refl _⟩, ⟨blk_w BK111.out⟩, ⟨by (with_reducible repeat (first | refine blk_drewN ?_ _ | refine blk_drew ?_ | refine blk_alloc ?_ _)); refine blk_put (cs := #[.int .i64 ((rd_T62 l0_2 x24_1).f0), .int .i64 ((rd_T62 l0_2 x24_1).f1.f0), .int .i64 0]) ?_ 2 _ rfl; (with_reducible repeat (first | refine blk_drewN ?_ _ | refine blk_drew ?_ | refine blk_alloc ?_ _)); refine blk_put (cs := #[.int .i64 ((rd_T62 l0_2 x24_1).f0), .int .i64 0, .int .i64 0]) ?_ 1 _ rfl; (with_reducible repeat (first | refine blk_drewN ?_ _ | refine blk_drew ?_ | refine blk_alloc ?_ _)); refine blk_put (cs := #[.int .i64 0, .int .i64 0, .int .i64 0]) ?_ 0 _ rfl; (with_reducible repeat (first | refine blk_drewN ?_ _ | refine blk_drew ?_ | refine blk_alloc ?_ _)); exact BK115.out⟩, ⟨by exact below_y HB.out⟩⟩
         case rest =>
          clear HC15
          obtain ⟨kq, x34_14, rfl, HA, HJ14, BK111, BK115, HB⟩ := hcut
          cases kq with
          | zero => exact absurd HA.out (by simp [ship_checkSill.j1])
          | succ kj14 =>
           have H := HA.out
           clear HA
           simp only [ship_checkSill.j1] at H
           by_cases c22 : x34_14 = true
           ·
            subst c22
            have H1 : (some 2) = some r := by rw [if_pos rfl] at H; exact H
            clear H
            have H := H1
            clear H1
            obtain rfl := Option.some.inj H
            go_wp2
            repeat (go_quiet (fail); try go_wp2)
            go_ret
            exact ⟨by first | rfl | (simp [errW_none, errW_some] <;> rfl) | (simp [*, errW_none, errW_some] <;> rfl), by exact below_y HB.out⟩
           ·
            replace c22 := Bool.eq_false_iff.mpr c22
            subst c22
            have H1 : (if x24_1 > 0 then (if 0 ≤ (wrap64 (x24_1 - 1)) then (if (wrap64 (x24_1 - 1)) < (l0_2.length : Int) then (ship_checkSill.j2 kj14 l0_2 (l0_2.length : Int) x24_1 (decide (((rd_T62 l0_2 x24_1).f0) ≤ ((rd_T62 l0_2 (wrap64 (x24_1 - 1))).f0))) a0_0 a0_1 l0_2 ((rd_T62 l0_2 x24_1).f0) ((rd_T62 l0_2 x24_1).f1.f0) ((rd_T62 l0_2 x24_1).f1.f1)) else (none)) else (none)) else (ship_checkSill.j2 kj14 l0_2 (l0_2.length : Int) x24_1 false a0_0 a0_1 l0_2 ((rd_T62 l0_2 x24_1).f0) ((rd_T62 l0_2 x24_1).f1.f0) ((rd_T62 l0_2 x24_1).f1.f1))) = some r := by rw [if_neg (show ¬ (false = true) by decide)] at H; exact H
            clear H
            have H := H1
            clear H1
            have HC23 := Aside0.mk H
            clear H
            go_upto_region 14 with (fail)
            repeat (go_quiet (fail); go_upto_region 14 with (fail))
            go_cut [42] (fun v42 wc => ∃ (kq : Nat) (x42_22 : Bool), v42 = .bool x42_22 ∧ Aside0 (ship_checkSill.j2 kq l0_2 (l0_2.length : Int) x24_1 x42_22 a0_0 a0_1 l0_2 ((rd_T62 l0_2 x24_1).f0) ((rd_T62 l0_2 x24_1).f1.f0) ((rd_T62 l0_2 x24_1).f1.f1) = some r) ∧ Aside0 (kq ≤ kj14) ∧ Aside0 (wc.heap[gb111]? = some (.cells #[.int .i64 a0_0, .int .i64 a0_1, (.slice (some ad114) l0_2.length c0_2)] 59 (0, 0))) ∧ Aside0 (wc.heap[gb115]? = some (.cells #[.int .i64 ((rd_T62 l0_2 x24_1).f0), .int .i64 ((rd_T62 l0_2 x24_1).f1.f0), .int .i64 ((rd_T62 l0_2 x24_1).f1.f1)] 62 (0, 0))) ∧ Aside0 (Below w.heap.size w wc))
            case first =>
             have H := HC23.out
             clear HC23
             by_cases c24 : x24_1 > 0
             ·
              rw [if_pos c24] at H
              have c24b0 : decide (0 < x24_1) = true := decide_eq_true c24
              clear c24
              (first | rw [c24b0] | (simp only [i64_w, i32_w]; rw [c24b0]) | skip)
              obtain ⟨ji25, hji25⟩ : ∃ j_ : Int, (wrap64 (x24_1 - 1)) = j_ := ⟨_, rfl⟩
              replace H : (if 0 ≤ (ji25) then (if (ji25) < (l0_2.length : Int) then (ship_checkSill.j2 kj14 l0_2 (l0_2.length : Int) x24_1 (decide (((rd_T62 l0_2 x24_1).f0) ≤ ((rd_T62 l0_2 (ji25)).f0))) a0_0 a0_1 l0_2 ((rd_T62 l0_2 x24_1).f0) ((rd_T62 l0_2 x24_1).f1.f0) ((rd_T62 l0_2 x24_1).f1.f1)) else (none)) else (none)) = some r := by first | (rw [hji25] at H; exact H) | (simp only [hji25] at H ⊢; exact H)
              have hji25w : (IntKind.i64.wrap (x24_1 - 1)) = ji25 := (i64_w _).trans hji25
              by_cases c26 : 0 ≤ (ji25)
              ·
               rw [if_pos c26] at H
               have c26b0 : decide (0 ≤ (ji25)) = true := decide_eq_true c26
               clear c26
               by_cases c27 : (ji25) < (l0_2.length : Int)
               ·
                rw [if_pos c27] at H
                have c27b0 : decide ((ji25) < (l0_2.length : Int)) = true := decide_eq_true c27
                clear c27
                have H' := Aside0.mk H
                clear H
                have hnb28 := NB115_111.out
                have hnc28 := NB111_115.out
                obtain ⟨_, _, _⟩ := cz3 BK115
                have hfz29_0 := blk_frozen BK115.out
                obtain ⟨_, _, _⟩ := cz3 BK111
                have hfz30_0 := blk_frozen BK111.out
                have p117 : 0 ≤ ((ji25) : Int) := of_x
                have q117 : (ji25) < (l0_2.length : Int) := of_x
                obtain ⟨ad117, e117, hx117_0, hx117_1, hx117_2⟩ := at_T62 HR0_2.out (ji25) p117 q117
                obtain rfl : ad114 = ad117 := (by injection e117)
                replace hx117_0 := cell_x HB hx117_0
                replace hx117_1 := cell_x HB hx117_1
                replace hx117_2 := cell_x HB hx117_2
                replace p117 := eq_true p117
                replace q117 := eq_true q117
                go_wp2
                repeat (go_quiet (fail); try go_wp2)
                go_meet
                case rel => exact ⟨_, (decide (((rd_T62 l0_2 x24_1).f0) ≤ ((rd_T62 l0_2 (ji25)).f0))), (by first | rfl | (simp; done) | (simp only [← hji25] <;> (first | rfl | simp)) | (simp [*]; done)), H', ⟨by have := HK1.out; have := HJ14.out; first | omega | exact Nat.le_refl _⟩, ⟨blk_x BK111.out⟩, ⟨blk_x BK115.out⟩, ⟨by exact below_y HB.out⟩⟩
               ·
                rw [if_neg c27] at H
                exact absurd H (by simp)
              ·
               rw [if_neg c26] at H
               exact absurd H (by simp)
             ·
              rw [if_neg c24] at H
              have c24b0 : decide (0 < x24_1) = false := decide_eq_false c24
              clear c24
              (first | rw [c24b0] | (simp only [i64_w, i32_w]; rw [c24b0]) | skip)
              have H' := Aside0.mk H
              clear H
              go_wp2
              repeat (go_quiet (fail); try go_wp2)
              go_meet
              case rel => exact ⟨_, (false), (by first | rfl | (simp; done) | (simp [*]; done)), H', ⟨by have := HK1.out; have := HJ14.out; first | omega | exact Nat.le_refl _⟩, ⟨blk_x BK111.out⟩, ⟨blk_x BK115.out⟩, ⟨by exact below_y HB.out⟩⟩
            case rest =>
             clear HC23
             obtain ⟨kq, x42_22, rfl, HA, HJ22, BK111, BK115, HB⟩ := hcut
             cases kq with
             | zero => exact absurd HA.out (by simp [ship_checkSill.j2])
             | succ kj22 =>
              have H := HA.out
              clear HA
              simp only [ship_checkSill.j2] at H
              by_cases c31 : x42_22 = true
              ·
               subst c31
               have H1 : (some 5) = some r := by rw [if_pos rfl] at H; exact H
               clear H
               have H := H1
               clear H1
               obtain rfl := Option.some.inj H
               go_wp2
               repeat (go_quiet (fail); try go_wp2)
               go_ret
               exact ⟨by first | rfl | (simp [errW_none, errW_some] <;> rfl) | (simp [*, errW_none, errW_some] <;> rfl), by exact below_y HB.out⟩
              ·
               replace c31 := Bool.eq_false_iff.mpr c31
               subst c31
               have H1 : ((ship_checkRange.f kj22 ((rd_T62 l0_2 x24_1).f1.f0) ((rd_T62 l0_2 x24_1).f1.f1) 10000).bind fun t118 => (if t118 = 0 then (ship_checkSill.l0 kj22 l0_2 (l0_2.length : Int) (wrap64 (x24_1 + 1)) a0_0 a0_1 l0_2) else (some t118))) = some r := by rw [if_neg (show ¬ (false = true) by decide)] at H; exact H
               clear H
               have H := H1
               clear H1
               replace H := Option.bind_eq_some_iff.mp H
               obtain ⟨t118, A320, H⟩ := H
               try dsimp only at H
               have A32 := Aside0.mk A320
               clear A320
               by_cases c33 : t118 = 0
               ·
                rw [if_pos c33] at H
                have c33b0 : (t118 == 0) = true := beq_iff_eq.mpr c33
                have c33b1 : (t118 != 0) = false := bne_eq_false_iff_eq.mpr c33
                clear c33
                have H' := Aside0.mk H
                clear H
                have hnb34 := NB115_111.out
                have hnc34 := NB111_115.out
                obtain ⟨_, _, _⟩ := cz3 BK115
                have hfz35_0 := blk_frozen BK115.out
                go_wp2_with (first | (go_at_call 75; (with_reducible refine (ship_checkRange.calls kj22 ((rd_T62 l0_2 x24_1).f1.f0) ((rd_T62 l0_2 x24_1).f1.f1) 10000 t118 _ A32.out).mono ?_); rintro e w36 ⟨rfl, hb⟩; replace BK111 := Aside0.mk (blk_below (blk_x BK111.out) hb); replace BK115 := Aside0.mk (blk_below (blk_x BK115.out) hb); replace HB := bl_x HB hb; (try clear hb); (try clear hk); (try clear hi)))
                repeat (go_quiet (first | (go_at_call 75; (with_reducible refine (ship_checkRange.calls kj22 ((rd_T62 l0_2 x24_1).f1.f0) ((rd_T62 l0_2 x24_1).f1.f1) 10000 t118 _ A32.out).mono ?_); rintro e w36 ⟨rfl, hb⟩; replace BK111 := Aside0.mk (blk_below (blk_x BK111.out) hb); replace BK115 := Aside0.mk (blk_below (blk_x BK115.out) hb); replace HB := bl_x HB hb; (try clear hb); (try clear hk); (try clear hi))); try go_wp2_with (first | (go_at_call 75; (with_reducible refine (ship_checkRange.calls kj22 ((rd_T62 l0_2 x24_1).f1.f0) ((rd_T62 l0_2 x24_1).f1.f1) 10000 t118 _ A32.out).mono ?_); rintro e w36 ⟨rfl, hb⟩; replace BK111 := Aside0.mk (blk_below (blk_x BK111.out) hb); replace BK115 := Aside0.mk (blk_below (blk_x BK115.out) hb); replace HB := bl_x HB hb; (try clear hb); (try clear hk); (try clear hi))))
                go_roundg kj22
                case measure => have := HK1.out; have := HJ14.out; have := HJ22.out; omega
                case rel => exact ⟨(wrap64 (x24_1 + 1)), (by first | rfl | (simp; done) | (simp [*]; done)), H', ⟨by have := HK1.out; have := HJ14.out; have := HJ22.out; omega⟩, ⟨blk_x BK111.out⟩, ⟨by exact below_y HB.out⟩⟩
               ·
                rw [if_neg c33] at H
                have c33b0 : (t118 == 0) = false := beq_eq_false_iff_ne.mpr c33
                have c33b1 : (t118 != 0) = true := bne_iff_ne.mpr c33
                obtain rfl := Option.some.inj H
                have hnb37 := NB115_111.out
                have hnc37 := NB111_115.out
                obtain ⟨_, _, _⟩ := cz3 BK115
                have hfz38_0 := blk_frozen BK115.out
                go_wp2_with (first | (go_at_call 75; (with_reducible refine (ship_checkRange.calls kj22 ((rd_T62 l0_2 x24_1).f1.f0) ((rd_T62 l0_2 x24_1).f1.f1) 10000 t118 _ A32.out).mono ?_); rintro e w39 ⟨rfl, hb⟩; replace BK111 := Aside0.mk (blk_below (blk_x BK111.out) hb); replace BK115 := Aside0.mk (blk_below (blk_x BK115.out) hb); replace HB := bl_x HB hb; (try clear hb); (try clear hk); (try clear hi)))
                repeat (go_quiet (first | (go_at_call 75; (with_reducible refine (ship_checkRange.calls kj22 ((rd_T62 l0_2 x24_1).f1.f0) ((rd_T62 l0_2 x24_1).f1.f1) 10000 t118 _ A32.out).mono ?_); rintro e w39 ⟨rfl, hb⟩; replace BK111 := Aside0.mk (blk_below (blk_x BK111.out) hb); replace BK115 := Aside0.mk (blk_below (blk_x BK115.out) hb); replace HB := bl_x HB hb; (try clear hb); (try clear hk); (try clear hi))); try go_wp2_with (first | (go_at_call 75; (with_reducible refine (ship_checkRange.calls kj22 ((rd_T62 l0_2 x24_1).f1.f0) ((rd_T62 l0_2 x24_1).f1.f1) 10000 t118 _ A32.out).mono ?_); rintro e w39 ⟨rfl, hb⟩; replace BK111 := Aside0.mk (blk_below (blk_x BK111.out) hb); replace BK115 := Aside0.mk (blk_below (blk_x BK115.out) hb); replace HB := bl_x HB hb; (try clear hb); (try clear hk); (try clear hi))))
                go_ret
                exact ⟨by first | rfl | (simp [errW_none, errW_some] <;> rfl) | (simp [*, errW_none, errW_some] <;> rfl), by exact below_y HB.out⟩
        ·
         replace c14 := Bool.eq_false_iff.mpr c14
         subst c14
         have H1 : (some 1) = some r := by rw [if_neg (show ¬ (false = true) by decide)] at H; exact H
         clear H
         have H := H1
         clear H1
         obtain rfl := Option.some.inj H
         have p114 : 0 ≤ (x24_1 : Int) := of_x
         have q114 : x24_1 < (l0_2.length : Int) := of_x
         obtain ⟨ad114, e114, hx114_0, hx114_1, hx114_2⟩ := at_T62 HR0_2.out x24_1 p114 q114
         cases e114
         replace hx114_0 := cell_x HB hx114_0
         replace hx114_1 := cell_x HB hx114_1
         replace hx114_2 := cell_x HB hx114_2
         replace p114 := eq_true p114
         replace q114 := eq_true q114
         go_wp2_with (first | ((with_reducible refine gate_dst (N := 6) rfl ?_); refine box_event ?hg (N := 6) ?hd (cs := #[.int .i64 0, .int .i64 0, .int .i64 0]) (t := 62) ?hr ?_; (case hd => rfl); (case hg => rfl); (case hr => first | (go_simp; done) | (go_simp; rfl)); intro gb115 hg w40 hbox hb; have BK115 := Aside0.mk (hbox); have GW115 := Aside0.mk ((by rw [hg]; exact (below_size (by exact below_y HB.out)) : w.heap.size ≤ gb115)); have GE115 := Aside0.mk ((by rw [hg]; exact (below_size (by exact below_y HB.out)) : w.heap.size ≤ gb115)); replace HB := bl_x HB hb; have NB111_115 := Aside0.mk ((by rw [hg]; exact Nat.ne_of_lt (blk_lt (g := gb111) (o := .cells #[.int .i64 a0_0, .int .i64 a0_1, .slice (some ad114) l0_2.length c0_2] 59 (0, 0)) (blk_x BK111.out)) : gb111 ≠ gb115)); have NB115_111 := Aside0.mk ((by rw [hg]; exact Nat.ne_of_gt (blk_lt (g := gb111) (o := .cells #[.int .i64 a0_0, .int .i64 a0_1, .slice (some ad114) l0_2.length c0_2] 59 (0, 0)) (blk_x BK111.out)) : gb115 ≠ gb111)); replace BK111 := Aside0.mk (blk_below (blk_x BK111.out) hb); clear hb hbox hg; have hnb41 := NB115_111.out; have hnc41 := NB111_115.out; obtain ⟨_, _, _⟩ := cz3 BK115; have hfz42_0 := blk_frozen BK115.out) | (go_at_call 72; (with_reducible refine (ship_in.calls ((rd_T62 l0_2 x24_1).f0) 0 2880 false _ A13.out).mono ?_); rintro e w' ⟨rfl, ⟨nd, rfl⟩⟩; (try first | exact ⟨rfl, _, World.drewN_drewN _ _ _⟩ | exact ⟨rfl, _, Eq.trans (World.drewN_drewN _ _ _) (congrArg (World.drewN _) (Nat.add_assoc _ _ _))⟩)))
         repeat (go_quiet (first | ((with_reducible refine gate_dst (N := 6) rfl ?_); refine box_event ?hg (N := 6) ?hd (cs := #[.int .i64 0, .int .i64 0, .int .i64 0]) (t := 62) ?hr ?_; (case hd => rfl); (case hg => rfl); (case hr => first | (go_simp; done) | (go_simp; rfl)); intro gb115 hg w40 hbox hb; have BK115 := Aside0.mk (hbox); have GW115 := Aside0.mk ((by rw [hg]; exact (below_size (by exact below_y HB.out)) : w.heap.size ≤ gb115)); have GE115 := Aside0.mk ((by rw [hg]; exact (below_size (by exact below_y HB.out)) : w.heap.size ≤ gb115)); replace HB := bl_x HB hb; have NB111_115 := Aside0.mk ((by rw [hg]; exact Nat.ne_of_lt (blk_lt (g := gb111) (o := .cells #[.int .i64 a0_0, .int .i64 a0_1, .slice (some ad114) l0_2.length c0_2] 59 (0, 0)) (blk_x BK111.out)) : gb111 ≠ gb115)); have NB115_111 := Aside0.mk ((by rw [hg]; exact Nat.ne_of_gt (blk_lt (g := gb111) (o := .cells #[.int .i64 a0_0, .int .i64 a0_1, .slice (some ad114) l0_2.length c0_2] 59 (0, 0)) (blk_x BK111.out)) : gb115 ≠ gb111)); replace BK111 := Aside0.mk (blk_below (blk_x BK111.out) hb); clear hb hbox hg; have hnb41 := NB115_111.out; have hnc41 := NB111_115.out; obtain ⟨_, _, _⟩ := cz3 BK115; have hfz42_0 := blk_frozen BK115.out) | (go_at_call 72; (with_reducible refine (ship_in.calls ((rd_T62 l0_2 x24_1).f0) 0 2880 false _ A13.out).mono ?_); rintro e w' ⟨rfl, ⟨nd, rfl⟩⟩; (try first | exact ⟨rfl, _, World.drewN_drewN _ _ _⟩ | exact ⟨rfl, _, Eq.trans (World.drewN_drewN _ _ _) (congrArg (World.drewN _) (Nat.add_assoc _ _ _))⟩))); try go_wp2_with (first | ((with_reducible refine gate_dst (N := 6) rfl ?_); refine box_event ?hg (N := 6) ?hd (cs := #[.int .i64 0, .int .i64 0, .int .i64 0]) (t := 62) ?hr ?_; (case hd => rfl); (case hg => rfl); (case hr => first | (go_simp; done) | (go_simp; rfl)); intro gb115 hg w40 hbox hb; have BK115 := Aside0.mk (hbox); have GW115 := Aside0.mk ((by rw [hg]; exact (below_size (by exact below_y HB.out)) : w.heap.size ≤ gb115)); have GE115 := Aside0.mk ((by rw [hg]; exact (below_size (by exact below_y HB.out)) : w.heap.size ≤ gb115)); replace HB := bl_x HB hb; have NB111_115 := Aside0.mk ((by rw [hg]; exact Nat.ne_of_lt (blk_lt (g := gb111) (o := .cells #[.int .i64 a0_0, .int .i64 a0_1, .slice (some ad114) l0_2.length c0_2] 59 (0, 0)) (blk_x BK111.out)) : gb111 ≠ gb115)); have NB115_111 := Aside0.mk ((by rw [hg]; exact Nat.ne_of_gt (blk_lt (g := gb111) (o := .cells #[.int .i64 a0_0, .int .i64 a0_1, .slice (some ad114) l0_2.length c0_2] 59 (0, 0)) (blk_x BK111.out)) : gb115 ≠ gb111)); replace BK111 := Aside0.mk (blk_below (blk_x BK111.out) hb); clear hb hbox hg; have hnb41 := NB115_111.out; have hnc41 := NB111_115.out; obtain ⟨_, _, _⟩ := cz3 BK115; have hfz42_0 := blk_frozen BK115.out) | (go_at_call 72; (with_reducible refine (ship_in.calls ((rd_T62 l0_2 x24_1).f0) 0 2880 false _ A13.out).mono ?_); rintro e w' ⟨rfl, ⟨nd, rfl⟩⟩; (try first | exact ⟨rfl, _, World.drewN_drewN _ _ _⟩ | exact ⟨rfl, _, Eq.trans (World.drewN_drewN _ _ _) (congrArg (World.drewN _) (Nat.add_assoc _ _ _))⟩))))
         go_ret
         exact ⟨by first | rfl | (simp [errW_none, errW_some] <;> rfl) | (simp [*, errW_none, errW_some] <;> rfl), by exact below_y HB.out⟩
       ·
        rw [if_neg c12] at H
        exact absurd H (by simp)
      ·
       rw [if_neg c11] at H
       exact absurd H (by simp)
     ·
      rw [if_neg c10] at H
      have c10b0 : decide (x24_1 < (l0_2.length : Int)) = false := decide_eq_false c10
      clear c10
      obtain rfl := Option.some.inj H
      go_wp2
      repeat (go_quiet (fail); try go_wp2)
      go_ret
      exact ⟨by first | rfl | (simp [errW_none, errW_some] <;> rfl) | (simp [*, errW_none, errW_some] <;> rfl), by exact below_y HB.out⟩
  ·
   rw [if_neg c5] at H
   have c5b0 : (t113 == 0) = false := beq_eq_false_iff_ne.mpr c5
   have c5b1 : (t113 != 0) = true := bne_iff_ne.mpr c5
   obtain rfl := Option.some.inj H
   go_enter Try.func74, Try.ntmps74
   go_wp2_with (first | ((with_reducible refine gate_dst (N := 1) rfl ?_); refine box_event ?hg (N := 1) ?hd (cs := #[.int .i64 a0_0, .int .i64 a0_1, .slice A0_2 l0_2.length c0_2]) (t := 59) ?hr ?_; (case hd => rfl); (case hg => rfl); (case hr => first | (go_simp; done) | (go_simp; rfl)); intro gb111 hg w43 hbox hb; have BK111 := Aside0.mk (hbox); have GW111 := Aside0.mk ((by rw [hg]; exact (below_size (below_x HB.out)) : w.heap.size ≤ gb111)); have GE111 := Aside0.mk ((by rw [hg]; exact (below_size (below_x HB.out)) : w.heap.size ≤ gb111)); replace HB := Aside0.mk (below_step (below_x HB.out) hb); clear hb hbox hg; obtain ⟨_, _, _⟩ := cz3 BK111; have hfz44_0 := blk_frozen BK111.out) | (go_at_call 75; (with_reducible refine (ship_checkRange.calls k a0_0 a0_1 2880 t112 _ A2.out).mono ?_); rintro e w45 ⟨rfl, hb⟩; replace BK111 := Aside0.mk (blk_below (blk_x BK111.out) hb); replace HB := bl_x HB hb; (try clear hb); (try clear hk); (try clear hi); obtain ⟨_, _, _⟩ := cz3 BK111; have hfz46_0 := blk_frozen BK111.out) | (go_at_call 73; (with_reducible refine (ship_many.calls (l0_2.length : Int) 6 t113 _ A4.out).mono ?_); rintro e w' ⟨rfl, ⟨nd, rfl⟩⟩; (try first | exact ⟨rfl, _, World.drewN_drewN _ _ _⟩ | exact ⟨rfl, _, Eq.trans (World.drewN_drewN _ _ _) (congrArg (World.drewN _) (Nat.add_assoc _ _ _))⟩)))
   repeat (go_quiet (first | ((with_reducible refine gate_dst (N := 1) rfl ?_); refine box_event ?hg (N := 1) ?hd (cs := #[.int .i64 a0_0, .int .i64 a0_1, .slice A0_2 l0_2.length c0_2]) (t := 59) ?hr ?_; (case hd => rfl); (case hg => rfl); (case hr => first | (go_simp; done) | (go_simp; rfl)); intro gb111 hg w43 hbox hb; have BK111 := Aside0.mk (hbox); have GW111 := Aside0.mk ((by rw [hg]; exact (below_size (below_x HB.out)) : w.heap.size ≤ gb111)); have GE111 := Aside0.mk ((by rw [hg]; exact (below_size (below_x HB.out)) : w.heap.size ≤ gb111)); replace HB := Aside0.mk (below_step (below_x HB.out) hb); clear hb hbox hg; obtain ⟨_, _, _⟩ := cz3 BK111; have hfz44_0 := blk_frozen BK111.out) | (go_at_call 75; (with_reducible refine (ship_checkRange.calls k a0_0 a0_1 2880 t112 _ A2.out).mono ?_); rintro e w45 ⟨rfl, hb⟩; replace BK111 := Aside0.mk (blk_below (blk_x BK111.out) hb); replace HB := bl_x HB hb; (try clear hb); (try clear hk); (try clear hi); obtain ⟨_, _, _⟩ := cz3 BK111; have hfz46_0 := blk_frozen BK111.out) | (go_at_call 73; (with_reducible refine (ship_many.calls (l0_2.length : Int) 6 t113 _ A4.out).mono ?_); rintro e w' ⟨rfl, ⟨nd, rfl⟩⟩; (try first | exact ⟨rfl, _, World.drewN_drewN _ _ _⟩ | exact ⟨rfl, _, Eq.trans (World.drewN_drewN _ _ _) (congrArg (World.drewN _) (Nat.add_assoc _ _ _))⟩))); try go_wp2_with (first | ((with_reducible refine gate_dst (N := 1) rfl ?_); refine box_event ?hg (N := 1) ?hd (cs := #[.int .i64 a0_0, .int .i64 a0_1, .slice A0_2 l0_2.length c0_2]) (t := 59) ?hr ?_; (case hd => rfl); (case hg => rfl); (case hr => first | (go_simp; done) | (go_simp; rfl)); intro gb111 hg w43 hbox hb; have BK111 := Aside0.mk (hbox); have GW111 := Aside0.mk ((by rw [hg]; exact (below_size (below_x HB.out)) : w.heap.size ≤ gb111)); have GE111 := Aside0.mk ((by rw [hg]; exact (below_size (below_x HB.out)) : w.heap.size ≤ gb111)); replace HB := Aside0.mk (below_step (below_x HB.out) hb); clear hb hbox hg; obtain ⟨_, _, _⟩ := cz3 BK111; have hfz44_0 := blk_frozen BK111.out) | (go_at_call 75; (with_reducible refine (ship_checkRange.calls k a0_0 a0_1 2880 t112 _ A2.out).mono ?_); rintro e w45 ⟨rfl, hb⟩; replace BK111 := Aside0.mk (blk_below (blk_x BK111.out) hb); replace HB := bl_x HB hb; (try clear hb); (try clear hk); (try clear hi); obtain ⟨_, _, _⟩ := cz3 BK111; have hfz46_0 := blk_frozen BK111.out) | (go_at_call 73; (with_reducible refine (ship_many.calls (l0_2.length : Int) 6 t113 _ A4.out).mono ?_); rintro e w' ⟨rfl, ⟨nd, rfl⟩⟩; (try first | exact ⟨rfl, _, World.drewN_drewN _ _ _⟩ | exact ⟨rfl, _, Eq.trans (World.drewN_drewN _ _ _) (congrArg (World.drewN _) (Nat.add_assoc _ _ _))⟩))))
   go_ret
   exact ⟨by first | rfl | (simp [errW_none, errW_some] <;> rfl) | (simp [*, errW_none, errW_some] <;> rfl), by exact below_y HB.out⟩
 ·
  rw [if_neg c3] at H
  have c3b0 : (t112 == 0) = false := beq_eq_false_iff_ne.mpr c3
  have c3b1 : (t112 != 0) = true := bne_iff_ne.mpr c3
  obtain rfl := Option.some.inj H
  go_enter Try.func74, Try.ntmps74
  go_wp2_with (first | ((with_reducible refine gate_dst (N := 1) rfl ?_); refine box_event ?hg (N := 1) ?hd (cs := #[.int .i64 a0_0, .int .i64 a0_1, .slice A0_2 l0_2.length c0_2]) (t := 59) ?hr ?_; (case hd => rfl); (case hg => rfl); (case hr => first | (go_simp; done) | (go_simp; rfl)); intro gb111 hg w47 hbox hb; have BK111 := Aside0.mk (hbox); have GW111 := Aside0.mk ((by rw [hg]; exact (below_size (below_x HB.out)) : w.heap.size ≤ gb111)); have GE111 := Aside0.mk ((by rw [hg]; exact (below_size (below_x HB.out)) : w.heap.size ≤ gb111)); replace HB := Aside0.mk (below_step (below_x HB.out) hb); clear hb hbox hg; obtain ⟨_, _, _⟩ := cz3 BK111; have hfz48_0 := blk_frozen BK111.out) | (go_at_call 75; (with_reducible refine (ship_checkRange.calls k a0_0 a0_1 2880 t112 _ A2.out).mono ?_); rintro e w49 ⟨rfl, hb⟩; replace BK111 := Aside0.mk (blk_below (blk_x BK111.out) hb); replace HB := bl_x HB hb; (try clear hb); (try clear hk); (try clear hi)))
  repeat (go_quiet (first | ((with_reducible refine gate_dst (N := 1) rfl ?_); refine box_event ?hg (N := 1) ?hd (cs := #[.int .i64 a0_0, .int .i64 a0_1, .slice A0_2 l0_2.length c0_2]) (t := 59) ?hr ?_; (case hd => rfl); (case hg => rfl); (case hr => first | (go_simp; done) | (go_simp; rfl)); intro gb111 hg w47 hbox hb; have BK111 := Aside0.mk (hbox); have GW111 := Aside0.mk ((by rw [hg]; exact (below_size (below_x HB.out)) : w.heap.size ≤ gb111)); have GE111 := Aside0.mk ((by rw [hg]; exact (below_size (below_x HB.out)) : w.heap.size ≤ gb111)); replace HB := Aside0.mk (below_step (below_x HB.out) hb); clear hb hbox hg; obtain ⟨_, _, _⟩ := cz3 BK111; have hfz48_0 := blk_frozen BK111.out) | (go_at_call 75; (with_reducible refine (ship_checkRange.calls k a0_0 a0_1 2880 t112 _ A2.out).mono ?_); rintro e w49 ⟨rfl, hb⟩; replace BK111 := Aside0.mk (blk_below (blk_x BK111.out) hb); replace HB := bl_x HB hb; (try clear hb); (try clear hk); (try clear hi))); try go_wp2_with (first | ((with_reducible refine gate_dst (N := 1) rfl ?_); refine box_event ?hg (N := 1) ?hd (cs := #[.int .i64 a0_0, .int .i64 a0_1, .slice A0_2 l0_2.length c0_2]) (t := 59) ?hr ?_; (case hd => rfl); (case hg => rfl); (case hr => first | (go_simp; done) | (go_simp; rfl)); intro gb111 hg w47 hbox hb; have BK111 := Aside0.mk (hbox); have GW111 := Aside0.mk ((by rw [hg]; exact (below_size (below_x HB.out)) : w.heap.size ≤ gb111)); have GE111 := Aside0.mk ((by rw [hg]; exact (below_size (below_x HB.out)) : w.heap.size ≤ gb111)); replace HB := Aside0.mk (below_step (below_x HB.out) hb); clear hb hbox hg; obtain ⟨_, _, _⟩ := cz3 BK111; have hfz48_0 := blk_frozen BK111.out) | (go_at_call 75; (with_reducible refine (ship_checkRange.calls k a0_0 a0_1 2880 t112 _ A2.out).mono ?_); rintro e w49 ⟨rfl, hb⟩; replace BK111 := Aside0.mk (blk_below (blk_x BK111.out) hb); replace HB := bl_x HB hb; (try clear hb); (try clear hk); (try clear hi))))
  go_ret
  exact ⟨by first | rfl | (simp [errW_none, errW_some] <;> rfl) | (simp [*, errW_none, errW_some] <;> rfl), by exact below_y HB.out⟩
mutual
def ship_Check.j0 : Nat → Bool → Int → Int → Int → List (S85) → Int → List (S59) → List (S79) → Option (Int)
 | 0, _, _, _, _, _, _, _, _ => none
 | k + 1, x27, x120000, x120001, x120002, x120003, x120004, x120005, x120006 => if x27 = true then (some 1) else ((ship_many.f (x120003.length : Int) 3).bind fun t123 => (if t123 = 0 then (ship_Check.l0 k x120003 (x120003.length : Int) 0 x120000 x120001 x120002 x120003 x120004 x120005 x120006) else (some t123)))
def ship_Check.l0 : Nat → List (S85) → Int → Int → Int → Int → Int → List (S85) → Int → List (S59) → List (S79) → Option (Int)
 | 0, _, _, _, _, _, _, _, _, _, _ => none
 | k + 1, x36, x37, x38, x120000, x120001, x120002, x120003, x120004, x120005, x120006 => if x38 < x37 then (if 0 ≤ x38 then (if x38 < (x36.length : Int) then ((ship_in.f ((rd_T85 x36 x38).f0) 0 5000).bind fun t126 => (if t126 = true then ((ship_in.f ((rd_T85 x36 x38).f1) 0 10000).bind fun t127 => (if t127 = true then ((ship_in.f ((rd_T85 x36 x38).f2) 0 10000).bind fun t128 => (if t128 = true then (ship_Check.l0 k x36 x37 (wrap64 (x38 + 1)) x120000 x120001 x120002 x120003 x120004 x120005 x120006) else (some 1))) else (some 1))) else (some 1))) else (none)) else (none)) else ((ship_in.f x120004 0 2880).bind fun t129 => (if t129 = true then (if (x120005.length : Int) > 4 then (some 6) else (ship_Check.l1 k x120005 (x120005.length : Int) 0 x120000 x120001 x120002 x120003 x120004 x120005 x120006)) else (some 1)))
def ship_Check.l1 : Nat → List (S59) → Int → Int → Int → Int → Int → List (S85) → Int → List (S59) → List (S79) → Option (Int)
 | 0, _, _, _, _, _, _, _, _, _, _ => none
 | k + 1, x70, x71, x72, x120000, x120001, x120002, x120003, x120004, x120005, x120006 => if x72 < x71 then (if 0 ≤ x72 then (if x72 < (x70.length : Int) then ((ship_checkSill.f k ((rd_T59 x70 x72).f0.f0) ((rd_T59 x70 x72).f0.f1) ((rd_T59 x70 x72).f1)).bind fun t132 => (if t132 = 0 then (ship_Check.l1 k x70 x71 (wrap64 (x72 + 1)) x120000 x120001 x120002 x120003 x120004 x120005 x120006) else (some t132))) else (none)) else (none)) else (if (x120006.length : Int) > 6 then (some 6) else (ship_Check.l2 k x120006 (x120006.length : Int) 0))
def ship_Check.l2 : Nat → List (S79) → Int → Int → Option (Int)
 | 0, _, _, _ => none
 | k + 1, x87, x88, x89 => if x89 < x88 then (if 0 ≤ x89 then (if x89 < (x87.length : Int) then ((ship_checkRange.f k ((rd_T79 x87 x89).f0.f0) ((rd_T79 x87 x89).f0.f1) 5000).bind fun t135 => (if t135 = 0 then ((ship_in.f ((rd_T79 x87 x89).f1) 0 100000).bind fun t136 => (if t136 = true then (ship_Check.l2 k x87 x88 (wrap64 (x89 + 1))) else (some 1))) else (some t135))) else (none)) else (none)) else (some 0)
end
def ship_Check.f (k : Nat) (a0_0 : Int) (a0_1 : Int) (a0_2 : Int) (l0_3 : List (S85)) (a0_4 : Int) (l0_5 : List (S59)) (l0_6 : List (S79)) : Option (Int) := (ship_in.f a0_0 0 5000).bind fun t120 => (if t120 = true then ((ship_in.f a0_1 0 5000).bind fun t121 => (if t121 = true then ((ship_in.f a0_2 0 5000).bind fun t122 => (ship_Check.j0 k (!t122) a0_0 a0_1 a0_2 l0_3 a0_4 l0_5 l0_6)) else (ship_Check.j0 k true a0_0 a0_1 a0_2 l0_3 a0_4 l0_5 l0_6))) else (ship_Check.j0 k true a0_0 a0_1 a0_2 l0_3 a0_4 l0_5 l0_6))
theorem ship_Check.mono_l : ∀ k, (∀ y0 y1 y2 y3 y4 y5 y6 y7, LeO (ship_Check.j0 k y0 y1 y2 y3 y4 y5 y6 y7) (ship_Check.j0 (k + 1) y0 y1 y2 y3 y4 y5 y6 y7)) ∧ (∀ y0 y1 y2 y3 y4 y5 y6 y7 y8 y9, LeO (ship_Check.l0 k y0 y1 y2 y3 y4 y5 y6 y7 y8 y9) (ship_Check.l0 (k + 1) y0 y1 y2 y3 y4 y5 y6 y7 y8 y9)) ∧ (∀ y0 y1 y2 y3 y4 y5 y6 y7 y8 y9, LeO (ship_Check.l1 k y0 y1 y2 y3 y4 y5 y6 y7 y8 y9) (ship_Check.l1 (k + 1) y0 y1 y2 y3 y4 y5 y6 y7 y8 y9)) ∧ (∀ y0 y1 y2, LeO (ship_Check.l2 k y0 y1 y2) (ship_Check.l2 (k + 1) y0 y1 y2))
 | 0 => ⟨fun _ _ _ _ _ _ _ _ r h => by simp [ship_Check.j0] at h, fun _ _ _ _ _ _ _ _ _ _ r h => by simp [ship_Check.l0] at h, fun _ _ _ _ _ _ _ _ _ _ r h => by simp [ship_Check.l1] at h, fun _ _ _ r h => by simp [ship_Check.l2] at h⟩
 | k + 1 => by
  obtain ⟨ih0, ih1, ih2, ih3⟩ := ship_Check.mono_l k
  refine ⟨?_, ?_, ?_, ?_⟩
  ·
   intro y0 y1 y2 y3 y4 y5 y6 y7
   unfold ship_Check.j0
   repeat' first
   | (with_reducible exact ih0 _ _ _ _ _ _ _ _)
   | (with_reducible exact ih1 _ _ _ _ _ _ _ _ _ _)
   | (with_reducible exact ih2 _ _ _ _ _ _ _ _ _ _)
   | (with_reducible exact ih3 _ _ _)
   | (with_reducible exact ship_checkRange.mono _ _ _ _)
   | (with_reducible exact ship_checkSill.mono _ _ _ _)
   | (with_reducible exact LeO.refl _)
   | (with_reducible exact LeO.none _)
   | (with_reducible refine LeO.ite ?_ ?_)
   | (with_reducible refine LeO.bind ?_ (fun _ => ?_))
   | exact ih0 _ _ _ _ _ _ _ _
   | exact ih1 _ _ _ _ _ _ _ _ _ _
   | exact ih2 _ _ _ _ _ _ _ _ _ _
   | exact ih3 _ _ _
   | exact ship_checkRange.mono _ _ _ _
   | exact ship_checkSill.mono _ _ _ _
   | exact LeO.none _
   | refine LeO.ite ?_ ?_
   | refine LeO.bind ?_ (fun _ => ?_)
  ·
   intro y0 y1 y2 y3 y4 y5 y6 y7 y8 y9
   unfold ship_Check.l0
   repeat' first
   | (with_reducible exact ih0 _ _ _ _ _ _ _ _)
   | (with_reducible exact ih1 _ _ _ _ _ _ _ _ _ _)
   | (with_reducible exact ih2 _ _ _ _ _ _ _ _ _ _)
   | (with_reducible exact ih3 _ _ _)
   | (with_reducible exact ship_checkRange.mono _ _ _ _)
   | (with_reducible exact ship_checkSill.mono _ _ _ _)
   | (with_reducible exact LeO.refl _)
   | (with_reducible exact LeO.none _)
   | (with_reducible refine LeO.ite ?_ ?_)
   | (with_reducible refine LeO.bind ?_ (fun _ => ?_))
   | exact ih0 _ _ _ _ _ _ _ _
   | exact ih1 _ _ _ _ _ _ _ _ _ _
   | exact ih2 _ _ _ _ _ _ _ _ _ _
   | exact ih3 _ _ _
   | exact ship_checkRange.mono _ _ _ _
   | exact ship_checkSill.mono _ _ _ _
   | exact LeO.none _
   | refine LeO.ite ?_ ?_
   | refine LeO.bind ?_ (fun _ => ?_)
  ·
   intro y0 y1 y2 y3 y4 y5 y6 y7 y8 y9
   unfold ship_Check.l1
   repeat' first
   | (with_reducible exact ih0 _ _ _ _ _ _ _ _)
   | (with_reducible exact ih1 _ _ _ _ _ _ _ _ _ _)
   | (with_reducible exact ih2 _ _ _ _ _ _ _ _ _ _)
   | (with_reducible exact ih3 _ _ _)
   | (with_reducible exact ship_checkRange.mono _ _ _ _)
   | (with_reducible exact ship_checkSill.mono _ _ _ _)
   | (with_reducible exact LeO.refl _)
   | (with_reducible exact LeO.none _)
   | (with_reducible refine LeO.ite ?_ ?_)
   | (with_reducible refine LeO.bind ?_ (fun _ => ?_))
   | exact ih0 _ _ _ _ _ _ _ _
   | exact ih1 _ _ _ _ _ _ _ _ _ _
   | exact ih2 _ _ _ _ _ _ _ _ _ _
   | exact ih3 _ _ _
   | exact ship_checkRange.mono _ _ _ _
   | exact ship_checkSill.mono _ _ _ _
   | exact LeO.none _
   | refine LeO.ite ?_ ?_
   | refine LeO.bind ?_ (fun _ => ?_)
  ·
   intro y0 y1 y2
   unfold ship_Check.l2
   repeat' first
   | (with_reducible exact ih0 _ _ _ _ _ _ _ _)
   | (with_reducible exact ih1 _ _ _ _ _ _ _ _ _ _)
   | (with_reducible exact ih2 _ _ _ _ _ _ _ _ _ _)
   | (with_reducible exact ih3 _ _ _)
   | (with_reducible exact ship_checkRange.mono _ _ _ _)
   | (with_reducible exact ship_checkSill.mono _ _ _ _)
   | (with_reducible exact LeO.refl _)
   | (with_reducible exact LeO.none _)
   | (with_reducible refine LeO.ite ?_ ?_)
   | (with_reducible refine LeO.bind ?_ (fun _ => ?_))
   | exact ih0 _ _ _ _ _ _ _ _
   | exact ih1 _ _ _ _ _ _ _ _ _ _
   | exact ih2 _ _ _ _ _ _ _ _ _ _
   | exact ih3 _ _ _
   | exact ship_checkRange.mono _ _ _ _
   | exact ship_checkSill.mono _ _ _ _
   | exact LeO.none _
   | refine LeO.ite ?_ ?_
   | refine LeO.bind ?_ (fun _ => ?_)
theorem ship_Check.mono : ∀ a0 a1 a2 a3 a4 a5 a6 k, LeO (ship_Check.f k a0 a1 a2 a3 a4 a5 a6) (ship_Check.f (k + 1) a0 a1 a2 a3 a4 a5 a6) := by
 intro a0 a1 a2 a3 a4 a5 a6 k
 obtain ⟨ih0, ih1, ih2, ih3⟩ := ship_Check.mono_l k
 unfold ship_Check.f
 repeat' first
   | (with_reducible exact ih0 _ _ _ _ _ _ _ _)
   | (with_reducible exact ih1 _ _ _ _ _ _ _ _ _ _)
   | (with_reducible exact ih2 _ _ _ _ _ _ _ _ _ _)
   | (with_reducible exact ih3 _ _ _)
   | (with_reducible exact ship_checkRange.mono _ _ _ _)
   | (with_reducible exact ship_checkSill.mono _ _ _ _)
   | (with_reducible exact LeO.refl _)
   | (with_reducible exact LeO.none _)
   | (with_reducible refine LeO.ite ?_ ?_)
   | (with_reducible refine LeO.bind ?_ (fun _ => ?_))
   | exact ih0 _ _ _ _ _ _ _ _
   | exact ih1 _ _ _ _ _ _ _ _ _ _
   | exact ih2 _ _ _ _ _ _ _ _ _ _
   | exact ih3 _ _ _
   | exact ship_checkRange.mono _ _ _ _
   | exact ship_checkSill.mono _ _ _ _
   | exact LeO.none _
   | refine LeO.ite ?_ ?_
   | refine LeO.bind ?_ (fun _ => ?_)
set_option maxHeartbeats 8000000 in
set_option maxRecDepth 100000 in
theorem ship_Check.calls (k : Nat) (a0_0 : Int) (a0_1 : Int) (a0_2 : Int) (A0_3 : Option Addr) (c0_3 : Nat) (l0_3 : List (S85)) (a0_4 : Int) (A0_5 : Option Addr) (c0_5 : Nat) (l0_5 : List (S59)) (A0_6 : Option Addr) (c0_6 : Nat) (l0_6 : List (S79)) (r : Int) (w : World) (hr0_3 : Kd.C k85 w A0_3 l0_3.length l0_3) (hc0_3 : l0_3.length ≤ c0_3) (hr0_5 : Kd.C k59 w A0_5 l0_5.length l0_5) (hc0_5 : l0_5.length ≤ c0_5) (hr0_6 : Kd.C k79 w A0_6 l0_6.length l0_6) (hc0_6 : l0_6.length ≤ c0_6) (h : ship_Check.f k a0_0 a0_1 a0_2 l0_3 a0_4 l0_5 l0_6 = some r) :
  Calls Try.prog 39 #[.agg #[.int .i64 a0_0, .int .i64 a0_1, .int .i64 a0_2, .slice A0_3 l0_3.length c0_3, .int .i64 a0_4, .slice A0_5 l0_5.length c0_5, .slice A0_6 l0_6.length c0_6]] w fun e w' => e = .returned (.int .i64 r) ∧ Below w.heap.size w w' := by
 have hu26 := Try.underlying26
 have hu85 := Try.underlying85
 have hu59 := Try.underlying59
 have hu79 := Try.underlying79
 have hu56 := Try.underlying56
 have HR0_3 := Aside0.mk hr0_3
 have HC0_3 := Aside0.mk hc0_3
 clear hr0_3 hc0_3
 have HR0_5 := Aside0.mk hr0_5
 have HC0_5 := Aside0.mk hc0_5
 clear hr0_5 hc0_5
 have HR0_6 := Aside0.mk hr0_6
 have HC0_6 := Aside0.mk hc0_6
 clear hr0_6 hc0_6
 have HB := Aside0.mk (Below.refl w.heap.size w)
 have H : ((ship_in.f a0_0 0 5000).bind fun t120 => (if t120 = true then ((ship_in.f a0_1 0 5000).bind fun t121 => (if t121 = true then ((ship_in.f a0_2 0 5000).bind fun t122 => (ship_Check.j0 k (!t122) a0_0 a0_1 a0_2 l0_3 a0_4 l0_5 l0_6)) else (ship_Check.j0 k true a0_0 a0_1 a0_2 l0_3 a0_4 l0_5 l0_6))) else (ship_Check.j0 k true a0_0 a0_1 a0_2 l0_3 a0_4 l0_5 l0_6))) = some r := h
 clear h
 have HC2 := Aside0.mk H
 clear H
 go_enter Try.func39, Try.ntmps39
 go_upto_region 1 with (first | ((with_reducible refine gate_dst (N := 1) rfl ?_); refine box_event ?hg (N := 1) ?hd (cs := #[.int .i64 a0_0, .int .i64 a0_1, .int .i64 a0_2, .slice A0_3 l0_3.length c0_3, .int .i64 a0_4, .slice A0_5 l0_5.length c0_5, .slice A0_6 l0_6.length c0_6]) (t := 26) ?hr ?_; (case hd => rfl); (case hg => rfl); (case hr => first | (go_simp; done) | (go_simp; rfl)); intro gb119 hg w3 hbox hb; have BK119 := Aside0.mk (hbox); have GW119 := Aside0.mk ((by rw [hg]; exact (below_size (below_x HB.out)) : w.heap.size ≤ gb119)); have GE119 := Aside0.mk ((by rw [hg]; exact (below_size (below_x HB.out)) : w.heap.size ≤ gb119)); replace HB := Aside0.mk (below_step (below_x HB.out) hb); clear hb hbox hg))
 (try simp only [Act.put, put_x])
 go_cut [27] (fun v27 wc => ∃ (kq : Nat) (x27_1 : Bool), v27 = .bool x27_1 ∧ Aside0 (ship_Check.j0 kq x27_1 a0_0 a0_1 a0_2 l0_3 a0_4 l0_5 l0_6 = some r) ∧ Aside0 (kq ≤ k) ∧ Aside0 (wc.heap[gb119]? = some (.cells #[.int .i64 a0_0, .int .i64 a0_1, .int .i64 a0_2, (.slice A0_3 l0_3.length c0_3), .int .i64 a0_4, (.slice A0_5 l0_5.length c0_5), (.slice A0_6 l0_6.length c0_6)] 26 (0, 0))) ∧ Aside0 (Below w.heap.size w wc))
 case first =>
  have H := HC2.out
  clear HC2
  replace H := Option.bind_eq_some_iff.mp H
  obtain ⟨t120, A40, H⟩ := H
  try dsimp only at H
  have A4 := Aside0.mk A40
  clear A40
  by_cases c5 : t120 = true
  ·
   subst c5
   have H1 : ((ship_in.f a0_1 0 5000).bind fun t121 => (if t121 = true then ((ship_in.f a0_2 0 5000).bind fun t122 => (ship_Check.j0 k (!t122) a0_0 a0_1 a0_2 l0_3 a0_4 l0_5 l0_6)) else (ship_Check.j0 k true a0_0 a0_1 a0_2 l0_3 a0_4 l0_5 l0_6))) = some r := by rw [if_pos rfl] at H; exact H
   clear H
   have H := H1
   clear H1
   replace H := Option.bind_eq_some_iff.mp H
   obtain ⟨t121, A60, H⟩ := H
   try dsimp only at H
   have A6 := Aside0.mk A60
   clear A60
   by_cases c7 : t121 = true
   ·
    subst c7
    have H1 : ((ship_in.f a0_2 0 5000).bind fun t122 => (ship_Check.j0 k (!t122) a0_0 a0_1 a0_2 l0_3 a0_4 l0_5 l0_6)) = some r := by rw [if_pos rfl] at H; exact H
    clear H
    have H := H1
    clear H1
    replace H := Option.bind_eq_some_iff.mp H
    obtain ⟨t122, A80, H⟩ := H
    try dsimp only at H
    have A8 := Aside0.mk A80
    clear A80
    have H' := Aside0.mk H
    clear H
    obtain ⟨_, _, _, _, _, _, _⟩ := cz7 BK119
    have hfz9_0 := blk_frozen BK119.out
    go_wp2_with (first | ((with_reducible refine gate_callee (f := 72) rfl ?_); refine goesL_ (some 14) rfl rfl Try.func72 (by kernel_rfl) rfl #[.int .i64 a0_0, .int .i64 0, .int .i64 5000] rfl (by (try simp only [List.map_toArray, List.map_cons, List.map_nil]); first | done | rfl | (simp only [List.length_drop, List.length_take]; rfl)) ?_; (with_reducible refine (ship_in.calls a0_0 0 5000 true _ A4.out).mono ?_); rintro e w' ⟨rfl, ⟨nd, rfl⟩⟩; refine ⟨_, rfl, ?_⟩) | (go_at_call 72; (with_reducible refine (ship_in.calls a0_1 0 5000 true _ A6.out).mono ?_); rintro e w' ⟨rfl, ⟨nd, rfl⟩⟩) | (go_at_call 72; (with_reducible refine (ship_in.calls a0_2 0 5000 t122 _ A8.out).mono ?_); rintro e w' ⟨rfl, ⟨nd, rfl⟩⟩))
    go_meet
    case rel => exact ⟨_, (!t122), (by first | rfl | (simp; done) | (simp [*]; done)), H', ⟨by first | omega | exact Nat.le_refl _⟩, ⟨blk_x BK119.out⟩, ⟨by exact below_y HB.out⟩⟩
   ·
    replace c7 := Bool.eq_false_iff.mpr c7
    subst c7
    have H1 : (ship_Check.j0 k true a0_0 a0_1 a0_2 l0_3 a0_4 l0_5 l0_6) = some r := by rw [if_neg (show ¬ (false = true) by decide)] at H; exact H
    clear H
    have H := H1
    clear H1
    have H' := Aside0.mk H
    clear H
    obtain ⟨_, _, _, _, _, _, _⟩ := cz7 BK119
    have hfz10_0 := blk_frozen BK119.out
    go_wp2_with (first | ((with_reducible refine gate_callee (f := 72) rfl ?_); refine goesL_ (some 14) rfl rfl Try.func72 (by kernel_rfl) rfl #[.int .i64 a0_0, .int .i64 0, .int .i64 5000] rfl (by (try simp only [List.map_toArray, List.map_cons, List.map_nil]); first | done | rfl | (simp only [List.length_drop, List.length_take]; rfl)) ?_; (with_reducible refine (ship_in.calls a0_0 0 5000 true _ A4.out).mono ?_); rintro e w' ⟨rfl, ⟨nd, rfl⟩⟩; refine ⟨_, rfl, ?_⟩) | (go_at_call 72; (with_reducible refine (ship_in.calls a0_1 0 5000 false _ A6.out).mono ?_); rintro e w' ⟨rfl, ⟨nd, rfl⟩⟩))
    go_meet
    case rel => exact ⟨_, (true), (by first | rfl | (simp; done) | (simp [*]; done)), H', ⟨by first | omega | exact Nat.le_refl _⟩, ⟨blk_x BK119.out⟩, ⟨by exact below_y HB.out⟩⟩
  ·
   replace c5 := Bool.eq_false_iff.mpr c5
   subst c5
   have H1 : (ship_Check.j0 k true a0_0 a0_1 a0_2 l0_3 a0_4 l0_5 l0_6) = some r := by rw [if_neg (show ¬ (false = true) by decide)] at H; exact H
   clear H
   have H := H1
   clear H1
   have H' := Aside0.mk H
   clear H
   obtain ⟨_, _, _, _, _, _, _⟩ := cz7 BK119
   have hfz11_0 := blk_frozen BK119.out
   go_wp2_with (first | ((with_reducible refine gate_callee (f := 72) rfl ?_); refine goesL_ (some 14) rfl rfl Try.func72 (by kernel_rfl) rfl #[.int .i64 a0_0, .int .i64 0, .int .i64 5000] rfl (by (try simp only [List.map_toArray, List.map_cons, List.map_nil]); first | done | rfl | (simp only [List.length_drop, List.length_take]; rfl)) ?_; (with_reducible refine (ship_in.calls a0_0 0 5000 false _ A4.out).mono ?_); rintro e w' ⟨rfl, ⟨nd, rfl⟩⟩; refine ⟨_, rfl, ?_⟩))
   go_meet
   case rel => exact ⟨_, (true), (by first | rfl | (simp; done) | (simp [*]; done)), H', ⟨by first | omega | exact Nat.le_refl _⟩, ⟨blk_x BK119.out⟩, ⟨by exact below_y HB.out⟩⟩
 case rest =>
  clear HC2
  obtain ⟨kq, x27_1, rfl, HA, HJ1, BK119, HB⟩ := hcut
  cases kq with
  | zero => exact absurd HA.out (by simp [ship_Check.j0])
  | succ kj1 =>
   have H := HA.out
   clear HA
   simp only [ship_Check.j0] at H
   by_cases c12 : x27_1 = true
   ·
    subst c12
    have H1 : (some 1) = some r := by rw [if_pos rfl] at H; exact H
    clear H
    have H := H1
    clear H1
    obtain rfl := Option.some.inj H
    go_wp2
    go_ret
    exact ⟨by first | rfl | (simp [errW_none, errW_some] <;> rfl) | (simp [*, errW_none, errW_some] <;> rfl), by exact below_y HB.out⟩
   ·
    replace c12 := Bool.eq_false_iff.mpr c12
    subst c12
    have H1 : ((ship_many.f (l0_3.length : Int) 3).bind fun t123 => (if t123 = 0 then (ship_Check.l0 kj1 l0_3 (l0_3.length : Int) 0 a0_0 a0_1 a0_2 l0_3 a0_4 l0_5 l0_6) else (some t123))) = some r := by rw [if_neg (show ¬ (false = true) by decide)] at H; exact H
    clear H
    have H := H1
    clear H1
    replace H := Option.bind_eq_some_iff.mp H
    obtain ⟨t123, A130, H⟩ := H
    try dsimp only at H
    have A13 := Aside0.mk A130
    clear A130
    by_cases c14 : t123 = 0
    ·
     rw [if_pos c14] at H
     have c14b0 : (t123 == 0) = true := beq_iff_eq.mpr c14
     have c14b1 : (t123 != 0) = false := bne_eq_false_iff_eq.mpr c14
     clear c14
     have H' := Aside0.mk H
     clear H
     obtain ⟨_, _, _, _, _, _, _⟩ := cz7 BK119
     have hfz15_0 := blk_frozen BK119.out
     go_wp2_with (first | ((with_reducible refine gate_callee (f := 73) rfl ?_); refine goesL_ (some 31) rfl rfl Try.func73 (by kernel_rfl) rfl #[.int .i64 (l0_3.length : Int), .int .i64 3] rfl (by (try simp only [List.map_toArray, List.map_cons, List.map_nil]); first | done | rfl | (simp only [List.length_drop, List.length_take]; rfl)) ?_; (with_reducible refine (ship_many.calls (l0_3.length : Int) 3 t123 _ A13.out).mono ?_); rintro e w' ⟨rfl, ⟨nd, rfl⟩⟩; refine ⟨_, rfl, ?_⟩))
     go_loopg [38] kj1 (fun kq v38 w' => ∃ (x38_2 : Int), v38 = .int .i64 x38_2 ∧ Aside0 (ship_Check.l0 kq l0_3 (l0_3.length : Int) x38_2 a0_0 a0_1 a0_2 l0_3 a0_4 l0_5 l0_6 = some r) ∧ Aside0 (kq ≤ kj1) ∧ Aside0 (w'.heap[gb119]? = some (.cells #[.int .i64 a0_0, .int .i64 a0_1, .int .i64 a0_2, (.slice A0_3 l0_3.length c0_3), .int .i64 a0_4, (.slice A0_5 l0_5.length c0_5), (.slice A0_6 l0_6.length c0_6)] 26 (0, 0))) ∧ Aside0 (Below w.heap.size w w'))
     case atStart => exact ⟨(0), (by first | rfl | (simp; done) | (simp [*]; done)), H', ⟨Nat.le_refl _⟩, ⟨blk_x BK119.out⟩, ⟨by exact below_y HB.out⟩⟩
     case round =>
      clear H'
      obtain ⟨x38_2, rfl, HA, HK2, BK119, HB⟩ := hrel
      cases gk with
      | zero => exact absurd HA.out (by simp [ship_Check.l0])
      | succ k2 =>
       have H := HA.out
       clear HA
       simp only [ship_Check.l0] at H
       by_cases c16 : x38_2 < (l0_3.length : Int)
       ·
        rw [if_pos c16] at H
        have c16b0 : decide (x38_2 < (l0_3.length : Int)) = true := decide_eq_true c16
        clear c16
        by_cases c17 : 0 ≤ x38_2
        ·
         rw [if_pos c17] at H
         have c17b0 : decide (0 ≤ x38_2) = true := decide_eq_true c17
         clear c17
         by_cases c18 : x38_2 < (l0_3.length : Int)
         ·
          rw [if_pos c18] at H
          have c18b0 : decide (x38_2 < (l0_3.length : Int)) = true := decide_eq_true c18
          clear c18
          replace H := Option.bind_eq_some_iff.mp H
          obtain ⟨t126, A190, H⟩ := H
          try dsimp only at H
          have A19 := Aside0.mk A190
          clear A190
          by_cases c20 : t126 = true
          ·
           subst c20
           have H1 : ((ship_in.f ((rd_T85 l0_3 x38_2).f1) 0 10000).bind fun t127 => (if t127 = true then ((ship_in.f ((rd_T85 l0_3 x38_2).f2) 0 10000).bind fun t128 => (if t128 = true then (ship_Check.l0 k2 l0_3 (l0_3.length : Int) (wrap64 (x38_2 + 1)) a0_0 a0_1 a0_2 l0_3 a0_4 l0_5 l0_6) else (some 1))) else (some 1))) = some r := by rw [if_pos rfl] at H; exact H
           clear H
           have H := H1
           clear H1
           replace H := Option.bind_eq_some_iff.mp H
           obtain ⟨t127, A210, H⟩ := H
           try dsimp only at H
           have A21 := Aside0.mk A210
           clear A210
           by_cases c22 : t127 = true
           ·
            subst c22
            have H1 : ((ship_in.f ((rd_T85 l0_3 x38_2).f2) 0 10000).bind fun t128 => (if t128 = true then (ship_Check.l0 k2 l0_3 (l0_3.length : Int) (wrap64 (x38_2 + 1)) a0_0 a0_1 a0_2 l0_3 a0_4 l0_5 l0_6) else (some 1))) = some r := by rw [if_pos rfl] at H; exact H
            clear H
            have H := H1
            clear H1
            replace H := Option.bind_eq_some_iff.mp H
            obtain ⟨t128, A230, H⟩ := H
            try dsimp only at H
            have A23 := Aside0.mk A230
            clear A230
            by_cases c24 : t128 = true
            ·
             subst c24
             have H1 : (ship_Check.l0 k2 l0_3 (l0_3.length : Int) (wrap64 (x38_2 + 1)) a0_0 a0_1 a0_2 l0_3 a0_4 l0_5 l0_6) = some r := by rw [if_pos rfl] at H; exact H
             clear H
             have H := H1
             clear H1
             have H' := Aside0.mk H
             clear H
             have p124 : 0 ≤ (x38_2 : Int) := of_x
             have q124 : x38_2 < (l0_3.length : Int) := of_x
             obtain ⟨ad124, e124, hx124_0, hx124_1, hx124_2⟩ := at_T85 HR0_3.out x38_2 p124 q124
             cases e124
             replace hx124_0 := cell_x HB hx124_0
             replace hx124_1 := cell_x HB hx124_1
             replace hx124_2 := cell_x HB hx124_2
             replace p124 := eq_true p124
             replace q124 := eq_true q124
             go_wp2_with (first | ((with_reducible refine gate_dst (N := 5) rfl ?_); refine box_event ?hg (N := 5) ?hd (cs := #[.int .i64 0, .int .i64 0, .int .i64 0]) (t := 85) ?hr ?_; (case hd => rfl); (case hg => rfl); (case hr => first | (go_simp; done) | (go_simp; rfl)); intro gb125 hg w25 hbox hb; have BK125 := Aside0.mk (hbox); have GW125 := Aside0.mk ((by rw [hg]; exact (below_size (by exact below_y HB.out)) : w.heap.size ≤ gb125)); have GE125 := Aside0.mk ((by rw [hg]; exact (below_size (by exact below_y HB.out)) : w.heap.size ≤ gb125)); replace HB := bl_x HB hb; have NB119_125 := Aside0.mk ((by rw [hg]; exact Nat.ne_of_lt (blk_lt (g := gb119) (o := .cells #[.int .i64 a0_0, .int .i64 a0_1, .int .i64 a0_2, .slice (some ad124) l0_3.length c0_3, .int .i64 a0_4, .slice A0_5 l0_5.length c0_5, .slice A0_6 l0_6.length c0_6] 26 (0, 0)) (blk_x BK119.out)) : gb119 ≠ gb125)); have NB125_119 := Aside0.mk ((by rw [hg]; exact Nat.ne_of_gt (blk_lt (g := gb119) (o := .cells #[.int .i64 a0_0, .int .i64 a0_1, .int .i64 a0_2, .slice (some ad124) l0_3.length c0_3, .int .i64 a0_4, .slice A0_5 l0_5.length c0_5, .slice A0_6 l0_6.length c0_6] 26 (0, 0)) (blk_x BK119.out)) : gb125 ≠ gb119)); replace BK119 := Aside0.mk (blk_below (blk_x BK119.out) hb); clear hb hbox hg; have hnb26 := NB125_119.out; have hnc26 := NB119_125.out; obtain ⟨_, _, _⟩ := cz3 BK125; have hfz27_0 := blk_frozen BK125.out) | ((with_reducible refine gate_callee (f := 72) rfl ?_); refine goesL_ (some 44) rfl rfl Try.func72 (by kernel_rfl) rfl #[.int .i64 ((rd_T85 l0_3 x38_2).f0), .int .i64 0, .int .i64 5000] rfl (by (try simp only [List.map_toArray, List.map_cons, List.map_nil]); first | done | rfl | (simp only [List.length_drop, List.length_take]; rfl)) ?_; (with_reducible refine (ship_in.calls ((rd_T85 l0_3 x38_2).f0) 0 5000 true _ A19.out).mono ?_); rintro e w' ⟨rfl, ⟨nd, rfl⟩⟩; refine ⟨_, rfl, ?_⟩) | (go_at_call 72; (with_reducible refine (ship_in.calls ((rd_T85 l0_3 x38_2).f1) 0 10000 true _ A21.out).mono ?_); rintro e w' ⟨rfl, ⟨nd, rfl⟩⟩) | (go_at_call 72; (with_reducible refine (ship_in.calls ((rd_T85 l0_3 x38_2).f2) 0 10000 true _ A23.out).mono ?_); rintro e w' ⟨rfl, ⟨nd, rfl⟩⟩))
             go_roundg k2
             case measure => have := HJ1.out; have := HK2.out; omega
             case rel => exact ⟨(wrap64 (x38_2 + 1)), (by first | rfl | (simp; done) | (simp [*]; done)), H', ⟨by have := HJ1.out; have := HK2.out; omega⟩, ⟨blk_w BK119.out⟩, ⟨by exact below_y HB.out⟩⟩
            ·
             replace c24 := Bool.eq_false_iff.mpr c24
             subst c24
             have H1 : (some 1) = some r := by rw [if_neg (show ¬ (false = true) by decide)] at H; exact H
             clear H
             have H := H1
             clear H1
             obtain rfl := Option.some.inj H
             have p124 : 0 ≤ (x38_2 : Int) := of_x
             have q124 : x38_2 < (l0_3.length : Int) := of_x
             obtain ⟨ad124, e124, hx124_0, hx124_1, hx124_2⟩ := at_T85 HR0_3.out x38_2 p124 q124
             cases e124
             replace hx124_0 := cell_x HB hx124_0
             replace hx124_1 := cell_x HB hx124_1
             replace hx124_2 := cell_x HB hx124_2
             replace p124 := eq_true p124
             replace q124 := eq_true q124
             go_wp2_with (first | ((with_reducible refine gate_dst (N := 5) rfl ?_); refine box_event ?hg (N := 5) ?hd (cs := #[.int .i64 0, .int .i64 0, .int .i64 0]) (t := 85) ?hr ?_; (case hd => rfl); (case hg => rfl); (case hr => first | (go_simp; done) | (go_simp; rfl)); intro gb125 hg w28 hbox hb; have BK125 := Aside0.mk (hbox); have GW125 := Aside0.mk ((by rw [hg]; exact (below_size (by exact below_y HB.out)) : w.heap.size ≤ gb125)); have GE125 := Aside0.mk ((by rw [hg]; exact (below_size (by exact below_y HB.out)) : w.heap.size ≤ gb125)); replace HB := bl_x HB hb; have NB119_125 := Aside0.mk ((by rw [hg]; exact Nat.ne_of_lt (blk_lt (g := gb119) (o := .cells #[.int .i64 a0_0, .int .i64 a0_1, .int .i64 a0_2, .slice (some ad124) l0_3.length c0_3, .int .i64 a0_4, .slice A0_5 l0_5.length c0_5, .slice A0_6 l0_6.length c0_6] 26 (0, 0)) (blk_x BK119.out)) : gb119 ≠ gb125)); have NB125_119 := Aside0.mk ((by rw [hg]; exact Nat.ne_of_gt (blk_lt (g := gb119) (o := .cells #[.int .i64 a0_0, .int .i64 a0_1, .int .i64 a0_2, .slice (some ad124) l0_3.length c0_3, .int .i64 a0_4, .slice A0_5 l0_5.length c0_5, .slice A0_6 l0_6.length c0_6] 26 (0, 0)) (blk_x BK119.out)) : gb125 ≠ gb119)); replace BK119 := Aside0.mk (blk_below (blk_x BK119.out) hb); clear hb hbox hg; have hnb29 := NB125_119.out; have hnc29 := NB119_125.out; obtain ⟨_, _, _⟩ := cz3 BK125; have hfz30_0 := blk_frozen BK125.out) | ((with_reducible refine gate_callee (f := 72) rfl ?_); refine goesL_ (some 44) rfl rfl Try.func72 (by kernel_rfl) rfl #[.int .i64 ((rd_T85 l0_3 x38_2).f0), .int .i64 0, .int .i64 5000] rfl (by (try simp only [List.map_toArray, List.map_cons, List.map_nil]); first | done | rfl | (simp only [List.length_drop, List.length_take]; rfl)) ?_; (with_reducible refine (ship_in.calls ((rd_T85 l0_3 x38_2).f0) 0 5000 true _ A19.out).mono ?_); rintro e w' ⟨rfl, ⟨nd, rfl⟩⟩; refine ⟨_, rfl, ?_⟩) | (go_at_call 72; (with_reducible refine (ship_in.calls ((rd_T85 l0_3 x38_2).f1) 0 10000 true _ A21.out).mono ?_); rintro e w' ⟨rfl, ⟨nd, rfl⟩⟩) | (go_at_call 72; (with_reducible refine (ship_in.calls ((rd_T85 l0_3 x38_2).f2) 0 10000 false _ A23.out).mono ?_); rintro e w' ⟨rfl, ⟨nd, rfl⟩⟩))
             go_ret
             exact ⟨by first | rfl | (simp [errW_none, errW_some] <;> rfl) | (simp [*, errW_none, errW_some] <;> rfl), by exact below_y HB.out⟩
           ·
            replace c22 := Bool.eq_false_iff.mpr c22
            subst c22
            have H1 : (some 1) = some r := by rw [if_neg (show ¬ (false = true) by decide)] at H; exact H
            clear H
            have H := H1
            clear H1
            obtain rfl := Option.some.inj H
            have p124 : 0 ≤ (x38_2 : Int) := of_x
            have q124 : x38_2 < (l0_3.length : Int) := of_x
            obtain ⟨ad124, e124, hx124_0, hx124_1, hx124_2⟩ := at_T85 HR0_3.out x38_2 p124 q124
            cases e124
            replace hx124_0 := cell_x HB hx124_0
            replace hx124_1 := cell_x HB hx124_1
            replace hx124_2 := cell_x HB hx124_2
            replace p124 := eq_true p124
            replace q124 := eq_true q124
            go_wp2_with (first | ((with_reducible refine gate_dst (N := 5) rfl ?_); refine box_event ?hg (N := 5) ?hd (cs := #[.int .i64 0, .int .i64 0, .int .i64 0]) (t := 85) ?hr ?_; (case hd => rfl); (case hg => rfl); (case hr => first | (go_simp; done) | (go_simp; rfl)); intro gb125 hg w31 hbox hb; have BK125 := Aside0.mk (hbox); have GW125 := Aside0.mk ((by rw [hg]; exact (below_size (by exact below_y HB.out)) : w.heap.size ≤ gb125)); have GE125 := Aside0.mk ((by rw [hg]; exact (below_size (by exact below_y HB.out)) : w.heap.size ≤ gb125)); replace HB := bl_x HB hb; have NB119_125 := Aside0.mk ((by rw [hg]; exact Nat.ne_of_lt (blk_lt (g := gb119) (o := .cells #[.int .i64 a0_0, .int .i64 a0_1, .int .i64 a0_2, .slice (some ad124) l0_3.length c0_3, .int .i64 a0_4, .slice A0_5 l0_5.length c0_5, .slice A0_6 l0_6.length c0_6] 26 (0, 0)) (blk_x BK119.out)) : gb119 ≠ gb125)); have NB125_119 := Aside0.mk ((by rw [hg]; exact Nat.ne_of_gt (blk_lt (g := gb119) (o := .cells #[.int .i64 a0_0, .int .i64 a0_1, .int .i64 a0_2, .slice (some ad124) l0_3.length c0_3, .int .i64 a0_4, .slice A0_5 l0_5.length c0_5, .slice A0_6 l0_6.length c0_6] 26 (0, 0)) (blk_x BK119.out)) : gb125 ≠ gb119)); replace BK119 := Aside0.mk (blk_below (blk_x BK119.out) hb); clear hb hbox hg; have hnb32 := NB125_119.out; have hnc32 := NB119_125.out; obtain ⟨_, _, _⟩ := cz3 BK125; have hfz33_0 := blk_frozen BK125.out) | ((with_reducible refine gate_callee (f := 72) rfl ?_); refine goesL_ (some 44) rfl rfl Try.func72 (by kernel_rfl) rfl #[.int .i64 ((rd_T85 l0_3 x38_2).f0), .int .i64 0, .int .i64 5000] rfl (by (try simp only [List.map_toArray, List.map_cons, List.map_nil]); first | done | rfl | (simp only [List.length_drop, List.length_take]; rfl)) ?_; (with_reducible refine (ship_in.calls ((rd_T85 l0_3 x38_2).f0) 0 5000 true _ A19.out).mono ?_); rintro e w' ⟨rfl, ⟨nd, rfl⟩⟩; refine ⟨_, rfl, ?_⟩) | (go_at_call 72; (with_reducible refine (ship_in.calls ((rd_T85 l0_3 x38_2).f1) 0 10000 false _ A21.out).mono ?_); rintro e w' ⟨rfl, ⟨nd, rfl⟩⟩))
            go_ret
            exact ⟨by first | rfl | (simp [errW_none, errW_some] <;> rfl) | (simp [*, errW_none, errW_some] <;> rfl), by exact below_y HB.out⟩
          ·
           replace c20 := Bool.eq_false_iff.mpr c20
           subst c20
           have H1 : (some 1) = some r := by rw [if_neg (show ¬ (false = true) by decide)] at H; exact H
           clear H
           have H := H1
           clear H1
           obtain rfl := Option.some.inj H
           have p124 : 0 ≤ (x38_2 : Int) := of_x
           have q124 : x38_2 < (l0_3.length : Int) := of_x
           obtain ⟨ad124, e124, hx124_0, hx124_1, hx124_2⟩ := at_T85 HR0_3.out x38_2 p124 q124
           cases e124
           replace hx124_0 := cell_x HB hx124_0
           replace hx124_1 := cell_x HB hx124_1
           replace hx124_2 := cell_x HB hx124_2
           replace p124 := eq_true p124
           replace q124 := eq_true q124
           go_wp2_with (first | ((with_reducible refine gate_dst (N := 5) rfl ?_); refine box_event ?hg (N := 5) ?hd (cs := #[.int .i64 0, .int .i64 0, .int .i64 0]) (t := 85) ?hr ?_; (case hd => rfl); (case hg => rfl); (case hr => first | (go_simp; done) | (go_simp; rfl)); intro gb125 hg w34 hbox hb; have BK125 := Aside0.mk (hbox); have GW125 := Aside0.mk ((by rw [hg]; exact (below_size (by exact below_y HB.out)) : w.heap.size ≤ gb125)); have GE125 := Aside0.mk ((by rw [hg]; exact (below_size (by exact below_y HB.out)) : w.heap.size ≤ gb125)); replace HB := bl_x HB hb; have NB119_125 := Aside0.mk ((by rw [hg]; exact Nat.ne_of_lt (blk_lt (g := gb119) (o := .cells #[.int .i64 a0_0, .int .i64 a0_1, .int .i64 a0_2, .slice (some ad124) l0_3.length c0_3, .int .i64 a0_4, .slice A0_5 l0_5.length c0_5, .slice A0_6 l0_6.length c0_6] 26 (0, 0)) (blk_x BK119.out)) : gb119 ≠ gb125)); have NB125_119 := Aside0.mk ((by rw [hg]; exact Nat.ne_of_gt (blk_lt (g := gb119) (o := .cells #[.int .i64 a0_0, .int .i64 a0_1, .int .i64 a0_2, .slice (some ad124) l0_3.length c0_3, .int .i64 a0_4, .slice A0_5 l0_5.length c0_5, .slice A0_6 l0_6.length c0_6] 26 (0, 0)) (blk_x BK119.out)) : gb125 ≠ gb119)); replace BK119 := Aside0.mk (blk_below (blk_x BK119.out) hb); clear hb hbox hg; have hnb35 := NB125_119.out; have hnc35 := NB119_125.out; obtain ⟨_, _, _⟩ := cz3 BK125; have hfz36_0 := blk_frozen BK125.out) | ((with_reducible refine gate_callee (f := 72) rfl ?_); refine goesL_ (some 44) rfl rfl Try.func72 (by kernel_rfl) rfl #[.int .i64 ((rd_T85 l0_3 x38_2).f0), .int .i64 0, .int .i64 5000] rfl (by (try simp only [List.map_toArray, List.map_cons, List.map_nil]); first | done | rfl | (simp only [List.length_drop, List.length_take]; rfl)) ?_; (with_reducible refine (ship_in.calls ((rd_T85 l0_3 x38_2).f0) 0 5000 false _ A19.out).mono ?_); rintro e w' ⟨rfl, ⟨nd, rfl⟩⟩; refine ⟨_, rfl, ?_⟩))
           go_ret
           exact ⟨by first | rfl | (simp [errW_none, errW_some] <;> rfl) | (simp [*, errW_none, errW_some] <;> rfl), by exact below_y HB.out⟩
         ·
          rw [if_neg c18] at H
          exact absurd H (by simp)
        ·
         rw [if_neg c17] at H
         exact absurd H (by simp)
       ·
        rw [if_neg c16] at H
        have c16b0 : decide (x38_2 < (l0_3.length : Int)) = false := decide_eq_false c16
        clear c16
        replace H := Option.bind_eq_some_iff.mp H
        obtain ⟨t129, A370, H⟩ := H
        try dsimp only at H
        have A37 := Aside0.mk A370
        clear A370
        by_cases c38 : t129 = true
        ·
         subst c38
         have H1 : (if (l0_5.length : Int) > 4 then (some 6) else (ship_Check.l1 k2 l0_5 (l0_5.length : Int) 0 a0_0 a0_1 a0_2 l0_3 a0_4 l0_5 l0_6)) = some r := by rw [if_pos rfl] at H; exact H
         clear H
         have H := H1
         clear H1
         by_cases c39 : (l0_5.length : Int) > 4
         ·
          rw [if_pos c39] at H
          have c39b0 : decide (4 < (l0_5.length : Int)) = true := decide_eq_true c39
          have c39b1 : decide (4 < l0_5.length) = true := decide_eq_true (by omega)
          clear c39
          obtain rfl := Option.some.inj H
          obtain ⟨_, _, _, _, _, _, _⟩ := cz7 BK119
          have hfz40_0 := blk_frozen BK119.out
          go_wp2_with (first | ((with_reducible refine gate_callee (f := 72) rfl ?_); refine goesL_ (some 62) rfl rfl Try.func72 (by kernel_rfl) rfl #[.int .i64 a0_4, .int .i64 0, .int .i64 2880] rfl (by (try simp only [List.map_toArray, List.map_cons, List.map_nil]); first | done | rfl | (simp only [List.length_drop, List.length_take]; rfl)) ?_; (with_reducible refine (ship_in.calls a0_4 0 2880 true _ A37.out).mono ?_); rintro e w' ⟨rfl, ⟨nd, rfl⟩⟩; refine ⟨_, rfl, ?_⟩))
          go_ret
          exact ⟨by first | rfl | (simp [errW_none, errW_some] <;> rfl) | (simp [*, errW_none, errW_some] <;> rfl), by exact below_y HB.out⟩
         ·
          rw [if_neg c39] at H
          have c39b0 : decide (4 < (l0_5.length : Int)) = false := decide_eq_false c39
          have c39b1 : decide (4 < l0_5.length) = false := decide_eq_false (by omega)
          clear c39
          have H' := Aside0.mk H
          clear H
          obtain ⟨_, _, _, _, _, _, _⟩ := cz7 BK119
          have hfz41_0 := blk_frozen BK119.out
          go_wp2_with (first | ((with_reducible refine gate_callee (f := 72) rfl ?_); refine goesL_ (some 62) rfl rfl Try.func72 (by kernel_rfl) rfl #[.int .i64 a0_4, .int .i64 0, .int .i64 2880] rfl (by (try simp only [List.map_toArray, List.map_cons, List.map_nil]); first | done | rfl | (simp only [List.length_drop, List.length_take]; rfl)) ?_; (with_reducible refine (ship_in.calls a0_4 0 2880 true _ A37.out).mono ?_); rintro e w' ⟨rfl, ⟨nd, rfl⟩⟩; refine ⟨_, rfl, ?_⟩))
          go_loopg [72] k2 (fun kq v72 w' => ∃ (x72_3 : Int), v72 = .int .i64 x72_3 ∧ Aside0 (ship_Check.l1 kq l0_5 (l0_5.length : Int) x72_3 a0_0 a0_1 a0_2 l0_3 a0_4 l0_5 l0_6 = some r) ∧ Aside0 (kq ≤ k2) ∧ Aside0 (w'.heap[gb119]? = some (.cells #[.int .i64 a0_0, .int .i64 a0_1, .int .i64 a0_2, (.slice A0_3 l0_3.length c0_3), .int .i64 a0_4, (.slice A0_5 l0_5.length c0_5), (.slice A0_6 l0_6.length c0_6)] 26 (0, 0))) ∧ Aside0 (Below w.heap.size w w'))
          case atStart => exact ⟨(0), (by first | rfl | (simp; done) | (simp [*]; done)), H', ⟨Nat.le_refl _⟩, ⟨blk_x BK119.out⟩, ⟨by exact below_y HB.out⟩⟩
          case round =>
           clear H'
           obtain ⟨x72_3, rfl, HA, HK3, BK119, HB⟩ := hrel
           cases gk with
           | zero => exact absurd HA.out (by simp [ship_Check.l1])
           | succ k3 =>
            have H := HA.out
            clear HA
            simp only [ship_Check.l1] at H
            by_cases c42 : x72_3 < (l0_5.length : Int)
            ·
             rw [if_pos c42] at H
             have c42b0 : decide (x72_3 < (l0_5.length : Int)) = true := decide_eq_true c42
             clear c42
             by_cases c43 : 0 ≤ x72_3
             ·
              rw [if_pos c43] at H
              have c43b0 : decide (0 ≤ x72_3) = true := decide_eq_true c43
              clear c43
              by_cases c44 : x72_3 < (l0_5.length : Int)
              ·
               rw [if_pos c44] at H
               have c44b0 : decide (x72_3 < (l0_5.length : Int)) = true := decide_eq_true c44
               clear c44
               replace H := Option.bind_eq_some_iff.mp H
               obtain ⟨t132, A450, H⟩ := H
               try dsimp only at H
               have A45 := Aside0.mk A450
               clear A450
               by_cases c46 : t132 = 0
               ·
                rw [if_pos c46] at H
                have c46b0 : (t132 == 0) = true := beq_iff_eq.mpr c46
                have c46b1 : (t132 != 0) = false := bne_eq_false_iff_eq.mpr c46
                clear c46
                have H' := Aside0.mk H
                clear H
                have p130 : 0 ≤ (x72_3 : Int) := of_x
                have q130 : x72_3 < (l0_5.length : Int) := of_x
                obtain ⟨ad130, A130_2, c130_2, e130, hx130_0, hx130_1, hx130_2, hl130_2, hi130_2⟩ := at_T59 HR0_5.out x72_3 p130 q130
                cases e130
                replace hx130_0 := cell_x HB hx130_0
                replace hx130_1 := cell_x HB hx130_1
                replace hx130_2 := cell_x HB hx130_2
                have HR130_2 := Aside0.mk hi130_2
                have HC130_2 := Aside0.mk hl130_2
                clear hi130_2 hl130_2
                replace p130 := eq_true p130
                replace q130 := eq_true q130
                go_wp2_with (first | ((with_reducible refine gate_dst (N := 7) rfl ?_); refine box_event ?hg (N := 7) ?hd (cs := #[.int .i64 0, .int .i64 0, .slice none 0 0]) (t := 59) ?hr ?_; (case hd => rfl); (case hg => rfl); (case hr => first | (go_simp; done) | (go_simp; rfl)); intro gb131 hg w47 hbox hb; have BK131 := Aside0.mk (hbox); have GW131 := Aside0.mk ((by rw [hg]; exact (below_size (by exact below_y HB.out)) : w.heap.size ≤ gb131)); have GE131 := Aside0.mk ((by rw [hg]; exact (below_size (by exact below_y HB.out)) : w.heap.size ≤ gb131)); replace HB := bl_x HB hb; have NB119_131 := Aside0.mk ((by rw [hg]; exact Nat.ne_of_lt (blk_lt (g := gb119) (o := .cells #[.int .i64 a0_0, .int .i64 a0_1, .int .i64 a0_2, .slice A0_3 l0_3.length c0_3, .int .i64 a0_4, .slice (some ad130) l0_5.length c0_5, .slice A0_6 l0_6.length c0_6] 26 (0, 0)) (blk_x BK119.out)) : gb119 ≠ gb131)); have NB131_119 := Aside0.mk ((by rw [hg]; exact Nat.ne_of_gt (blk_lt (g := gb119) (o := .cells #[.int .i64 a0_0, .int .i64 a0_1, .int .i64 a0_2, .slice A0_3 l0_3.length c0_3, .int .i64 a0_4, .slice (some ad130) l0_5.length c0_5, .slice A0_6 l0_6.length c0_6] 26 (0, 0)) (blk_x BK119.out)) : gb131 ≠ gb119)); replace BK119 := Aside0.mk (blk_below (blk_x BK119.out) hb); clear hb hbox hg; have hnb48 := NB131_119.out; have hnc48 := NB119_131.out; obtain ⟨_, _, _⟩ := cz3 BK131; have hfz49_0 := blk_frozen BK131.out) | ((with_reducible refine gate_callee (f := 74) rfl ?_); refine goesL_ (some 77) rfl rfl Try.func74 (by kernel_rfl) rfl #[.agg #[.int .i64 ((rd_T59 l0_5 x72_3).f0.f0), .int .i64 ((rd_T59 l0_5 x72_3).f0.f1), .slice A130_2 ((rd_T59 l0_5 x72_3).f1).length c130_2]] rfl (by (try simp only [List.map_toArray, List.map_cons, List.map_nil]); first | done | rfl | (simp only [List.length_drop, List.length_take]; rfl)) ?_; (with_reducible refine (ship_checkSill.calls k3 ((rd_T59 l0_5 x72_3).f0.f0) ((rd_T59 l0_5 x72_3).f0.f1) _ _ ((rd_T59 l0_5 x72_3).f1) t132 _ ?side1 ?side2 A45.out).mono ?_); (case side1 => exact Kd.C_below HR130_2.out (by exact below_y HB.out)); (case side2 => exact HC130_2.out); rintro e w50 ⟨rfl, hb⟩; refine ⟨_, rfl, ?_⟩; replace BK119 := Aside0.mk (blk_below (g := gb119) (o := .cells #[.int .i64 a0_0, .int .i64 a0_1, .int .i64 a0_2, .slice A0_3 l0_3.length c0_3, .int .i64 a0_4, .slice (some ad130) l0_5.length c0_5, .slice A0_6 l0_6.length c0_6] 26 (0, 0)) (blk_w BK119.out) hb); replace BK131 := Aside0.mk (blk_below (g := gb131) (o := .cells #[.int .i64 ((rd_T59 l0_5 x72_3).f0.f0), .int .i64 ((rd_T59 l0_5 x72_3).f0.f1), .slice A130_2 ((rd_T59 l0_5 x72_3).f1).length c130_2] 59 (0, 0)) (by (with_reducible repeat (first | refine blk_drewN ?_ _ | refine blk_drew ?_ | refine blk_alloc ?_ _)); refine blk_put (cs := #[.int .i64 ((rd_T59 l0_5 x72_3).f0.f0), .int .i64 ((rd_T59 l0_5 x72_3).f0.f1), .slice none 0 0]) ?_ 2 _ rfl; (with_reducible repeat (first | refine blk_drewN ?_ _ | refine blk_drew ?_ | refine blk_alloc ?_ _)); refine blk_put (cs := #[.int .i64 ((rd_T59 l0_5 x72_3).f0.f0), .int .i64 0, .slice none 0 0]) ?_ 1 _ rfl; (with_reducible repeat (first | refine blk_drewN ?_ _ | refine blk_drew ?_ | refine blk_alloc ?_ _)); refine blk_put (cs := #[.int .i64 0, .int .i64 0, .slice none 0 0]) ?_ 0 _ rfl; (with_reducible repeat (first | refine blk_drewN ?_ _ | refine blk_drew ?_ | refine blk_alloc ?_ _)); exact BK131.out) hb); replace HB := bl_x HB hb; (try clear hb); (try clear hk); (try clear hi)))
                go_roundg k3
                case measure => have := HJ1.out; have := HK2.out; have := HK3.out; omega
                case rel => exact ⟨(wrap64 (x72_3 + 1)), (by first | rfl | (simp; done) | (simp [*]; done)), H', ⟨by have := HJ1.out; have := HK2.out; have := HK3.out; omega⟩, ⟨blk_x BK119.out⟩, ⟨by exact below_y HB.out⟩⟩
               ·
                rw [if_neg c46] at H
                have c46b0 : (t132 == 0) = false := beq_eq_false_iff_ne.mpr c46
                have c46b1 : (t132 != 0) = true := bne_iff_ne.mpr c46
                obtain rfl := Option.some.inj H
                have p130 : 0 ≤ (x72_3 : Int) := of_x
                have q130 : x72_3 < (l0_5.length : Int) := of_x
                obtain ⟨ad130, A130_2, c130_2, e130, hx130_0, hx130_1, hx130_2, hl130_2, hi130_2⟩ := at_T59 HR0_5.out x72_3 p130 q130
                cases e130
                replace hx130_0 := cell_x HB hx130_0
                replace hx130_1 := cell_x HB hx130_1
                replace hx130_2 := cell_x HB hx130_2
                have HR130_2 := Aside0.mk hi130_2
                have HC130_2 := Aside0.mk hl130_2
                clear hi130_2 hl130_2
                replace p130 := eq_true p130
                replace q130 := eq_true q130
                go_wp2_with (first | ((with_reducible refine gate_dst (N := 7) rfl ?_); refine box_event ?hg (N := 7) ?hd (cs := #[.int .i64 0, .int .i64 0, .slice none 0 0]) (t := 59) ?hr ?_; (case hd => rfl); (case hg => rfl); (case hr => first | (go_simp; done) | (go_simp; rfl)); intro gb131 hg w51 hbox hb; have BK131 := Aside0.mk (hbox); have GW131 := Aside0.mk ((by rw [hg]; exact (below_size (by exact below_y HB.out)) : w.heap.size ≤ gb131)); have GE131 := Aside0.mk ((by rw [hg]; exact (below_size (by exact below_y HB.out)) : w.heap.size ≤ gb131)); replace HB := bl_x HB hb; have NB119_131 := Aside0.mk ((by rw [hg]; exact Nat.ne_of_lt (blk_lt (g := gb119) (o := .cells #[.int .i64 a0_0, .int .i64 a0_1, .int .i64 a0_2, .slice A0_3 l0_3.length c0_3, .int .i64 a0_4, .slice (some ad130) l0_5.length c0_5, .slice A0_6 l0_6.length c0_6] 26 (0, 0)) (blk_x BK119.out)) : gb119 ≠ gb131)); have NB131_119 := Aside0.mk ((by rw [hg]; exact Nat.ne_of_gt (blk_lt (g := gb119) (o := .cells #[.int .i64 a0_0, .int .i64 a0_1, .int .i64 a0_2, .slice A0_3 l0_3.length c0_3, .int .i64 a0_4, .slice (some ad130) l0_5.length c0_5, .slice A0_6 l0_6.length c0_6] 26 (0, 0)) (blk_x BK119.out)) : gb131 ≠ gb119)); replace BK119 := Aside0.mk (blk_below (blk_x BK119.out) hb); clear hb hbox hg; have hnb52 := NB131_119.out; have hnc52 := NB119_131.out; obtain ⟨_, _, _⟩ := cz3 BK131; have hfz53_0 := blk_frozen BK131.out) | ((with_reducible refine gate_callee (f := 74) rfl ?_); refine goesL_ (some 77) rfl rfl Try.func74 (by kernel_rfl) rfl #[.agg #[.int .i64 ((rd_T59 l0_5 x72_3).f0.f0), .int .i64 ((rd_T59 l0_5 x72_3).f0.f1), .slice A130_2 ((rd_T59 l0_5 x72_3).f1).length c130_2]] rfl (by (try simp only [List.map_toArray, List.map_cons, List.map_nil]); first | done | rfl | (simp only [List.length_drop, List.length_take]; rfl)) ?_; (with_reducible refine (ship_checkSill.calls k3 ((rd_T59 l0_5 x72_3).f0.f0) ((rd_T59 l0_5 x72_3).f0.f1) _ _ ((rd_T59 l0_5 x72_3).f1) t132 _ ?side1 ?side2 A45.out).mono ?_); (case side1 => exact Kd.C_below HR130_2.out (by exact below_y HB.out)); (case side2 => exact HC130_2.out); rintro e w54 ⟨rfl, hb⟩; refine ⟨_, rfl, ?_⟩; replace BK119 := Aside0.mk (blk_below (g := gb119) (o := .cells #[.int .i64 a0_0, .int .i64 a0_1, .int .i64 a0_2, .slice A0_3 l0_3.length c0_3, .int .i64 a0_4, .slice (some ad130) l0_5.length c0_5, .slice A0_6 l0_6.length c0_6] 26 (0, 0)) (blk_w BK119.out) hb); replace BK131 := Aside0.mk (blk_below (g := gb131) (o := .cells #[.int .i64 ((rd_T59 l0_5 x72_3).f0.f0), .int .i64 ((rd_T59 l0_5 x72_3).f0.f1), .slice A130_2 ((rd_T59 l0_5 x72_3).f1).length c130_2] 59 (0, 0)) (by (with_reducible repeat (first | refine blk_drewN ?_ _ | refine blk_drew ?_ | refine blk_alloc ?_ _)); refine blk_put (cs := #[.int .i64 ((rd_T59 l0_5 x72_3).f0.f0), .int .i64 ((rd_T59 l0_5 x72_3).f0.f1), .slice none 0 0]) ?_ 2 _ rfl; (with_reducible repeat (first | refine blk_drewN ?_ _ | refine blk_drew ?_ | refine blk_alloc ?_ _)); refine blk_put (cs := #[.int .i64 ((rd_T59 l0_5 x72_3).f0.f0), .int .i64 0, .slice none 0 0]) ?_ 1 _ rfl; (with_reducible repeat (first | refine blk_drewN ?_ _ | refine blk_drew ?_ | refine blk_alloc ?_ _)); refine blk_put (cs := #[.int .i64 0, .int .i64 0, .slice none 0 0]) ?_ 0 _ rfl; (with_reducible repeat (first | refine blk_drewN ?_ _ | refine blk_drew ?_ | refine blk_alloc ?_ _)); exact BK131.out) hb); replace HB := bl_x HB hb; (try clear hb); (try clear hk); (try clear hi)))
                go_ret
                exact ⟨by first | rfl | (simp [errW_none, errW_some] <;> rfl) | (simp [*, errW_none, errW_some] <;> rfl), by exact below_y HB.out⟩
              ·
               rw [if_neg c44] at H
               exact absurd H (by simp)
             ·
              rw [if_neg c43] at H
              exact absurd H (by simp)
            ·
             rw [if_neg c42] at H
             have c42b0 : decide (x72_3 < (l0_5.length : Int)) = false := decide_eq_false c42
             clear c42
             by_cases c55 : (l0_6.length : Int) > 6
             ·
              rw [if_pos c55] at H
              have c55b0 : decide (6 < (l0_6.length : Int)) = true := decide_eq_true c55
              have c55b1 : decide (6 < l0_6.length) = true := decide_eq_true (by omega)
              clear c55
              obtain rfl := Option.some.inj H
              obtain ⟨_, _, _, _, _, _, _⟩ := cz7 BK119
              have hfz56_0 := blk_frozen BK119.out
              go_wp2
              go_ret
              exact ⟨by first | rfl | (simp [errW_none, errW_some] <;> rfl) | (simp [*, errW_none, errW_some] <;> rfl), by exact below_y HB.out⟩
             ·
              rw [if_neg c55] at H
              have c55b0 : decide (6 < (l0_6.length : Int)) = false := decide_eq_false c55
              have c55b1 : decide (6 < l0_6.length) = false := decide_eq_false (by omega)
              clear c55
              have H' := Aside0.mk H
              clear H
              obtain ⟨_, _, _, _, _, _, _⟩ := cz7 BK119
              have hfz57_0 := blk_frozen BK119.out
              go_wp2
              go_loopg [89] k3 (fun kq v89 w' => ∃ (x89_4 : Int), v89 = .int .i64 x89_4 ∧ Aside0 (ship_Check.l2 kq l0_6 (l0_6.length : Int) x89_4 = some r) ∧ Aside0 (kq ≤ k3) ∧ Aside0 (w'.heap[gb119]? = some (.cells #[.int .i64 a0_0, .int .i64 a0_1, .int .i64 a0_2, (.slice A0_3 l0_3.length c0_3), .int .i64 a0_4, (.slice A0_5 l0_5.length c0_5), (.slice A0_6 l0_6.length c0_6)] 26 (0, 0))) ∧ Aside0 (Below w.heap.size w w'))
              case atStart => exact ⟨(0), (by first | rfl | (simp; done) | (simp [*]; done)), H', ⟨Nat.le_refl _⟩, ⟨blk_x BK119.out⟩, ⟨by exact below_y HB.out⟩⟩
              case round =>
               clear H'
               obtain ⟨x89_4, rfl, HA, HK4, BK119, HB⟩ := hrel
               cases gk with
               | zero => exact absurd HA.out (by simp [ship_Check.l2])
               | succ k4 =>
                have H := HA.out
                clear HA
                simp only [ship_Check.l2] at H
                by_cases c58 : x89_4 < (l0_6.length : Int)
                ·
                 rw [if_pos c58] at H
                 have c58b0 : decide (x89_4 < (l0_6.length : Int)) = true := decide_eq_true c58
                 clear c58
                 by_cases c59 : 0 ≤ x89_4
                 ·
                  rw [if_pos c59] at H
                  have c59b0 : decide (0 ≤ x89_4) = true := decide_eq_true c59
                  clear c59
                  by_cases c60 : x89_4 < (l0_6.length : Int)
                  ·
                   rw [if_pos c60] at H
                   have c60b0 : decide (x89_4 < (l0_6.length : Int)) = true := decide_eq_true c60
                   clear c60
                   replace H := Option.bind_eq_some_iff.mp H
                   obtain ⟨t135, A610, H⟩ := H
                   try dsimp only at H
                   have A61 := Aside0.mk A610
                   clear A610
                   by_cases c62 : t135 = 0
                   ·
                    rw [if_pos c62] at H
                    have c62b0 : (t135 == 0) = true := beq_iff_eq.mpr c62
                    have c62b1 : (t135 != 0) = false := bne_eq_false_iff_eq.mpr c62
                    clear c62
                    replace H := Option.bind_eq_some_iff.mp H
                    obtain ⟨t136, A630, H⟩ := H
                    try dsimp only at H
                    have A63 := Aside0.mk A630
                    clear A630
                    by_cases c64 : t136 = true
                    ·
                     subst c64
                     have H1 : (ship_Check.l2 k4 l0_6 (l0_6.length : Int) (wrap64 (x89_4 + 1))) = some r := by rw [if_pos rfl] at H; exact H
                     clear H
                     have H := H1
                     clear H1
                     have H' := Aside0.mk H
                     clear H
                     have p133 : 0 ≤ (x89_4 : Int) := of_x
                     have q133 : x89_4 < (l0_6.length : Int) := of_x
                     obtain ⟨ad133, e133, hx133_0, hx133_1, hx133_2⟩ := at_T79 HR0_6.out x89_4 p133 q133
                     cases e133
                     replace hx133_0 := cell_x HB hx133_0
                     replace hx133_1 := cell_x HB hx133_1
                     replace hx133_2 := cell_x HB hx133_2
                     replace p133 := eq_true p133
                     replace q133 := eq_true q133
                     go_wp2_with (first | ((with_reducible refine gate_dst (N := 10) rfl ?_); refine box_event ?hg (N := 10) ?hd (cs := #[.int .i64 0, .int .i64 0, .int .i64 0]) (t := 79) ?hr ?_; (case hd => rfl); (case hg => rfl); (case hr => first | (go_simp; done) | (go_simp; rfl)); intro gb134 hg w65 hbox hb; have BK134 := Aside0.mk (hbox); have GW134 := Aside0.mk ((by rw [hg]; exact (below_size (by exact below_y HB.out)) : w.heap.size ≤ gb134)); have GE134 := Aside0.mk ((by rw [hg]; exact (below_size (by exact below_y HB.out)) : w.heap.size ≤ gb134)); replace HB := bl_x HB hb; have NB119_134 := Aside0.mk ((by rw [hg]; exact Nat.ne_of_lt (blk_lt (g := gb119) (o := .cells #[.int .i64 a0_0, .int .i64 a0_1, .int .i64 a0_2, .slice A0_3 l0_3.length c0_3, .int .i64 a0_4, .slice A0_5 l0_5.length c0_5, .slice (some ad133) l0_6.length c0_6] 26 (0, 0)) (blk_x BK119.out)) : gb119 ≠ gb134)); have NB134_119 := Aside0.mk ((by rw [hg]; exact Nat.ne_of_gt (blk_lt (g := gb119) (o := .cells #[.int .i64 a0_0, .int .i64 a0_1, .int .i64 a0_2, .slice A0_3 l0_3.length c0_3, .int .i64 a0_4, .slice A0_5 l0_5.length c0_5, .slice (some ad133) l0_6.length c0_6] 26 (0, 0)) (blk_x BK119.out)) : gb134 ≠ gb119)); replace BK119 := Aside0.mk (blk_below (blk_x BK119.out) hb); clear hb hbox hg; have hnb66 := NB134_119.out; have hnc66 := NB119_134.out; obtain ⟨_, _, _⟩ := cz3 BK134; have hfz67_0 := blk_frozen BK134.out) | ((with_reducible refine gate_callee (f := 75) rfl ?_); refine goesL_ (some 95) rfl rfl Try.func75 (by kernel_rfl) rfl #[.agg #[.int .i64 ((rd_T79 l0_6 x89_4).f0.f0), .int .i64 ((rd_T79 l0_6 x89_4).f0.f1)], .int .i64 5000] rfl (by (try simp only [List.map_toArray, List.map_cons, List.map_nil]); first | done | rfl | (simp only [List.length_drop, List.length_take]; rfl)) ?_; (with_reducible refine (ship_checkRange.calls k4 ((rd_T79 l0_6 x89_4).f0.f0) ((rd_T79 l0_6 x89_4).f0.f1) 5000 t135 _ A61.out).mono ?_); rintro e w68 ⟨rfl, hb⟩; refine ⟨_, rfl, ?_⟩; replace BK119 := Aside0.mk (blk_below (g := gb119) (o := .cells #[.int .i64 a0_0, .int .i64 a0_1, .int .i64 a0_2, .slice A0_3 l0_3.length c0_3, .int .i64 a0_4, .slice A0_5 l0_5.length c0_5, .slice (some ad133) l0_6.length c0_6] 26 (0, 0)) (blk_w BK119.out) hb); replace BK134 := Aside0.mk (blk_below (g := gb134) (o := .cells #[.int .i64 ((rd_T79 l0_6 x89_4).f0.f0), .int .i64 ((rd_T79 l0_6 x89_4).f0.f1), .int .i64 ((rd_T79 l0_6 x89_4).f1)] 79 (0, 0)) (by (with_reducible repeat (first | refine blk_drewN ?_ _ | refine blk_drew ?_ | refine blk_alloc ?_ _)); refine blk_put (cs := #[.int .i64 ((rd_T79 l0_6 x89_4).f0.f0), .int .i64 ((rd_T79 l0_6 x89_4).f0.f1), .int .i64 0]) ?_ 2 _ rfl; (with_reducible repeat (first | refine blk_drewN ?_ _ | refine blk_drew ?_ | refine blk_alloc ?_ _)); refine blk_put (cs := #[.int .i64 ((rd_T79 l0_6 x89_4).f0.f0), .int .i64 0, .int .i64 0]) ?_ 1 _ rfl; (with_reducible repeat (first | refine blk_drewN ?_ _ | refine blk_drew ?_ | refine blk_alloc ?_ _)); refine blk_put (cs := #[.int .i64 0, .int .i64 0, .int .i64 0]) ?_ 0 _ rfl; (with_reducible repeat (first | refine blk_drewN ?_ _ | refine blk_drew ?_ | refine blk_alloc ?_ _)); exact BK134.out) hb); replace HB := bl_x HB hb; (try clear hb); (try clear hk); (try clear hi); obtain ⟨_, _, _⟩ := cz3 BK134; have hfz69_0 := blk_frozen BK134.out) | ((with_reducible refine gate_callee (f := 72) rfl ?_); refine goesL_ (some 101) rfl rfl Try.func72 (by kernel_rfl) rfl #[.int .i64 ((rd_T79 l0_6 x89_4).f1), .int .i64 0, .int .i64 100000] rfl (by (try simp only [List.map_toArray, List.map_cons, List.map_nil]); first | done | rfl | (simp only [List.length_drop, List.length_take]; rfl)) ?_; (with_reducible refine (ship_in.calls ((rd_T79 l0_6 x89_4).f1) 0 100000 true _ A63.out).mono ?_); rintro e w' ⟨rfl, ⟨nd, rfl⟩⟩; refine ⟨_, rfl, ?_⟩))
                     go_roundg k4
                     case measure => have := HJ1.out; have := HK2.out; have := HK3.out; have := HK4.out; omega
                     case rel => exact ⟨(wrap64 (x89_4 + 1)), (by first | rfl | (simp; done) | (simp [*]; done)), H', ⟨by have := HJ1.out; have := HK2.out; have := HK3.out; have := HK4.out; omega⟩, ⟨blk_x BK119.out⟩, ⟨by exact below_y HB.out⟩⟩
                    ·
                     replace c64 := Bool.eq_false_iff.mpr c64
                     subst c64
                     have H1 : (some 1) = some r := by rw [if_neg (show ¬ (false = true) by decide)] at H; exact H
                     clear H
                     have H := H1
                     clear H1
                     obtain rfl := Option.some.inj H
                     have p133 : 0 ≤ (x89_4 : Int) := of_x
                     have q133 : x89_4 < (l0_6.length : Int) := of_x
                     obtain ⟨ad133, e133, hx133_0, hx133_1, hx133_2⟩ := at_T79 HR0_6.out x89_4 p133 q133
                     cases e133
                     replace hx133_0 := cell_x HB hx133_0
                     replace hx133_1 := cell_x HB hx133_1
                     replace hx133_2 := cell_x HB hx133_2
                     replace p133 := eq_true p133
                     replace q133 := eq_true q133
                     go_wp2_with (first | ((with_reducible refine gate_dst (N := 10) rfl ?_); refine box_event ?hg (N := 10) ?hd (cs := #[.int .i64 0, .int .i64 0, .int .i64 0]) (t := 79) ?hr ?_; (case hd => rfl); (case hg => rfl); (case hr => first | (go_simp; done) | (go_simp; rfl)); intro gb134 hg w70 hbox hb; have BK134 := Aside0.mk (hbox); have GW134 := Aside0.mk ((by rw [hg]; exact (below_size (by exact below_y HB.out)) : w.heap.size ≤ gb134)); have GE134 := Aside0.mk ((by rw [hg]; exact (below_size (by exact below_y HB.out)) : w.heap.size ≤ gb134)); replace HB := bl_x HB hb; have NB119_134 := Aside0.mk ((by rw [hg]; exact Nat.ne_of_lt (blk_lt (g := gb119) (o := .cells #[.int .i64 a0_0, .int .i64 a0_1, .int .i64 a0_2, .slice A0_3 l0_3.length c0_3, .int .i64 a0_4, .slice A0_5 l0_5.length c0_5, .slice (some ad133) l0_6.length c0_6] 26 (0, 0)) (blk_x BK119.out)) : gb119 ≠ gb134)); have NB134_119 := Aside0.mk ((by rw [hg]; exact Nat.ne_of_gt (blk_lt (g := gb119) (o := .cells #[.int .i64 a0_0, .int .i64 a0_1, .int .i64 a0_2, .slice A0_3 l0_3.length c0_3, .int .i64 a0_4, .slice A0_5 l0_5.length c0_5, .slice (some ad133) l0_6.length c0_6] 26 (0, 0)) (blk_x BK119.out)) : gb134 ≠ gb119)); replace BK119 := Aside0.mk (blk_below (blk_x BK119.out) hb); clear hb hbox hg; have hnb71 := NB134_119.out; have hnc71 := NB119_134.out; obtain ⟨_, _, _⟩ := cz3 BK134; have hfz72_0 := blk_frozen BK134.out) | ((with_reducible refine gate_callee (f := 75) rfl ?_); refine goesL_ (some 95) rfl rfl Try.func75 (by kernel_rfl) rfl #[.agg #[.int .i64 ((rd_T79 l0_6 x89_4).f0.f0), .int .i64 ((rd_T79 l0_6 x89_4).f0.f1)], .int .i64 5000] rfl (by (try simp only [List.map_toArray, List.map_cons, List.map_nil]); first | done | rfl | (simp only [List.length_drop, List.length_take]; rfl)) ?_; (with_reducible refine (ship_checkRange.calls k4 ((rd_T79 l0_6 x89_4).f0.f0) ((rd_T79 l0_6 x89_4).f0.f1) 5000 t135 _ A61.out).mono ?_); rintro e w73 ⟨rfl, hb⟩; refine ⟨_, rfl, ?_⟩; replace BK119 := Aside0.mk (blk_below (g := gb119) (o := .cells #[.int .i64 a0_0, .int .i64 a0_1, .int .i64 a0_2, .slice A0_3 l0_3.length c0_3, .int .i64 a0_4, .slice A0_5 l0_5.length c0_5, .slice (some ad133) l0_6.length c0_6] 26 (0, 0)) (blk_w BK119.out) hb); replace BK134 := Aside0.mk (blk_below (g := gb134) (o := .cells #[.int .i64 ((rd_T79 l0_6 x89_4).f0.f0), .int .i64 ((rd_T79 l0_6 x89_4).f0.f1), .int .i64 ((rd_T79 l0_6 x89_4).f1)] 79 (0, 0)) (by (with_reducible repeat (first | refine blk_drewN ?_ _ | refine blk_drew ?_ | refine blk_alloc ?_ _)); refine blk_put (cs := #[.int .i64 ((rd_T79 l0_6 x89_4).f0.f0), .int .i64 ((rd_T79 l0_6 x89_4).f0.f1), .int .i64 0]) ?_ 2 _ rfl; (with_reducible repeat (first | refine blk_drewN ?_ _ | refine blk_drew ?_ | refine blk_alloc ?_ _)); refine blk_put (cs := #[.int .i64 ((rd_T79 l0_6 x89_4).f0.f0), .int .i64 0, .int .i64 0]) ?_ 1 _ rfl; (with_reducible repeat (first | refine blk_drewN ?_ _ | refine blk_drew ?_ | refine blk_alloc ?_ _)); refine blk_put (cs := #[.int .i64 0, .int .i64 0, .int .i64 0]) ?_ 0 _ rfl; (with_reducible repeat (first | refine blk_drewN ?_ _ | refine blk_drew ?_ | refine blk_alloc ?_ _)); exact BK134.out) hb); replace HB := bl_x HB hb; (try clear hb); (try clear hk); (try clear hi); obtain ⟨_, _, _⟩ := cz3 BK134; have hfz74_0 := blk_frozen BK134.out) | ((with_reducible refine gate_callee (f := 72) rfl ?_); refine goesL_ (some 101) rfl rfl Try.func72 (by kernel_rfl) rfl #[.int .i64 ((rd_T79 l0_6 x89_4).f1), .int .i64 0, .int .i64 100000] rfl (by (try simp only [List.map_toArray, List.map_cons, List.map_nil]); first | done | rfl | (simp only [List.length_drop, List.length_take]; rfl)) ?_; (with_reducible refine (ship_in.calls ((rd_T79 l0_6 x89_4).f1) 0 100000 false _ A63.out).mono ?_); rintro e w' ⟨rfl, ⟨nd, rfl⟩⟩; refine ⟨_, rfl, ?_⟩))
                     go_ret
                     exact ⟨by first | rfl | (simp [errW_none, errW_some] <;> rfl) | (simp [*, errW_none, errW_some] <;> rfl), by exact below_y HB.out⟩
                   ·
                    rw [if_neg c62] at H
                    have c62b0 : (t135 == 0) = false := beq_eq_false_iff_ne.mpr c62
                    have c62b1 : (t135 != 0) = true := bne_iff_ne.mpr c62
                    obtain rfl := Option.some.inj H
                    have p133 : 0 ≤ (x89_4 : Int) := of_x
                    have q133 : x89_4 < (l0_6.length : Int) := of_x
                    obtain ⟨ad133, e133, hx133_0, hx133_1, hx133_2⟩ := at_T79 HR0_6.out x89_4 p133 q133
                    cases e133
                    replace hx133_0 := cell_x HB hx133_0
                    replace hx133_1 := cell_x HB hx133_1
                    replace hx133_2 := cell_x HB hx133_2
                    replace p133 := eq_true p133
                    replace q133 := eq_true q133
                    go_wp2_with (first | ((with_reducible refine gate_dst (N := 10) rfl ?_); refine box_event ?hg (N := 10) ?hd (cs := #[.int .i64 0, .int .i64 0, .int .i64 0]) (t := 79) ?hr ?_; (case hd => rfl); (case hg => rfl); (case hr => first | (go_simp; done) | (go_simp; rfl)); intro gb134 hg w75 hbox hb; have BK134 := Aside0.mk (hbox); have GW134 := Aside0.mk ((by rw [hg]; exact (below_size (by exact below_y HB.out)) : w.heap.size ≤ gb134)); have GE134 := Aside0.mk ((by rw [hg]; exact (below_size (by exact below_y HB.out)) : w.heap.size ≤ gb134)); replace HB := bl_x HB hb; have NB119_134 := Aside0.mk ((by rw [hg]; exact Nat.ne_of_lt (blk_lt (g := gb119) (o := .cells #[.int .i64 a0_0, .int .i64 a0_1, .int .i64 a0_2, .slice A0_3 l0_3.length c0_3, .int .i64 a0_4, .slice A0_5 l0_5.length c0_5, .slice (some ad133) l0_6.length c0_6] 26 (0, 0)) (blk_x BK119.out)) : gb119 ≠ gb134)); have NB134_119 := Aside0.mk ((by rw [hg]; exact Nat.ne_of_gt (blk_lt (g := gb119) (o := .cells #[.int .i64 a0_0, .int .i64 a0_1, .int .i64 a0_2, .slice A0_3 l0_3.length c0_3, .int .i64 a0_4, .slice A0_5 l0_5.length c0_5, .slice (some ad133) l0_6.length c0_6] 26 (0, 0)) (blk_x BK119.out)) : gb134 ≠ gb119)); replace BK119 := Aside0.mk (blk_below (blk_x BK119.out) hb); clear hb hbox hg; have hnb76 := NB134_119.out; have hnc76 := NB119_134.out; obtain ⟨_, _, _⟩ := cz3 BK134; have hfz77_0 := blk_frozen BK134.out) | ((with_reducible refine gate_callee (f := 75) rfl ?_); refine goesL_ (some 95) rfl rfl Try.func75 (by kernel_rfl) rfl #[.agg #[.int .i64 ((rd_T79 l0_6 x89_4).f0.f0), .int .i64 ((rd_T79 l0_6 x89_4).f0.f1)], .int .i64 5000] rfl (by (try simp only [List.map_toArray, List.map_cons, List.map_nil]); first | done | rfl | (simp only [List.length_drop, List.length_take]; rfl)) ?_; (with_reducible refine (ship_checkRange.calls k4 ((rd_T79 l0_6 x89_4).f0.f0) ((rd_T79 l0_6 x89_4).f0.f1) 5000 t135 _ A61.out).mono ?_); rintro e w78 ⟨rfl, hb⟩; refine ⟨_, rfl, ?_⟩; replace BK119 := Aside0.mk (blk_below (g := gb119) (o := .cells #[.int .i64 a0_0, .int .i64 a0_1, .int .i64 a0_2, .slice A0_3 l0_3.length c0_3, .int .i64 a0_4, .slice A0_5 l0_5.length c0_5, .slice (some ad133) l0_6.length c0_6] 26 (0, 0)) (blk_w BK119.out) hb); replace BK134 := Aside0.mk (blk_below (g := gb134) (o := .cells #[.int .i64 ((rd_T79 l0_6 x89_4).f0.f0), .int .i64 ((rd_T79 l0_6 x89_4).f0.f1), .int .i64 ((rd_T79 l0_6 x89_4).f1)] 79 (0, 0)) (by (with_reducible repeat (first | refine blk_drewN ?_ _ | refine blk_drew ?_ | refine blk_alloc ?_ _)); refine blk_put (cs := #[.int .i64 ((rd_T79 l0_6 x89_4).f0.f0), .int .i64 ((rd_T79 l0_6 x89_4).f0.f1), .int .i64 0]) ?_ 2 _ rfl; (with_reducible repeat (first | refine blk_drewN ?_ _ | refine blk_drew ?_ | refine blk_alloc ?_ _)); refine blk_put (cs := #[.int .i64 ((rd_T79 l0_6 x89_4).f0.f0), .int .i64 0, .int .i64 0]) ?_ 1 _ rfl; (with_reducible repeat (first | refine blk_drewN ?_ _ | refine blk_drew ?_ | refine blk_alloc ?_ _)); refine blk_put (cs := #[.int .i64 0, .int .i64 0, .int .i64 0]) ?_ 0 _ rfl; (with_reducible repeat (first | refine blk_drewN ?_ _ | refine blk_drew ?_ | refine blk_alloc ?_ _)); exact BK134.out) hb); replace HB := bl_x HB hb; (try clear hb); (try clear hk); (try clear hi)))
                    go_ret
                    exact ⟨by first | rfl | (simp [errW_none, errW_some] <;> rfl) | (simp [*, errW_none, errW_some] <;> rfl), by exact below_y HB.out⟩
                  ·
                   rw [if_neg c60] at H
                   exact absurd H (by simp)
                 ·
                  rw [if_neg c59] at H
                  exact absurd H (by simp)
                ·
                 rw [if_neg c58] at H
                 have c58b0 : decide (x89_4 < (l0_6.length : Int)) = false := decide_eq_false c58
                 clear c58
                 obtain rfl := Option.some.inj H
                 go_wp2
                 go_ret
                 exact ⟨by first | rfl | (simp [errW_none, errW_some] <;> rfl) | (simp [*, errW_none, errW_some] <;> rfl), by exact below_y HB.out⟩
        ·
         replace c38 := Bool.eq_false_iff.mpr c38
         subst c38
         have H1 : (some 1) = some r := by rw [if_neg (show ¬ (false = true) by decide)] at H; exact H
         clear H
         have H := H1
         clear H1
         obtain rfl := Option.some.inj H
         obtain ⟨_, _, _, _, _, _, _⟩ := cz7 BK119
         have hfz79_0 := blk_frozen BK119.out
         go_wp2_with (first | ((with_reducible refine gate_callee (f := 72) rfl ?_); refine goesL_ (some 62) rfl rfl Try.func72 (by kernel_rfl) rfl #[.int .i64 a0_4, .int .i64 0, .int .i64 2880] rfl (by (try simp only [List.map_toArray, List.map_cons, List.map_nil]); first | done | rfl | (simp only [List.length_drop, List.length_take]; rfl)) ?_; (with_reducible refine (ship_in.calls a0_4 0 2880 false _ A37.out).mono ?_); rintro e w' ⟨rfl, ⟨nd, rfl⟩⟩; refine ⟨_, rfl, ?_⟩))
         go_ret
         exact ⟨by first | rfl | (simp [errW_none, errW_some] <;> rfl) | (simp [*, errW_none, errW_some] <;> rfl), by exact below_y HB.out⟩
    ·
     rw [if_neg c14] at H
     have c14b0 : (t123 == 0) = false := beq_eq_false_iff_ne.mpr c14
     have c14b1 : (t123 != 0) = true := bne_iff_ne.mpr c14
     obtain rfl := Option.some.inj H
     obtain ⟨_, _, _, _, _, _, _⟩ := cz7 BK119
     have hfz80_0 := blk_frozen BK119.out
     go_wp2_with (first | ((with_reducible refine gate_callee (f := 73) rfl ?_); refine goesL_ (some 31) rfl rfl Try.func73 (by kernel_rfl) rfl #[.int .i64 (l0_3.length : Int), .int .i64 3] rfl (by (try simp only [List.map_toArray, List.map_cons, List.map_nil]); first | done | rfl | (simp only [List.length_drop, List.length_take]; rfl)) ?_; (with_reducible refine (ship_many.calls (l0_3.length : Int) 3 t123 _ A13.out).mono ?_); rintro e w' ⟨rfl, ⟨nd, rfl⟩⟩; refine ⟨_, rfl, ?_⟩))
     go_ret
     exact ⟨by first | rfl | (simp [errW_none, errW_some] <;> rfl) | (simp [*, errW_none, errW_some] <;> rfl), by exact below_y HB.out⟩
mutual
def ship_checkStowage.l0 : Nat → List Int → List Int → Int → Int → Int → Int → Int → List (S85) → Int → List (S59) → List (S79) → Option (Int)
 | 0, _, _, _, _, _, _, _, _, _, _, _ => none
 | k + 1, x1, x18, x19, x20, x102000, x102001, x102002, x102003, x102004, x102005, x102006 => if x20 < x19 then (if 0 ≤ x20 then (if x20 < (x18.length : Int) then ((ship_in.f (rd x18 x20) (-1) (wrap64 ((x102003.length : Int) - 1))).bind fun t103 => (if t103 = true then (ship_checkStowage.l0 k x1 x18 x19 (wrap64 (x20 + 1)) x102000 x102001 x102002 x102003 x102004 x102005 x102006) else (some 3))) else (none)) else (none)) else (ship_checkStowage.l1 k x1 x102003 (x102003.length : Int) 0 x102000 x102001 x102002 x102003 x102004 x102005 x102006)
def ship_checkStowage.l1 : Nat → List Int → List (S85) → Int → Int → Int → Int → Int → List (S85) → Int → List (S59) → List (S79) → Option (Int)
 | 0, _, _, _, _, _, _, _, _, _, _, _ => none
 | k + 1, x1, x33, x34, x35, x102000, x102001, x102002, x102003, x102004, x102005, x102006 => if x35 < x34 then (if 0 ≤ x35 then (if x35 < (x33.length : Int) then (ship_checkStowage.l2 k x1 x35 ((rd_T85 x33 x35).f0) x33 x34 x35 x1 (x1.length : Int) 0 x102000 x102001 x102002 x102003 x102004 x102005 x102006) else (none)) else (none)) else (some 0)
def ship_checkStowage.l2 : Nat → List Int → Int → Int → List (S85) → Int → Int → List Int → Int → Int → Int → Int → Int → List (S85) → Int → List (S59) → List (S79) → Option (Int)
 | 0, _, _, _, _, _, _, _, _, _, _, _, _, _, _, _, _ => none
 | k + 1, x1, x7, x9, x33, x34, x35, x42, x43, x44, x102000, x102001, x102002, x102003, x102004, x102005, x102006 => if x44 < x43 then (if 0 ≤ x44 then (if x44 < (x42.length : Int) then (if (rd x42 x44) = x7 then (if x44 < (x102006.length : Int) then (ship_checkStowage.l2 k x1 x7 (wrap64 (x9 - ((rd_T79 x102006 x44).f0.f1))) x33 x34 x35 x42 x43 (wrap64 (x44 + 1)) x102000 x102001 x102002 x102003 x102004 x102005 x102006) else (none)) else (ship_checkStowage.l2 k x1 x7 x9 x33 x34 x35 x42 x43 (wrap64 (x44 + 1)) x102000 x102001 x102002 x102003 x102004 x102005 x102006)) else (none)) else (none)) else (if x9 < 0 then (some 13) else (ship_checkStowage.l1 k x1 x33 x34 (wrap64 (x35 + 1)) x102000 x102001 x102002 x102003 x102004 x102005 x102006))
end
def ship_checkStowage.f (k : Nat) (a0_0 : Int) (a0_1 : Int) (a0_2 : Int) (l0_3 : List (S85)) (a0_4 : Int) (l0_5 : List (S59)) (l0_6 : List (S79)) (l1 : List Int) : Option (Int) := if (l1.length : Int) = (l0_6.length : Int) then (ship_checkStowage.l0 k l1 l1 (l1.length : Int) 0 a0_0 a0_1 a0_2 l0_3 a0_4 l0_5 l0_6) else (some 2)
theorem ship_checkStowage.mono_l : ∀ k, (∀ y0 y1 y2 y3 y4 y5 y6 y7 y8 y9 y10, LeO (ship_checkStowage.l0 k y0 y1 y2 y3 y4 y5 y6 y7 y8 y9 y10) (ship_checkStowage.l0 (k + 1) y0 y1 y2 y3 y4 y5 y6 y7 y8 y9 y10)) ∧ (∀ y0 y1 y2 y3 y4 y5 y6 y7 y8 y9 y10, LeO (ship_checkStowage.l1 k y0 y1 y2 y3 y4 y5 y6 y7 y8 y9 y10) (ship_checkStowage.l1 (k + 1) y0 y1 y2 y3 y4 y5 y6 y7 y8 y9 y10)) ∧ (∀ y0 y1 y2 y3 y4 y5 y6 y7 y8 y9 y10 y11 y12 y13 y14 y15, LeO (ship_checkStowage.l2 k y0 y1 y2 y3 y4 y5 y6 y7 y8 y9 y10 y11 y12 y13 y14 y15) (ship_checkStowage.l2 (k + 1) y0 y1 y2 y3 y4 y5 y6 y7 y8 y9 y10 y11 y12 y13 y14 y15))
 | 0 => ⟨fun _ _ _ _ _ _ _ _ _ _ _ r h => by simp [ship_checkStowage.l0] at h, fun _ _ _ _ _ _ _ _ _ _ _ r h => by simp [ship_checkStowage.l1] at h, fun _ _ _ _ _ _ _ _ _ _ _ _ _ _ _ _ r h => by simp [ship_checkStowage.l2] at h⟩
 | k + 1 => by
  obtain ⟨ih0, ih1, ih2⟩ := ship_checkStowage.mono_l k
  refine ⟨?_, ?_, ?_⟩
  ·
   intro y0 y1 y2 y3 y4 y5 y6 y7 y8 y9 y10
   unfold ship_checkStowage.l0
   repeat' first
   | (with_reducible exact ih0 _ _ _ _ _ _ _ _ _ _ _)
   | (with_reducible exact ih1 _ _ _ _ _ _ _ _ _ _ _)
   | (with_reducible exact ih2 _ _ _ _ _ _ _ _ _ _ _ _ _ _ _ _)
   | (with_reducible exact LeO.refl _)
   | (with_reducible exact LeO.none _)
   | (with_reducible refine LeO.ite ?_ ?_)
   | (with_reducible refine LeO.bind ?_ (fun _ => ?_))
   | exact ih0 _ _ _ _ _ _ _ _ _ _ _
   | exact ih1 _ _ _ _ _ _ _ _ _ _ _
   | exact ih2 _ _ _ _ _ _ _ _ _ _ _ _ _ _ _ _
   | exact LeO.none _
   | refine LeO.ite ?_ ?_
   | refine LeO.bind ?_ (fun _ => ?_)
  ·
   intro y0 y1 y2 y3 y4 y5 y6 y7 y8 y9 y10
   unfold ship_checkStowage.l1
   repeat' first
   | (with_reducible exact ih0 _ _ _ _ _ _ _ _ _ _ _)
   | (with_reducible exact ih1 _ _ _ _ _ _ _ _ _ _ _)
   | (with_reducible exact ih2 _ _ _ _ _ _ _ _ _ _ _ _ _ _ _ _)
   | (with_reducible exact LeO.refl _)
   | (with_reducible exact LeO.none _)
   | (with_reducible refine LeO.ite ?_ ?_)
   | (with_reducible refine LeO.bind ?_ (fun _ => ?_))
   | exact ih0 _ _ _ _ _ _ _ _ _ _ _
   | exact ih1 _ _ _ _ _ _ _ _ _ _ _
   | exact ih2 _ _ _ _ _ _ _ _ _ _ _ _ _ _ _ _
   | exact LeO.none _
   | refine LeO.ite ?_ ?_
   | refine LeO.bind ?_ (fun _ => ?_)
  ·
   intro y0 y1 y2 y3 y4 y5 y6 y7 y8 y9 y10 y11 y12 y13 y14 y15
   unfold ship_checkStowage.l2
   repeat' first
   | (with_reducible exact ih0 _ _ _ _ _ _ _ _ _ _ _)
   | (with_reducible exact ih1 _ _ _ _ _ _ _ _ _ _ _)
   | (with_reducible exact ih2 _ _ _ _ _ _ _ _ _ _ _ _ _ _ _ _)
   | (with_reducible exact LeO.refl _)
   | (with_reducible exact LeO.none _)
   | (with_reducible refine LeO.ite ?_ ?_)
   | (with_reducible refine LeO.bind ?_ (fun _ => ?_))
   | exact ih0 _ _ _ _ _ _ _ _ _ _ _
   | exact ih1 _ _ _ _ _ _ _ _ _ _ _
   | exact ih2 _ _ _ _ _ _ _ _ _ _ _ _ _ _ _ _
   | exact LeO.none _
   | refine LeO.ite ?_ ?_
   | refine LeO.bind ?_ (fun _ => ?_)
theorem ship_checkStowage.mono : ∀ a0 a1 a2 a3 a4 a5 a6 a7 k, LeO (ship_checkStowage.f k a0 a1 a2 a3 a4 a5 a6 a7) (ship_checkStowage.f (k + 1) a0 a1 a2 a3 a4 a5 a6 a7) := by
 intro a0 a1 a2 a3 a4 a5 a6 a7 k
 obtain ⟨ih0, ih1, ih2⟩ := ship_checkStowage.mono_l k
 unfold ship_checkStowage.f
 repeat' first
   | (with_reducible exact ih0 _ _ _ _ _ _ _ _ _ _ _)
   | (with_reducible exact ih1 _ _ _ _ _ _ _ _ _ _ _)
   | (with_reducible exact ih2 _ _ _ _ _ _ _ _ _ _ _ _ _ _ _ _)
   | (with_reducible exact LeO.refl _)
   | (with_reducible exact LeO.none _)
   | (with_reducible refine LeO.ite ?_ ?_)
   | (with_reducible refine LeO.bind ?_ (fun _ => ?_))
   | exact ih0 _ _ _ _ _ _ _ _ _ _ _
   | exact ih1 _ _ _ _ _ _ _ _ _ _ _
   | exact ih2 _ _ _ _ _ _ _ _ _ _ _ _ _ _ _ _
   | exact LeO.none _
   | refine LeO.ite ?_ ?_
   | refine LeO.bind ?_ (fun _ => ?_)
set_option maxHeartbeats 8000000 in
set_option maxRecDepth 100000 in
theorem ship_checkStowage.calls (k : Nat) (a0_0 : Int) (a0_1 : Int) (a0_2 : Int) (A0_3 : Option Addr) (c0_3 : Nat) (l0_3 : List (S85)) (a0_4 : Int) (A0_5 : Option Addr) (c0_5 : Nat) (l0_5 : List (S59)) (A0_6 : Option Addr) (c0_6 : Nat) (l0_6 : List (S79)) (A1 : Option Addr) (c1 : Nat) (l1 : List Int) (r : Int) (w : World) (hr0_3 : Kd.C k85 w A0_3 l0_3.length l0_3) (hc0_3 : l0_3.length ≤ c0_3) (hr0_5 : Kd.C k59 w A0_5 l0_5.length l0_5) (hc0_5 : l0_5.length ≤ c0_5) (hr0_6 : Kd.C k79 w A0_6 l0_6.length l0_6) (hc0_6 : l0_6.length ≤ c0_6) (hr1 : Kd.C (Kd.int .i64) w A1 l1.length l1) (hc1 : l1.length ≤ c1) (h : ship_checkStowage.f k a0_0 a0_1 a0_2 l0_3 a0_4 l0_5 l0_6 l1 = some r) :
  Calls Try.prog 63 #[.agg #[.int .i64 a0_0, .int .i64 a0_1, .int .i64 a0_2, .slice A0_3 l0_3.length c0_3, .int .i64 a0_4, .slice A0_5 l0_5.length c0_5, .slice A0_6 l0_6.length c0_6], .slice A1 l1.length c1] w fun e w' => e = .returned (.int .i64 r) ∧ Below w.heap.size w w' := by
 have hu26 := Try.underlying26
 have hu85 := Try.underlying85
 have HR0_3 := Aside0.mk hr0_3
 have HC0_3 := Aside0.mk hc0_3
 clear hr0_3 hc0_3
 have HR0_5 := Aside0.mk hr0_5
 have HC0_5 := Aside0.mk hc0_5
 clear hr0_5 hc0_5
 have HR0_6 := Aside0.mk hr0_6
 have HC0_6 := Aside0.mk hc0_6
 clear hr0_6 hc0_6
 have HR1 := Aside0.mk hr1
 have HC1 := Aside0.mk hc1
 clear hr1 hc1
 have HB := Aside0.mk (Below.refl w.heap.size w)
 have H : (if (l1.length : Int) = (l0_6.length : Int) then (ship_checkStowage.l0 k l1 l1 (l1.length : Int) 0 a0_0 a0_1 a0_2 l0_3 a0_4 l0_5 l0_6) else (some 2)) = some r := h
 clear h
 by_cases c3 : (l1.length : Int) = (l0_6.length : Int)
 ·
  rw [if_pos c3] at H
  have c3b0 : ((l1.length : Int) == (l0_6.length : Int)) = true := beq_iff_eq.mpr c3
  have c3b1 : ((l1.length : Int) != (l0_6.length : Int)) = false := bne_eq_false_iff_eq.mpr c3
  have c3b2 : (l1.length == l0_6.length) = true := by first | simpa using c3 | (simp at c3 ⊢; omega)
  clear c3
  have H' := Aside0.mk H
  clear H
  go_enter Try.func63, Try.ntmps63
  go_wp2_with (first | ((with_reducible refine gate_dst (N := 2) rfl ?_); refine box_event ?hg (N := 2) ?hd (cs := #[.int .i64 a0_0, .int .i64 a0_1, .int .i64 a0_2, .slice A0_3 l0_3.length c0_3, .int .i64 a0_4, .slice A0_5 l0_5.length c0_5, .slice A0_6 l0_6.length c0_6]) (t := 26) ?hr ?_; (case hd => rfl); (case hg => rfl); (case hr => first | (go_simp; done) | (go_simp; rfl)); intro gb101 hg w4 hbox hb; have BK101 := Aside0.mk (hbox); have GW101 := Aside0.mk ((by rw [hg]; exact (below_size (below_x HB.out)) : w.heap.size ≤ gb101)); have GE101 := Aside0.mk ((by rw [hg]; exact (below_size (below_x HB.out)) : w.heap.size ≤ gb101)); replace HB := Aside0.mk (below_step (below_x HB.out) hb); clear hb hbox hg; obtain ⟨_, _, _, _, _, _, _⟩ := cz7 BK101; have hfz5_0 := blk_frozen BK101.out))
  go_loopg [20] k (fun kq v20 w' => ∃ (x20_1 : Int), v20 = .int .i64 x20_1 ∧ Aside0 (ship_checkStowage.l0 kq l1 l1 (l1.length : Int) x20_1 a0_0 a0_1 a0_2 l0_3 a0_4 l0_5 l0_6 = some r) ∧ Aside0 (kq ≤ k) ∧ Aside0 (w'.heap[gb101]? = some (.cells #[.int .i64 a0_0, .int .i64 a0_1, .int .i64 a0_2, (.slice A0_3 l0_3.length c0_3), .int .i64 a0_4, (.slice A0_5 l0_5.length c0_5), (.slice A0_6 l0_6.length c0_6)] 26 (0, 0))) ∧ Aside0 (Below w.heap.size w w'))
  case atStart => exact ⟨(0), (by first | rfl | (simp; done) | (simp [*]; done)), H', ⟨Nat.le_refl _⟩, ⟨blk_x BK101.out⟩, ⟨by exact below_y HB.out⟩⟩
  case round =>
   clear H'
   obtain ⟨x20_1, rfl, HA, HK1, BK101, HB⟩ := hrel
   cases gk with
   | zero => exact absurd HA.out (by simp [ship_checkStowage.l0])
   | succ k1 =>
    have H := HA.out
    clear HA
    simp only [ship_checkStowage.l0] at H
    by_cases c6 : x20_1 < (l1.length : Int)
    ·
     rw [if_pos c6] at H
     have c6b0 : decide (x20_1 < (l1.length : Int)) = true := decide_eq_true c6
     clear c6
     by_cases c7 : 0 ≤ x20_1
     ·
      rw [if_pos c7] at H
      have c7b0 : decide (0 ≤ x20_1) = true := decide_eq_true c7
      clear c7
      by_cases c8 : x20_1 < (l1.length : Int)
      ·
       rw [if_pos c8] at H
       have c8b0 : decide (x20_1 < (l1.length : Int)) = true := decide_eq_true c8
       clear c8
       replace H := Option.bind_eq_some_iff.mp H
       obtain ⟨t103, A90, H⟩ := H
       try dsimp only at H
       have A9 := Aside0.mk A90
       clear A90
       by_cases c10 : t103 = true
       ·
        subst c10
        have H1 : (ship_checkStowage.l0 k1 l1 l1 (l1.length : Int) (wrap64 (x20_1 + 1)) a0_0 a0_1 a0_2 l0_3 a0_4 l0_5 l0_6) = some r := by rw [if_pos rfl] at H; exact H
        clear H
        have H := H1
        clear H1
        have H' := Aside0.mk H
        clear H
        have p102 : 0 ≤ (x20_1 : Int) := of_x
        have q102 : x20_1 < (l1.length : Int) := of_x
        obtain ⟨ad102, e102, hx102_0⟩ := Kd.at_int HR1.out x20_1 p102 q102
        cases e102
        replace hx102_0 := cell_x HB hx102_0
        replace p102 := eq_true p102
        replace q102 := eq_true q102
        obtain ⟨_, _, _, _, _, _, _⟩ := cz7 BK101
        have hfz11_0 := blk_frozen BK101.out
        go_wp2_with (first | ((with_reducible refine gate_callee (f := 72) rfl ?_); refine goesL_ (some 29) rfl rfl Try.func72 (by kernel_rfl) rfl #[.int .i64 (rd l1 x20_1), .int .i64 (-1), .int .i64 (wrap64 ((l0_3.length : Int) - 1))] rfl (by (try simp only [List.map_toArray, List.map_cons, List.map_nil]); first | done | rfl | (simp only [List.length_drop, List.length_take]; rfl)) ?_; (with_reducible refine (ship_in.calls (rd l1 x20_1) (-1) (wrap64 ((l0_3.length : Int) - 1)) true _ A9.out).mono ?_); rintro e w' ⟨rfl, ⟨nd, rfl⟩⟩; refine ⟨_, rfl, ?_⟩))
        go_roundg k1
        case measure => have := HK1.out; omega
        case rel => exact ⟨(wrap64 (x20_1 + 1)), (by first | rfl | (simp; done) | (simp [*]; done)), H', ⟨by have := HK1.out; omega⟩, ⟨blk_x BK101.out⟩, ⟨by exact below_y HB.out⟩⟩
       ·
        replace c10 := Bool.eq_false_iff.mpr c10
        subst c10
        have H1 : (some 3) = some r := by rw [if_neg (show ¬ (false = true) by decide)] at H; exact H
        clear H
        have H := H1
        clear H1
        obtain rfl := Option.some.inj H
        have p102 : 0 ≤ (x20_1 : Int) := of_x
        have q102 : x20_1 < (l1.length : Int) := of_x
        obtain ⟨ad102, e102, hx102_0⟩ := Kd.at_int HR1.out x20_1 p102 q102
        cases e102
        replace hx102_0 := cell_x HB hx102_0
        replace p102 := eq_true p102
        replace q102 := eq_true q102
        obtain ⟨_, _, _, _, _, _, _⟩ := cz7 BK101
        have hfz12_0 := blk_frozen BK101.out
        go_wp2_with (first | ((with_reducible refine gate_callee (f := 72) rfl ?_); refine goesL_ (some 29) rfl rfl Try.func72 (by kernel_rfl) rfl #[.int .i64 (rd l1 x20_1), .int .i64 (-1), .int .i64 (wrap64 ((l0_3.length : Int) - 1))] rfl (by (try simp only [List.map_toArray, List.map_cons, List.map_nil]); first | done | rfl | (simp only [List.length_drop, List.length_take]; rfl)) ?_; (with_reducible refine (ship_in.calls (rd l1 x20_1) (-1) (wrap64 ((l0_3.length : Int) - 1)) false _ A9.out).mono ?_); rintro e w' ⟨rfl, ⟨nd, rfl⟩⟩; refine ⟨_, rfl, ?_⟩))
        go_ret
        exact ⟨by first | rfl | (simp [errW_none, errW_some] <;> rfl) | (simp [*, errW_none, errW_some] <;> rfl), by exact below_y HB.out⟩
      ·
       rw [if_neg c8] at H
       exact absurd H (by simp)
     ·
      rw [if_neg c7] at H
      exact absurd H (by simp)
    ·
     rw [if_neg c6] at H
     have c6b0 : decide (x20_1 < (l1.length : Int)) = false := decide_eq_false c6
     clear c6
     have H' := Aside0.mk H
     clear H
     obtain ⟨_, _, _, _, _, _, _⟩ := cz7 BK101
     have hfz13_0 := blk_frozen BK101.out
     go_wp2
     go_loopg [35] k1 (fun kq v35 w' => ∃ (x35_2 : Int), v35 = .int .i64 x35_2 ∧ Aside0 (ship_checkStowage.l1 kq l1 l0_3 (l0_3.length : Int) x35_2 a0_0 a0_1 a0_2 l0_3 a0_4 l0_5 l0_6 = some r) ∧ Aside0 (kq ≤ k1) ∧ Aside0 (w'.heap[gb101]? = some (.cells #[.int .i64 a0_0, .int .i64 a0_1, .int .i64 a0_2, (.slice A0_3 l0_3.length c0_3), .int .i64 a0_4, (.slice A0_5 l0_5.length c0_5), (.slice A0_6 l0_6.length c0_6)] 26 (0, 0))) ∧ Aside0 (Below w.heap.size w w'))
     case atStart => exact ⟨(0), (by first | rfl | (simp; done) | (simp [*]; done)), H', ⟨Nat.le_refl _⟩, ⟨blk_x BK101.out⟩, ⟨by exact below_y HB.out⟩⟩
     case round =>
      clear H'
      obtain ⟨x35_2, rfl, HA, HK2, BK101, HB⟩ := hrel
      cases gk with
      | zero => exact absurd HA.out (by simp [ship_checkStowage.l1])
      | succ k2 =>
       have H := HA.out
       clear HA
       simp only [ship_checkStowage.l1] at H
       by_cases c14 : x35_2 < (l0_3.length : Int)
       ·
        rw [if_pos c14] at H
        have c14b0 : decide (x35_2 < (l0_3.length : Int)) = true := decide_eq_true c14
        clear c14
        by_cases c15 : 0 ≤ x35_2
        ·
         rw [if_pos c15] at H
         have c15b0 : decide (0 ≤ x35_2) = true := decide_eq_true c15
         clear c15
         by_cases c16 : x35_2 < (l0_3.length : Int)
         ·
          rw [if_pos c16] at H
          have c16b0 : decide (x35_2 < (l0_3.length : Int)) = true := decide_eq_true c16
          clear c16
          have H' := Aside0.mk H
          clear H
          have p104 : 0 ≤ (x35_2 : Int) := of_x
          have q104 : x35_2 < (l0_3.length : Int) := of_x
          obtain ⟨ad104, e104, hx104_0, hx104_1, hx104_2⟩ := at_T85 HR0_3.out x35_2 p104 q104
          cases e104
          replace hx104_0 := cell_x HB hx104_0
          replace hx104_1 := cell_x HB hx104_1
          replace hx104_2 := cell_x HB hx104_2
          replace p104 := eq_true p104
          replace q104 := eq_true q104
          go_wp2_with (first | ((with_reducible refine gate_dst (N := 8) rfl ?_); refine box_event ?hg (N := 8) ?hd (cs := #[.int .i64 0, .int .i64 0, .int .i64 0]) (t := 85) ?hr ?_; (case hd => rfl); (case hg => rfl); (case hr => first | (go_simp; done) | (go_simp; rfl)); intro gb105 hg w17 hbox hb; have BK105 := Aside0.mk (hbox); have GW105 := Aside0.mk ((by rw [hg]; exact (below_size (by exact below_y HB.out)) : w.heap.size ≤ gb105)); have GE105 := Aside0.mk ((by rw [hg]; exact (below_size (by exact below_y HB.out)) : w.heap.size ≤ gb105)); replace HB := bl_x HB hb; have NB101_105 := Aside0.mk ((by rw [hg]; exact Nat.ne_of_lt (blk_lt (g := gb101) (o := .cells #[.int .i64 a0_0, .int .i64 a0_1, .int .i64 a0_2, .slice (some ad104) l0_3.length c0_3, .int .i64 a0_4, .slice A0_5 l0_5.length c0_5, .slice A0_6 l0_6.length c0_6] 26 (0, 0)) (blk_x BK101.out)) : gb101 ≠ gb105)); have NB105_101 := Aside0.mk ((by rw [hg]; exact Nat.ne_of_gt (blk_lt (g := gb101) (o := .cells #[.int .i64 a0_0, .int .i64 a0_1, .int .i64 a0_2, .slice (some ad104) l0_3.length c0_3, .int .i64 a0_4, .slice A0_5 l0_5.length c0_5, .slice A0_6 l0_6.length c0_6] 26 (0, 0)) (blk_x BK101.out)) : gb105 ≠ gb101)); replace BK101 := Aside0.mk (blk_below (blk_x BK101.out) hb); clear hb hbox hg; have hnb18 := NB105_101.out; have hnc18 := NB101_105.out; obtain ⟨_, _, _⟩ := cz3 BK105; have hfz19_0 := blk_frozen BK105.out))
          go_loopg [9, 44] k2 (fun kq v9 v44 w' => ∃ (x9_3 : Int) (x44_3 : Int), v9 = .int .i64 x9_3 ∧ v44 = .int .i64 x44_3 ∧ Aside0 (ship_checkStowage.l2 kq l1 x35_2 x9_3 l0_3 (l0_3.length : Int) x35_2 l1 (l1.length : Int) x44_3 a0_0 a0_1 a0_2 l0_3 a0_4 l0_5 l0_6 = some r) ∧ Aside0 (kq ≤ k2) ∧ Aside0 (w'.heap[gb101]? = some (.cells #[.int .i64 a0_0, .int .i64 a0_1, .int .i64 a0_2, (.slice (some ad104) l0_3.length c0_3), .int .i64 a0_4, (.slice A0_5 l0_5.length c0_5), (.slice A0_6 l0_6.length c0_6)] 26 (0, 0))) ∧ Aside0 (w'.heap[gb105]? = some (.cells #[.int .i64 ((rd_T85 l0_3 x35_2).f0), .int .i64 ((rd_T85 l0_3 x35_2).f1), .int .i64 ((rd_T85 l0_3 x35_2).f2)] 85 (0, 0))) ∧ Aside0 (Below w.heap.size w w'))
          case atStart => exact ⟨((rd_T85 l0_3 x35_2).f0), (0), (by first | rfl | (simp; done) | (simp [*]; done)), (by first | rfl | (simp; done) | (simp [*]; done)), H', ⟨Nat.le_refl _⟩, ⟨blk_w BK101.out⟩, ⟨by (with_reducible repeat (first | refine blk_drewN ?_ _ | refine blk_drew ?_ | refine blk_alloc ?_ _)); refine blk_put (cs := #[.int .i64 ((rd_T85 l0_3 x35_2).f0), .int .i64 ((rd_T85 l0_3 x35_2).f1), .int .i64 0]) ?_ 2 _ rfl; (with_reducible repeat (first | refine blk_drewN ?_ _ | refine blk_drew ?_ | refine blk_alloc ?_ _)); refine blk_put (cs := #[.int .i64 ((rd_T85 l0_3 x35_2).f0), .int .i64 0, .int .i64 0]) ?_ 1 _ rfl; (with_reducible repeat (first | refine blk_drewN ?_ _ | refine blk_drew ?_ | refine blk_alloc ?_ _)); refine blk_put (cs := #[.int .i64 0, .int .i64 0, .int .i64 0]) ?_ 0 _ rfl; (with_reducible repeat (first | refine blk_drewN ?_ _ | refine blk_drew ?_ | refine blk_alloc ?_ _)); exact BK105.out⟩, ⟨by exact below_y HB.out⟩⟩
          case round =>
           clear H'
           obtain ⟨x9_3, x44_3, rfl, rfl, HA, HK3, BK101, BK105, HB⟩ := hrel
           cases gk with
           | zero => exact absurd HA.out (by simp [ship_checkStowage.l2])
           | succ k3 =>
            have H := HA.out
            clear HA
            simp only [ship_checkStowage.l2] at H
            by_cases c20 : x44_3 < (l1.length : Int)
            ·
             rw [if_pos c20] at H
             have c20b0 : decide (x44_3 < (l1.length : Int)) = true := decide_eq_true c20
             clear c20
             by_cases c21 : 0 ≤ x44_3
             ·
              rw [if_pos c21] at H
              have c21b0 : decide (0 ≤ x44_3) = true := decide_eq_true c21
              clear c21
              by_cases c22 : x44_3 < (l1.length : Int)
              ·
               rw [if_pos c22] at H
               have c22b0 : decide (x44_3 < (l1.length : Int)) = true := decide_eq_true c22
               clear c22
               by_cases c23 : (rd l1 x44_3) = x35_2
               ·
                rw [if_pos c23] at H
                have c23b0 : ((rd l1 x44_3) == x35_2) = true := beq_iff_eq.mpr c23
                have c23b1 : ((rd l1 x44_3) != x35_2) = false := bne_eq_false_iff_eq.mpr c23
                clear c23
                by_cases c24 : x44_3 < (l0_6.length : Int)
                ·
                 rw [if_pos c24] at H
                 have c24b0 : decide (x44_3 < (l0_6.length : Int)) = true := decide_eq_true c24
                 clear c24
                 have H' := Aside0.mk H
                 clear H
                 have p106 : 0 ≤ (x44_3 : Int) := of_x
                 have q106 : x44_3 < (l1.length : Int) := of_x
                 obtain ⟨ad106, e106, hx106_0⟩ := Kd.at_int HR1.out x44_3 p106 q106
                 cases e106
                 replace hx106_0 := cell_x HB hx106_0
                 replace p106 := eq_true p106
                 replace q106 := eq_true q106
                 have hnb25 := NB101_105.out
                 have hnc25 := NB105_101.out
                 obtain ⟨_, _, _, _, _, _, _⟩ := cz7 BK101
                 have hfz26_0 := blk_frozen BK101.out
                 have p107 : 0 ≤ (x44_3 : Int) := of_x
                 have q107 : x44_3 < (l0_6.length : Int) := of_x
                 obtain ⟨ad107, e107, hx107_0, hx107_1, hx107_2⟩ := at_T79 HR0_6.out x44_3 p107 q107
                 cases e107
                 replace hx107_0 := cell_x HB hx107_0
                 replace hx107_1 := cell_x HB hx107_1
                 replace hx107_2 := cell_x HB hx107_2
                 replace p107 := eq_true p107
                 replace q107 := eq_true q107
                 go_wp2
                 go_roundg k3
                 case measure => have := HK1.out; have := HK2.out; have := HK3.out; omega
                 case rel => exact ⟨(wrap64 (x9_3 - ((rd_T79 l0_6 x44_3).f0.f1))), (wrap64 (x44_3 + 1)), (by first | rfl | (simp; done) | (simp [*]; done)), (by first | rfl | (simp; done) | (simp [*]; done)), H', ⟨by have := HK1.out; have := HK2.out; have := HK3.out; omega⟩, ⟨blk_x BK101.out⟩, ⟨blk_x BK105.out⟩, ⟨by exact below_y HB.out⟩⟩
                ·
                 rw [if_neg c24] at H
                 exact absurd H (by simp)
               ·
                rw [if_neg c23] at H
                have c23b0 : ((rd l1 x44_3) == x35_2) = false := beq_eq_false_iff_ne.mpr c23
                have c23b1 : ((rd l1 x44_3) != x35_2) = true := bne_iff_ne.mpr c23
                have H' := Aside0.mk H
                clear H
                have p106 : 0 ≤ (x44_3 : Int) := of_x
                have q106 : x44_3 < (l1.length : Int) := of_x
                obtain ⟨ad106, e106, hx106_0⟩ := Kd.at_int HR1.out x44_3 p106 q106
                cases e106
                replace hx106_0 := cell_x HB hx106_0
                replace p106 := eq_true p106
                replace q106 := eq_true q106
                go_wp2
                go_roundg k3
                case measure => have := HK1.out; have := HK2.out; have := HK3.out; omega
                case rel => exact ⟨(x9_3), (wrap64 (x44_3 + 1)), (by first | rfl | (simp; done) | (simp [*]; done)), (by first | rfl | (simp; done) | (simp [*]; done)), H', ⟨by have := HK1.out; have := HK2.out; have := HK3.out; omega⟩, ⟨blk_x BK101.out⟩, ⟨blk_x BK105.out⟩, ⟨by exact below_y HB.out⟩⟩
              ·
               rw [if_neg c22] at H
               exact absurd H (by simp)
             ·
              rw [if_neg c21] at H
              exact absurd H (by simp)
            ·
             rw [if_neg c20] at H
             have c20b0 : decide (x44_3 < (l1.length : Int)) = false := decide_eq_false c20
             clear c20
             by_cases c27 : x9_3 < 0
             ·
              rw [if_pos c27] at H
              have c27b0 : decide (x9_3 < 0) = true := decide_eq_true c27
              clear c27
              obtain rfl := Option.some.inj H
              go_wp2
              go_ret
              exact ⟨by first | rfl | (simp [errW_none, errW_some] <;> rfl) | (simp [*, errW_none, errW_some] <;> rfl), by exact below_y HB.out⟩
             ·
              rw [if_neg c27] at H
              have c27b0 : decide (x9_3 < 0) = false := decide_eq_false c27
              clear c27
              have H' := Aside0.mk H
              clear H
              go_wp2
              go_roundg k3
              case measure => have := HK1.out; have := HK2.out; have := HK3.out; omega
              case rel => exact ⟨(wrap64 (x35_2 + 1)), (by first | rfl | (simp; done) | (simp [*]; done)), H', ⟨by have := HK1.out; have := HK2.out; have := HK3.out; omega⟩, ⟨blk_x BK101.out⟩, ⟨by exact below_y HB.out⟩⟩
         ·
          rw [if_neg c16] at H
          exact absurd H (by simp)
        ·
         rw [if_neg c15] at H
         exact absurd H (by simp)
       ·
        rw [if_neg c14] at H
        have c14b0 : decide (x35_2 < (l0_3.length : Int)) = false := decide_eq_false c14
        clear c14
        obtain rfl := Option.some.inj H
        go_wp2
        go_ret
        exact ⟨by first | rfl | (simp [errW_none, errW_some] <;> rfl) | (simp [*, errW_none, errW_some] <;> rfl), by exact below_y HB.out⟩
 ·
  rw [if_neg c3] at H
  have c3b0 : ((l1.length : Int) == (l0_6.length : Int)) = false := beq_eq_false_iff_ne.mpr c3
  have c3b1 : ((l1.length : Int) != (l0_6.length : Int)) = true := bne_iff_ne.mpr c3
  have c3b2 : (l1.length == l0_6.length) = false := by first | simpa using c3 | (simp at c3 ⊢; omega)
  obtain rfl := Option.some.inj H
  go_enter Try.func63, Try.ntmps63
  go_wp2_with (first | ((with_reducible refine gate_dst (N := 2) rfl ?_); refine box_event ?hg (N := 2) ?hd (cs := #[.int .i64 a0_0, .int .i64 a0_1, .int .i64 a0_2, .slice A0_3 l0_3.length c0_3, .int .i64 a0_4, .slice A0_5 l0_5.length c0_5, .slice A0_6 l0_6.length c0_6]) (t := 26) ?hr ?_; (case hd => rfl); (case hg => rfl); (case hr => first | (go_simp; done) | (go_simp; rfl)); intro gb101 hg w28 hbox hb; have BK101 := Aside0.mk (hbox); have GW101 := Aside0.mk ((by rw [hg]; exact (below_size (below_x HB.out)) : w.heap.size ≤ gb101)); have GE101 := Aside0.mk ((by rw [hg]; exact (below_size (below_x HB.out)) : w.heap.size ≤ gb101)); replace HB := Aside0.mk (below_step (below_x HB.out) hb); clear hb hbox hg; obtain ⟨_, _, _, _, _, _, _⟩ := cz7 BK101; have hfz29_0 := blk_frozen BK101.out))
  go_ret
  exact ⟨by first | rfl | (simp [errW_none, errW_some] <;> rfl) | (simp [*, errW_none, errW_some] <;> rfl), by exact below_y HB.out⟩
def ship_CheckStowage.f (k : Nat) (a0_0 : Int) (a0_1 : Int) (a0_2 : Int) (l0_3 : List (S85)) (a0_4 : Int) (l0_5 : List (S59)) (l0_6 : List (S79)) (l1 : List Int) : Option (Int) := (ship_Check.f k a0_0 a0_1 a0_2 l0_3 a0_4 l0_5 l0_6).bind fun t138 => (if t138 = 0 then ((ship_checkStowage.f k a0_0 a0_1 a0_2 l0_3 a0_4 l0_5 l0_6 l1).bind fun t139 => (some t139)) else (some t138))
theorem ship_CheckStowage.mono : ∀ a0 a1 a2 a3 a4 a5 a6 a7 k, LeO (ship_CheckStowage.f k a0 a1 a2 a3 a4 a5 a6 a7) (ship_CheckStowage.f (k + 1) a0 a1 a2 a3 a4 a5 a6 a7) := by
 intro a0 a1 a2 a3 a4 a5 a6 a7 k
 unfold ship_CheckStowage.f
 repeat' first
   | (with_reducible exact ship_Check.mono _ _ _ _ _ _ _ _)
   | (with_reducible exact ship_checkStowage.mono _ _ _ _ _ _ _ _ _)
   | (with_reducible exact LeO.refl _)
   | (with_reducible exact LeO.none _)
   | (with_reducible refine LeO.ite ?_ ?_)
   | (with_reducible refine LeO.bind ?_ (fun _ => ?_))
   | exact ship_Check.mono _ _ _ _ _ _ _ _
   | exact ship_checkStowage.mono _ _ _ _ _ _ _ _ _
   | exact LeO.none _
   | refine LeO.ite ?_ ?_
   | refine LeO.bind ?_ (fun _ => ?_)
set_option maxHeartbeats 8000000 in
set_option maxRecDepth 100000 in
theorem ship_CheckStowage.calls (k : Nat) (a0_0 : Int) (a0_1 : Int) (a0_2 : Int) (A0_3 : Option Addr) (c0_3 : Nat) (l0_3 : List (S85)) (a0_4 : Int) (A0_5 : Option Addr) (c0_5 : Nat) (l0_5 : List (S59)) (A0_6 : Option Addr) (c0_6 : Nat) (l0_6 : List (S79)) (A1 : Option Addr) (c1 : Nat) (l1 : List Int) (r : Int) (w : World) (hr0_3 : Kd.C k85 w A0_3 l0_3.length l0_3) (hc0_3 : l0_3.length ≤ c0_3) (hr0_5 : Kd.C k59 w A0_5 l0_5.length l0_5) (hc0_5 : l0_5.length ≤ c0_5) (hr0_6 : Kd.C k79 w A0_6 l0_6.length l0_6) (hc0_6 : l0_6.length ≤ c0_6) (hr1 : Kd.C (Kd.int .i64) w A1 l1.length l1) (hc1 : l1.length ≤ c1) (h : ship_CheckStowage.f k a0_0 a0_1 a0_2 l0_3 a0_4 l0_5 l0_6 l1 = some r) :
  Calls Try.prog 40 #[.agg #[.int .i64 a0_0, .int .i64 a0_1, .int .i64 a0_2, .slice A0_3 l0_3.length c0_3, .int .i64 a0_4, .slice A0_5 l0_5.length c0_5, .slice A0_6 l0_6.length c0_6], .slice A1 l1.length c1] w fun e w' => e = .returned (.int .i64 r) ∧ Below w.heap.size w w' := by
 have hu26 := Try.underlying26
 have HR0_3 := Aside0.mk hr0_3
 have HC0_3 := Aside0.mk hc0_3
 clear hr0_3 hc0_3
 have HR0_5 := Aside0.mk hr0_5
 have HC0_5 := Aside0.mk hc0_5
 clear hr0_5 hc0_5
 have HR0_6 := Aside0.mk hr0_6
 have HC0_6 := Aside0.mk hc0_6
 clear hr0_6 hc0_6
 have HR1 := Aside0.mk hr1
 have HC1 := Aside0.mk hc1
 clear hr1 hc1
 have HB := Aside0.mk (Below.refl w.heap.size w)
 have H : ((ship_Check.f k a0_0 a0_1 a0_2 l0_3 a0_4 l0_5 l0_6).bind fun t138 => (if t138 = 0 then ((ship_checkStowage.f k a0_0 a0_1 a0_2 l0_3 a0_4 l0_5 l0_6 l1).bind fun t139 => (some t139)) else (some t138))) = some r := h
 clear h
 replace H := Option.bind_eq_some_iff.mp H
 obtain ⟨t138, A30, H⟩ := H
 try dsimp only at H
 have A3 := Aside0.mk A30
 clear A30
 by_cases c4 : t138 = 0
 ·
  rw [if_pos c4] at H
  have c4b0 : (t138 == 0) = true := beq_iff_eq.mpr c4
  have c4b1 : (t138 != 0) = false := bne_eq_false_iff_eq.mpr c4
  clear c4
  replace H := Option.bind_eq_some_iff.mp H
  obtain ⟨t139, A50, H⟩ := H
  replace H : (some t139) = some r := H
  have A5 := Aside0.mk A50
  clear A50
  obtain rfl := Option.some.inj H
  go_enter Try.func40, Try.ntmps40
  go_wp2_with (first | ((with_reducible refine gate_dst (N := 2) rfl ?_); refine box_event ?hg (N := 2) ?hd (cs := #[.int .i64 a0_0, .int .i64 a0_1, .int .i64 a0_2, .slice A0_3 l0_3.length c0_3, .int .i64 a0_4, .slice A0_5 l0_5.length c0_5, .slice A0_6 l0_6.length c0_6]) (t := 26) ?hr ?_; (case hd => rfl); (case hg => rfl); (case hr => first | (go_simp; done) | (go_simp; rfl)); intro gb137 hg w6 hbox hb; have BK137 := Aside0.mk (hbox); have GW137 := Aside0.mk ((by rw [hg]; exact (below_size (below_x HB.out)) : w.heap.size ≤ gb137)); have GE137 := Aside0.mk ((by rw [hg]; exact (below_size (below_x HB.out)) : w.heap.size ≤ gb137)); replace HB := Aside0.mk (below_step (below_x HB.out) hb); clear hb hbox hg; obtain ⟨_, _, _, _, _, _, _⟩ := cz7 BK137; have hfz7_0 := blk_frozen BK137.out) | ((with_reducible refine gate_callee (f := 39) rfl ?_); refine goesL_ (some 7) rfl rfl Try.func39 (by kernel_rfl) rfl #[.agg #[.int .i64 a0_0, .int .i64 a0_1, .int .i64 a0_2, .slice A0_3 l0_3.length c0_3, .int .i64 a0_4, .slice A0_5 l0_5.length c0_5, .slice A0_6 l0_6.length c0_6]] rfl (by (try simp only [List.map_toArray, List.map_cons, List.map_nil]); first | done | rfl | (simp only [List.length_drop, List.length_take]; rfl)) ?_; (with_reducible refine (ship_Check.calls k a0_0 a0_1 a0_2 _ _ l0_3 a0_4 _ _ l0_5 _ _ l0_6 t138 _ ?side1 ?side2 ?side3 ?side4 ?side5 ?side6 A3.out).mono ?_); (case side1 => exact Kd.C_x HR0_3.out HB.out); (case side2 => exact HC0_3.out); (case side3 => exact Kd.C_x HR0_5.out HB.out); (case side4 => exact HC0_5.out); (case side5 => exact Kd.C_x HR0_6.out HB.out); (case side6 => exact HC0_6.out); rintro e w8 ⟨rfl, hb⟩; refine ⟨_, rfl, ?_⟩; replace BK137 := Aside0.mk (blk_below (blk_x BK137.out) hb); replace HB := bl_x HB hb; (try clear hb); (try clear hk); (try clear hi); obtain ⟨_, _, _, _, _, _, _⟩ := cz7 BK137; have hfz9_0 := blk_frozen BK137.out) | ((with_reducible refine gate_callee (f := 63) rfl ?_); refine goesL_ (some 13) rfl rfl Try.func63 (by kernel_rfl) rfl #[.agg #[.int .i64 a0_0, .int .i64 a0_1, .int .i64 a0_2, .slice A0_3 l0_3.length c0_3, .int .i64 a0_4, .slice A0_5 l0_5.length c0_5, .slice A0_6 l0_6.length c0_6], .slice A1 l1.length c1] rfl (by (try simp only [List.map_toArray, List.map_cons, List.map_nil]); first | done | rfl | (simp only [List.length_drop, List.length_take]; rfl)) ?_; (with_reducible refine (ship_checkStowage.calls k a0_0 a0_1 a0_2 _ _ l0_3 a0_4 _ _ l0_5 _ _ l0_6 _ _ l1 t139 _ ?side1 ?side2 ?side3 ?side4 ?side5 ?side6 ?side7 ?side8 A5.out).mono ?_); (case side1 => exact Kd.C_x HR0_3.out HB.out); (case side2 => exact HC0_3.out); (case side3 => exact Kd.C_x HR0_5.out HB.out); (case side4 => exact HC0_5.out); (case side5 => exact Kd.C_x HR0_6.out HB.out); (case side6 => exact HC0_6.out); (case side7 => exact Kd.C_x HR1.out HB.out); (case side8 => exact HC1.out); rintro e w10 ⟨rfl, hb⟩; refine ⟨_, rfl, ?_⟩; replace BK137 := Aside0.mk (blk_below (blk_x BK137.out) hb); replace HB := bl_x HB hb; (try clear hb); (try clear hk); (try clear hi)))
  go_ret
  exact ⟨by first | rfl | (simp [errW_none, errW_some] <;> rfl) | (simp [*, errW_none, errW_some] <;> rfl), by exact below_y HB.out⟩
 ·
  rw [if_neg c4] at H
  have c4b0 : (t138 == 0) = false := beq_eq_false_iff_ne.mpr c4
  have c4b1 : (t138 != 0) = true := bne_iff_ne.mpr c4
  obtain rfl := Option.some.inj H
  go_enter Try.func40, Try.ntmps40
  go_wp2_with (first | ((with_reducible refine gate_dst (N := 2) rfl ?_); refine box_event ?hg (N := 2) ?hd (cs := #[.int .i64 a0_0, .int .i64 a0_1, .int .i64 a0_2, .slice A0_3 l0_3.length c0_3, .int .i64 a0_4, .slice A0_5 l0_5.length c0_5, .slice A0_6 l0_6.length c0_6]) (t := 26) ?hr ?_; (case hd => rfl); (case hg => rfl); (case hr => first | (go_simp; done) | (go_simp; rfl)); intro gb137 hg w11 hbox hb; have BK137 := Aside0.mk (hbox); have GW137 := Aside0.mk ((by rw [hg]; exact (below_size (below_x HB.out)) : w.heap.size ≤ gb137)); have GE137 := Aside0.mk ((by rw [hg]; exact (below_size (below_x HB.out)) : w.heap.size ≤ gb137)); replace HB := Aside0.mk (below_step (below_x HB.out) hb); clear hb hbox hg; obtain ⟨_, _, _, _, _, _, _⟩ := cz7 BK137; have hfz12_0 := blk_frozen BK137.out) | ((with_reducible refine gate_callee (f := 39) rfl ?_); refine goesL_ (some 7) rfl rfl Try.func39 (by kernel_rfl) rfl #[.agg #[.int .i64 a0_0, .int .i64 a0_1, .int .i64 a0_2, .slice A0_3 l0_3.length c0_3, .int .i64 a0_4, .slice A0_5 l0_5.length c0_5, .slice A0_6 l0_6.length c0_6]] rfl (by (try simp only [List.map_toArray, List.map_cons, List.map_nil]); first | done | rfl | (simp only [List.length_drop, List.length_take]; rfl)) ?_; (with_reducible refine (ship_Check.calls k a0_0 a0_1 a0_2 _ _ l0_3 a0_4 _ _ l0_5 _ _ l0_6 t138 _ ?side1 ?side2 ?side3 ?side4 ?side5 ?side6 A3.out).mono ?_); (case side1 => exact Kd.C_x HR0_3.out HB.out); (case side2 => exact HC0_3.out); (case side3 => exact Kd.C_x HR0_5.out HB.out); (case side4 => exact HC0_5.out); (case side5 => exact Kd.C_x HR0_6.out HB.out); (case side6 => exact HC0_6.out); rintro e w13 ⟨rfl, hb⟩; refine ⟨_, rfl, ?_⟩; replace BK137 := Aside0.mk (blk_below (blk_x BK137.out) hb); replace HB := bl_x HB hb; (try clear hb); (try clear hk); (try clear hi)))
  go_ret
  exact ⟨by first | rfl | (simp [errW_none, errW_some] <;> rfl) | (simp [*, errW_none, errW_some] <;> rfl), by exact below_y HB.out⟩
end Go.Proofs.Ytodmemndaaiolaa.PC7
namespace Go.Proofs.Ytodmemndaaiolaa.PC7
set_option linter.unusedVariables false
set_option linter.unusedSimpArgs false
open Go.RowKit Go.Proofs.YtodmemndaaiolaaW.PrintWords Go.Proofs.YtodmemndaaiolaaW.PrintLast Go.Proofs.YtodmemndaaiolaaW.PrintMore
noncomputable def limO {α : Type} (g : Nat → Option α) : Option α := open Classical in if h : ∃ r, Ev g r then some (Classical.choose h) else none
theorem Ev.uniq {α : Type} {g : Nat → Option α} {r s : α} (h : Ev g r) (k : Ev g s) : r = s := by
  obtain ⟨K, h⟩ := h
  obtain ⟨L, k⟩ := k
  have h1 := h (max K L) (Nat.le_max_left _ _)
  have h2 := k (max K L) (Nat.le_max_right _ _)
  rw [h1] at h2
  injection h2
theorem limO_of {α : Type} {g : Nat → Option α} {r : α} (h : Ev g r) : limO g = some r := by
  have hh : ∃ r, Ev g r := ⟨r, h⟩
  unfold limO
  rw [dif_pos hh]
  congr 1
  exact Ev.uniq (Classical.choose_spec hh) h
theorem limO_ev {α : Type} {g : Nat → Option α} {r : α} (h : limO g = some r) : ∃ k, g k = some r := by
  unfold limO at h
  by_cases hh : ∃ r, Ev g r
  · rw [dif_pos hh] at h
    have := Classical.choose_spec hh
    injection h with h
    rw [h] at this
    exact this.rounds
  · rw [dif_neg hh] at h
    cases h
noncomputable def stowE (light under trim : Int) (holds : List S85) (leaves : Int) (sills : List S59) (lots : List S79) (s : List Int) : Option Int := limO fun k => ship_CheckStowage.f k light under trim holds leaves sills lots s
end Go.Proofs.Ytodmemndaaiolaa.PC7
