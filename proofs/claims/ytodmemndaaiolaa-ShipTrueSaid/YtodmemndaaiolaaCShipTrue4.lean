/- Lemmas on the way to this: whatever truly is -/
import Derived.Test.YtodmemndaaiolaaCShipTrue1
import Derived.Test.YtodmemndaaiolaaCShipTrue3
import Derived.Test.YtodmemndaaiolaaCShipTrue2
import Derived.RowKit
namespace Go.Proofs.Ytodmemndaaiolaa.PC7
open Go.RowKit Go.Proofs.YtodmemndaaiolaaW.PrintWords Go.Proofs.YtodmemndaaiolaaW.PrintLast Go.Proofs.YtodmemndaaiolaaW.PrintMore
attribute [local go_sem] max2_int min2_int max_two min_two max_three min_three max_four min_four
set_option linter.unusedVariables false
set_option linter.unusedSimpArgs false
def swarflaw07_voyage.f  : Option (Int × Int × Int × (List (S85)) × Int × (List (S59)) × (List (S79))) := (swarflaw07_rng.f 30 40).bind fun bt168 => ((swarflaw07_rng.f 1600 1650).bind fun bt170 => ((swarflaw07_rng.f 120 150).bind fun bt175 => ((swarflaw07_rng.f 1300 1350).bind fun bt177 => ((swarflaw07_rng.f 1600 1650).bind fun bt179 => ((swarflaw07_rng.f 1200 1250).bind fun bt181 => ((swarflaw07_rng.f 200 220).bind fun bt189 => ((swarflaw07_rng.f 180 200).bind fun bt191 => ((swarflaw07_rng.f 150 150).bind fun bt193 => (some (800, 200, 300, (([(⟨400, 2000, 500⟩ : S85), (⟨400, 500, 2000⟩ : S85)] : List (S85))), 60, (([(⟨(⟨bt168.1, bt168.2⟩ : S56), (([(⟨0, (⟨bt170.1, bt170.2⟩ : S56)⟩ : S62)] : List (S62)))⟩ : S59), (⟨(⟨bt175.1, bt175.2⟩ : S56), (([(⟨0, (⟨bt177.1, bt177.2⟩ : S56)⟩ : S62), (⟨240, (⟨bt179.1, bt179.2⟩ : S56)⟩ : S62), (⟨480, (⟨bt181.1, bt181.2⟩ : S56)⟩ : S62)] : List (S62)))⟩ : S59)] : List (S59))), (([(⟨(⟨bt189.1, bt189.2⟩ : S56), 50⟩ : S79), (⟨(⟨bt191.1, bt191.2⟩ : S56), 40⟩ : S79), (⟨(⟨bt193.1, bt193.2⟩ : S56), 45⟩ : S79)] : List (S79)))))))))))))
set_option maxHeartbeats 8000000 in
set_option maxRecDepth 100000 in
theorem swarflaw07_voyage.calls  (r1 : Int) (r2 : Int) (r3 : Int) (r4 : List (S85)) (r5 : Int) (r6 : List (S59)) (r7 : List (S79)) (w : World) (h : swarflaw07_voyage.f  = some (r1, r2, r3, r4, r5, r6, r7)) :
  Calls Try.prog 52 #[] w fun e w' => ∃ v3_ v5_ v6_ : Value, e = .returned (.agg #[.int .i64 r1, .int .i64 r2, .int .i64 r3, v3_, .int .i64 r5, v5_, v6_]) ∧ Kd.R k85 85 w' w.heap.size (fun k_ => (w.heap.size ≤ k_)) v3_ r4 ∧ Kd.N k59 59 w' w.heap.size (fun k_ => (w.heap.size ≤ k_) ∧ some k_ ≠ (v3_ : Value).ownBlock ∧ some k_ ≠ (v6_ : Value).ownBlock) v5_ r6 ∧ Kd.R k79 79 w' w.heap.size (fun k_ => (w.heap.size ≤ k_)) v6_ r7 ∧ Below w.heap.size w w' := by
 have hu26 := Try.underlying26
 have hu85 := Try.underlying85
 have hu62 := Try.underlying62
 have hu59 := Try.underlying59
 have hu79 := Try.underlying79
 have HB := Aside0.mk (Below.refl w.heap.size w)
 have H : ((swarflaw07_rng.f 30 40).bind fun bt168 => ((swarflaw07_rng.f 1600 1650).bind fun bt170 => ((swarflaw07_rng.f 120 150).bind fun bt175 => ((swarflaw07_rng.f 1300 1350).bind fun bt177 => ((swarflaw07_rng.f 1600 1650).bind fun bt179 => ((swarflaw07_rng.f 1200 1250).bind fun bt181 => ((swarflaw07_rng.f 200 220).bind fun bt189 => ((swarflaw07_rng.f 180 200).bind fun bt191 => ((swarflaw07_rng.f 150 150).bind fun bt193 => (some (800, 200, 300, (([(⟨400, 2000, 500⟩ : S85), (⟨400, 500, 2000⟩ : S85)] : List (S85))), 60, (([(⟨(⟨bt168.1, bt168.2⟩ : S56), (([(⟨0, (⟨bt170.1, bt170.2⟩ : S56)⟩ : S62)] : List (S62)))⟩ : S59), (⟨(⟨bt175.1, bt175.2⟩ : S56), (([(⟨0, (⟨bt177.1, bt177.2⟩ : S56)⟩ : S62), (⟨240, (⟨bt179.1, bt179.2⟩ : S56)⟩ : S62), (⟨480, (⟨bt181.1, bt181.2⟩ : S56)⟩ : S62)] : List (S62)))⟩ : S59)] : List (S59))), (([(⟨(⟨bt189.1, bt189.2⟩ : S56), 50⟩ : S79), (⟨(⟨bt191.1, bt191.2⟩ : S56), 40⟩ : S79), (⟨(⟨bt193.1, bt193.2⟩ : S56), 45⟩ : S79)] : List (S79)))))))))))))) = some (r1, r2, r3, r4, r5, r6, r7) := h
 clear h
 obtain ⟨y165, hy165⟩ : ∃ y_ : List (S85), y_ = (([(⟨400, 2000, 500⟩ : S85), (⟨400, 500, 2000⟩ : S85)] : List (S85))) := ⟨_, rfl⟩
 replace H : ((swarflaw07_rng.f 30 40).bind fun bt168 => ((swarflaw07_rng.f 1600 1650).bind fun bt170 => ((swarflaw07_rng.f 120 150).bind fun bt175 => ((swarflaw07_rng.f 1300 1350).bind fun bt177 => ((swarflaw07_rng.f 1600 1650).bind fun bt179 => ((swarflaw07_rng.f 1200 1250).bind fun bt181 => ((swarflaw07_rng.f 200 220).bind fun bt189 => ((swarflaw07_rng.f 180 200).bind fun bt191 => ((swarflaw07_rng.f 150 150).bind fun bt193 => (some (800, 200, 300, y165, 60, (([(⟨(⟨bt168.1, bt168.2⟩ : S56), (([(⟨0, (⟨bt170.1, bt170.2⟩ : S56)⟩ : S62)] : List (S62)))⟩ : S59), (⟨(⟨bt175.1, bt175.2⟩ : S56), (([(⟨0, (⟨bt177.1, bt177.2⟩ : S56)⟩ : S62), (⟨240, (⟨bt179.1, bt179.2⟩ : S56)⟩ : S62), (⟨480, (⟨bt181.1, bt181.2⟩ : S56)⟩ : S62)] : List (S62)))⟩ : S59)] : List (S59))), (([(⟨(⟨bt189.1, bt189.2⟩ : S56), 50⟩ : S79), (⟨(⟨bt191.1, bt191.2⟩ : S56), 40⟩ : S79), (⟨(⟨bt193.1, bt193.2⟩ : S56), 45⟩ : S79)] : List (S79)))))))))))))) = some (r1, r2, r3, r4, r5, r6, r7) := by first | (rw [hy165]; with_reducible exact H) | (have H2_ := (Option.bind_some _ _).symm.trans H; rw [hy165]; with_reducible exact H2_) | (have H2_ := (Option.bind_some _ _).symm.trans H; with_reducible exact H2_) | with_reducible exact H | (rw [hy165]; exact H) | exact H
 have Ny165 := Aside0.mk hy165
 clear hy165
 replace H := Option.bind_eq_some_iff.mp H
 obtain ⟨⟨t168, t169⟩, A10, H⟩ := H
 try dsimp only at H
 have A1 := Aside0.mk A10
 clear A10
 replace H := Option.bind_eq_some_iff.mp H
 obtain ⟨⟨t170, t171⟩, A20, H⟩ := H
 try dsimp only at H
 have A2 := Aside0.mk A20
 clear A20
 obtain ⟨y172, hy172⟩ : ∃ y_ : List (S62), y_ = (([(⟨0, (⟨t170, t171⟩ : S56)⟩ : S62)] : List (S62))) := ⟨_, rfl⟩
 replace H : ((swarflaw07_rng.f 120 150).bind fun bt175 => ((swarflaw07_rng.f 1300 1350).bind fun bt177 => ((swarflaw07_rng.f 1600 1650).bind fun bt179 => ((swarflaw07_rng.f 1200 1250).bind fun bt181 => ((swarflaw07_rng.f 200 220).bind fun bt189 => ((swarflaw07_rng.f 180 200).bind fun bt191 => ((swarflaw07_rng.f 150 150).bind fun bt193 => (some (800, 200, 300, y165, 60, (([(⟨(⟨t168, t169⟩ : S56), y172⟩ : S59), (⟨(⟨bt175.1, bt175.2⟩ : S56), (([(⟨0, (⟨bt177.1, bt177.2⟩ : S56)⟩ : S62), (⟨240, (⟨bt179.1, bt179.2⟩ : S56)⟩ : S62), (⟨480, (⟨bt181.1, bt181.2⟩ : S56)⟩ : S62)] : List (S62)))⟩ : S59)] : List (S59))), (([(⟨(⟨bt189.1, bt189.2⟩ : S56), 50⟩ : S79), (⟨(⟨bt191.1, bt191.2⟩ : S56), 40⟩ : S79), (⟨(⟨bt193.1, bt193.2⟩ : S56), 45⟩ : S79)] : List (S79)))))))))))) = some (r1, r2, r3, r4, r5, r6, r7) := by first | (rw [hy172]; with_reducible exact H) | (have H2_ := (Option.bind_some _ _).symm.trans H; rw [hy172]; with_reducible exact H2_) | (have H2_ := (Option.bind_some _ _).symm.trans H; with_reducible exact H2_) | with_reducible exact H | (rw [hy172]; exact H) | exact H
 have Ny172 := Aside0.mk hy172
 clear hy172
 replace H := Option.bind_eq_some_iff.mp H
 obtain ⟨⟨t175, t176⟩, A30, H⟩ := H
 try dsimp only at H
 have A3 := Aside0.mk A30
 clear A30
 replace H := Option.bind_eq_some_iff.mp H
 obtain ⟨⟨t177, t178⟩, A40, H⟩ := H
 try dsimp only at H
 have A4 := Aside0.mk A40
 clear A40
 replace H := Option.bind_eq_some_iff.mp H
 obtain ⟨⟨t179, t180⟩, A50, H⟩ := H
 try dsimp only at H
 have A5 := Aside0.mk A50
 clear A50
 replace H := Option.bind_eq_some_iff.mp H
 obtain ⟨⟨t181, t182⟩, A60, H⟩ := H
 try dsimp only at H
 have A6 := Aside0.mk A60
 clear A60
 obtain ⟨y183, hy183⟩ : ∃ y_ : List (S62), y_ = (([(⟨0, (⟨t177, t178⟩ : S56)⟩ : S62), (⟨240, (⟨t179, t180⟩ : S56)⟩ : S62), (⟨480, (⟨t181, t182⟩ : S56)⟩ : S62)] : List (S62))) := ⟨_, rfl⟩
 replace H : ((swarflaw07_rng.f 200 220).bind fun bt189 => ((swarflaw07_rng.f 180 200).bind fun bt191 => ((swarflaw07_rng.f 150 150).bind fun bt193 => (some (800, 200, 300, y165, 60, (([(⟨(⟨t168, t169⟩ : S56), y172⟩ : S59), (⟨(⟨t175, t176⟩ : S56), y183⟩ : S59)] : List (S59))), (([(⟨(⟨bt189.1, bt189.2⟩ : S56), 50⟩ : S79), (⟨(⟨bt191.1, bt191.2⟩ : S56), 40⟩ : S79), (⟨(⟨bt193.1, bt193.2⟩ : S56), 45⟩ : S79)] : List (S79)))))))) = some (r1, r2, r3, r4, r5, r6, r7) := by first | (rw [hy183]; with_reducible exact H) | (have H2_ := (Option.bind_some _ _).symm.trans H; rw [hy183]; with_reducible exact H2_) | (have H2_ := (Option.bind_some _ _).symm.trans H; with_reducible exact H2_) | with_reducible exact H | (rw [hy183]; exact H) | exact H
 have Ny183 := Aside0.mk hy183
 clear hy183
 obtain ⟨y186, hy186⟩ : ∃ y_ : List (S59), y_ = (([(⟨(⟨t168, t169⟩ : S56), y172⟩ : S59), (⟨(⟨t175, t176⟩ : S56), y183⟩ : S59)] : List (S59))) := ⟨_, rfl⟩
 replace H : ((swarflaw07_rng.f 200 220).bind fun bt189 => ((swarflaw07_rng.f 180 200).bind fun bt191 => ((swarflaw07_rng.f 150 150).bind fun bt193 => (some (800, 200, 300, y165, 60, y186, (([(⟨(⟨bt189.1, bt189.2⟩ : S56), 50⟩ : S79), (⟨(⟨bt191.1, bt191.2⟩ : S56), 40⟩ : S79), (⟨(⟨bt193.1, bt193.2⟩ : S56), 45⟩ : S79)] : List (S79)))))))) = some (r1, r2, r3, r4, r5, r6, r7) := by first | (rw [hy186]; with_reducible exact H) | (have H2_ := (Option.bind_some _ _).symm.trans H; rw [hy186]; with_reducible exact H2_) | (have H2_ := (Option.bind_some _ _).symm.trans H; with_reducible exact H2_) | with_reducible exact H | (rw [hy186]; exact H) | exact H
 have Ny186 := Aside0.mk hy186
 clear hy186
 replace H := Option.bind_eq_some_iff.mp H
 obtain ⟨⟨t189, t190⟩, A70, H⟩ := H
 try dsimp only at H
 have A7 := Aside0.mk A70
 clear A70
 replace H := Option.bind_eq_some_iff.mp H
 obtain ⟨⟨t191, t192⟩, A80, H⟩ := H
 try dsimp only at H
 have A8 := Aside0.mk A80
 clear A80
 replace H := Option.bind_eq_some_iff.mp H
 obtain ⟨⟨t193, t194⟩, A90, H⟩ := H
 try dsimp only at H
 have A9 := Aside0.mk A90
 clear A90
 obtain ⟨y195, hy195⟩ : ∃ y_ : List (S79), y_ = (([(⟨(⟨t189, t190⟩ : S56), 50⟩ : S79), (⟨(⟨t191, t192⟩ : S56), 40⟩ : S79), (⟨(⟨t193, t194⟩ : S56), 45⟩ : S79)] : List (S79))) := ⟨_, rfl⟩
 replace H : (some (800, 200, 300, y165, 60, y186, y195)) = some (r1, r2, r3, r4, r5, r6, r7) := by first | (rw [hy195]; with_reducible exact H) | (have H2_ := (Option.bind_some _ _).symm.trans H; rw [hy195]; with_reducible exact H2_) | (have H2_ := (Option.bind_some _ _).symm.trans H; with_reducible exact H2_) | with_reducible exact H | (rw [hy195]; exact H) | exact H
 have Ny195 := Aside0.mk hy195
 clear hy195
 simp only [Option.some.injEq, Prod.mk.injEq] at H
 obtain ⟨rfl, rfl, rfl, rfl, rfl, rfl, rfl⟩ := H
 go_enter Try.func52, Try.ntmps52
 go_wp2_with (first | ((with_reducible refine gate_dst (N := 0) rfl ?_); refine box_event ?hg (N := 0) ?hd (cs := #[.int .i64 0, .int .i64 0, .int .i64 0, .slice none 0 0, .int .i64 0, .slice none 0 0, .slice none 0 0]) (t := 26) ?hr ?_; (case hd => rfl); (case hg => rfl); (case hr => first | (go_simp; done) | (go_simp; rfl)); intro gb164 hg w10 hbox hb; have BK164 := Aside0.mk (hbox); have GW164 := Aside0.mk ((by rw [hg]; exact (below_size (below_x HB.out)) : w.heap.size ≤ gb164)); have GE164 := Aside0.mk ((by rw [hg]; exact (below_size (below_x HB.out)) : w.heap.size ≤ gb164)); replace HB := Aside0.mk (below_step (below_x HB.out) hb); clear hb hbox hg) | ((with_reducible refine gate_dst (N := 3) rfl ?_); refine Kd.R_lit k85 _ 85 ?hg (N := 3) ?hd (xs := ([(⟨400, 2000, 500⟩ : S85), (⟨400, 500, 2000⟩ : S85)] : List (S85))) (inner := [.int .i64 400, .int .i64 2000, .int .i64 500, .int .i64 400, .int .i64 500, .int .i64 2000]) (ok := fun _ => True) (okp := fun _ => True) ?hr ?hp (fun _ hk => hk) trivial (Below.refl _ _) (Nat.le_refl _) (by simp) ?_; (case hd => rfl); (case hg => rfl); (case hr => first | (go_simp; done) | (go_simp; rfl)); (case hp => exact (Reps.c3 (show Kd.M k85 _ _ _ (⟨400, 2000, 500⟩ : S85) [.int .i64 400, .int .i64 2000, .int .i64 500] from (k85_mkM _ _ _ (⟨400, 2000, 500⟩ : S85) )) (Reps.c3 (show Kd.M k85 _ _ _ (⟨400, 500, 2000⟩ : S85) [.int .i64 400, .int .i64 500, .int .i64 2000] from (k85_mkM _ _ _ (⟨400, 500, 2000⟩ : S85) )) (Reps.none _ _)))); intro v166 w11 ho12 hb hg_ hnew_; clear hg_ hnew_; (first | rw [← Ny165.out] at ho12 | (simp only [Int.reduceToNat] at ho12; rw [← Ny165.out] at ho12)); have HO167 := Aside0.mk (Kd.R_lower (Kd.R_newM (M := fun k_ => (w.heap.size ≤ k_)) ho12 (below_size (by exact below_y HB.out)) (fun k_ h_ => h_)) (below_size (by exact below_y HB.out))); replace BK164 := Aside0.mk (blk_below (blk_x BK164.out) hb); replace HB := bl_x HB hb; clear hb ho12) | ((with_reducible refine gate_callee (f := 32) rfl ?_); refine goesL_ (some 4) rfl rfl Try.func32 (by kernel_rfl) rfl #[.int .i64 30, .int .i64 40] rfl (by (try simp only [List.map_toArray, List.map_cons, List.map_nil]); first | done | rfl | (simp only [List.length_drop, List.length_take]; rfl)) ?_; (with_reducible refine (swarflaw07_rng.calls 30 40 t168 t169 _ A1.out).mono ?_); rintro e w13 ⟨rfl, hb⟩; refine ⟨_, rfl, ?_⟩; replace HO167 := Aside0.mk (Kd.R_below (Kd.R_x HO167.out) hb); replace BK164 := Aside0.mk (blk_below (blk_x BK164.out) hb); replace HB := bl_x HB hb; (try clear hb); (try clear hk); (try clear hi)) | ((with_reducible refine gate_callee (f := 32) rfl ?_); refine goesL_ (some 5) rfl rfl Try.func32 (by kernel_rfl) rfl #[.int .i64 1600, .int .i64 1650] rfl (by (try simp only [List.map_toArray, List.map_cons, List.map_nil]); first | done | rfl | (simp only [List.length_drop, List.length_take]; rfl)) ?_; (with_reducible refine (swarflaw07_rng.calls 1600 1650 t170 t171 _ A2.out).mono ?_); rintro e w14 ⟨rfl, hb⟩; refine ⟨_, rfl, ?_⟩; replace HO167 := Aside0.mk (Kd.R_below (Kd.R_x HO167.out) hb); replace BK164 := Aside0.mk (blk_below (blk_x BK164.out) hb); replace HB := bl_x HB hb; (try clear hb); (try clear hk); (try clear hi)) | ((with_reducible refine gate_dst (N := 7) rfl ?_); refine Kd.R_lit k62 _ 62 ?hg (N := 7) ?hd (xs := ([(⟨0, (⟨t170, t171⟩ : S56)⟩ : S62)] : List (S62))) (inner := [.int .i64 0, .int .i64 t170, .int .i64 t171]) (ok := fun _ => True) (okp := fun _ => True) ?hr ?hp (fun _ hk => hk) trivial (Below.refl _ _) (Nat.le_refl _) (by simp) ?_; (case hd => rfl); (case hg => rfl); (case hr => first | (go_simp; done) | (go_simp; rfl)); (case hp => exact (Reps.c3 (show Kd.M k62 _ _ _ (⟨0, (⟨t170, t171⟩ : S56)⟩ : S62) [.int .i64 0, .int .i64 t170, .int .i64 t171] from (k62_mkM _ _ _ (⟨0, (⟨t170, t171⟩ : S56)⟩ : S62) )) (Reps.none _ _))); intro v173 w15 ho16 hb hg_ hnew_; clear hg_ hnew_; (first | rw [← Ny172.out] at ho16 | (simp only [Int.reduceToNat] at ho16; rw [← Ny172.out] at ho16)); replace HO167 := Aside0.mk (Kd.R_below (Kd.R_x HO167.out) hb); have HO174 := Aside0.mk (Kd.R_lower (Kd.R_newM (M := fun k_ => (w.heap.size ≤ k_)) ho16 (below_size (by exact below_y HB.out)) (fun k_ h_ => h_)) (below_size (by exact below_y HB.out))); replace BK164 := Aside0.mk (blk_below (blk_x BK164.out) hb); replace HB := bl_x HB hb; clear hb ho16; obtain ⟨Ao17, co17, eo17⟩ := Kd.R_slice HO174.out; subst eo17) | ((with_reducible refine gate_callee (f := 32) rfl ?_); refine goesL_ (some 9) rfl rfl Try.func32 (by kernel_rfl) rfl #[.int .i64 120, .int .i64 150] rfl (by (try simp only [List.map_toArray, List.map_cons, List.map_nil]); first | done | rfl | (simp only [List.length_drop, List.length_take]; rfl)) ?_; (with_reducible refine (swarflaw07_rng.calls 120 150 t175 t176 _ A3.out).mono ?_); rintro e w18 ⟨rfl, hb⟩; refine ⟨_, rfl, ?_⟩; replace HO167 := Aside0.mk (Kd.R_below (Kd.R_x HO167.out) hb); replace HO174 := Aside0.mk (Kd.R_below (Kd.R_x HO174.out) hb); replace BK164 := Aside0.mk (blk_below (blk_x BK164.out) hb); replace HB := bl_x HB hb; (try clear hb); (try clear hk); (try clear hi)) | ((with_reducible refine gate_callee (f := 32) rfl ?_); refine goesL_ (some 10) rfl rfl Try.func32 (by kernel_rfl) rfl #[.int .i64 1300, .int .i64 1350] rfl (by (try simp only [List.map_toArray, List.map_cons, List.map_nil]); first | done | rfl | (simp only [List.length_drop, List.length_take]; rfl)) ?_; (with_reducible refine (swarflaw07_rng.calls 1300 1350 t177 t178 _ A4.out).mono ?_); rintro e w19 ⟨rfl, hb⟩; refine ⟨_, rfl, ?_⟩; replace HO167 := Aside0.mk (Kd.R_below (Kd.R_x HO167.out) hb); replace HO174 := Aside0.mk (Kd.R_below (Kd.R_x HO174.out) hb); replace BK164 := Aside0.mk (blk_below (blk_x BK164.out) hb); replace HB := bl_x HB hb; (try clear hb); (try clear hk); (try clear hi)) | ((with_reducible refine gate_callee (f := 32) rfl ?_); refine goesL_ (some 12) rfl rfl Try.func32 (by kernel_rfl) rfl #[.int .i64 1600, .int .i64 1650] rfl (by (try simp only [List.map_toArray, List.map_cons, List.map_nil]); first | done | rfl | (simp only [List.length_drop, List.length_take]; rfl)) ?_; (with_reducible refine (swarflaw07_rng.calls 1600 1650 t179 t180 _ A5.out).mono ?_); rintro e w20 ⟨rfl, hb⟩; refine ⟨_, rfl, ?_⟩; replace HO167 := Aside0.mk (Kd.R_below (Kd.R_x HO167.out) hb); replace HO174 := Aside0.mk (Kd.R_below (Kd.R_x HO174.out) hb); replace BK164 := Aside0.mk (blk_below (blk_x BK164.out) hb); replace HB := bl_x HB hb; (try clear hb); (try clear hk); (try clear hi)) | ((with_reducible refine gate_callee (f := 32) rfl ?_); refine goesL_ (some 14) rfl rfl Try.func32 (by kernel_rfl) rfl #[.int .i64 1200, .int .i64 1250] rfl (by (try simp only [List.map_toArray, List.map_cons, List.map_nil]); first | done | rfl | (simp only [List.length_drop, List.length_take]; rfl)) ?_; (with_reducible refine (swarflaw07_rng.calls 1200 1250 t181 t182 _ A6.out).mono ?_); rintro e w21 ⟨rfl, hb⟩; refine ⟨_, rfl, ?_⟩; replace HO167 := Aside0.mk (Kd.R_below (Kd.R_x HO167.out) hb); replace HO174 := Aside0.mk (Kd.R_below (Kd.R_x HO174.out) hb); replace BK164 := Aside0.mk (blk_below (blk_x BK164.out) hb); replace HB := bl_x HB hb; (try clear hb); (try clear hk); (try clear hi)) | ((with_reducible refine gate_dst (N := 16) rfl ?_); refine Kd.R_lit k62 _ 62 ?hg (N := 16) ?hd (xs := ([(⟨0, (⟨t177, t178⟩ : S56)⟩ : S62), (⟨240, (⟨t179, t180⟩ : S56)⟩ : S62), (⟨480, (⟨t181, t182⟩ : S56)⟩ : S62)] : List (S62))) (inner := [.int .i64 0, .int .i64 t177, .int .i64 t178, .int .i64 240, .int .i64 t179, .int .i64 t180, .int .i64 480, .int .i64 t181, .int .i64 t182]) (ok := fun _ => True) (okp := fun _ => True) ?hr ?hp (fun _ hk => hk) trivial (Below.refl _ _) (Nat.le_refl _) (by simp) ?_; (case hd => rfl); (case hg => rfl); (case hr => first | (go_simp; done) | (go_simp; rfl)); (case hp => exact (Reps.c3 (show Kd.M k62 _ _ _ (⟨0, (⟨t177, t178⟩ : S56)⟩ : S62) [.int .i64 0, .int .i64 t177, .int .i64 t178] from (k62_mkM _ _ _ (⟨0, (⟨t177, t178⟩ : S56)⟩ : S62) )) (Reps.c3 (show Kd.M k62 _ _ _ (⟨240, (⟨t179, t180⟩ : S56)⟩ : S62) [.int .i64 240, .int .i64 t179, .int .i64 t180] from (k62_mkM _ _ _ (⟨240, (⟨t179, t180⟩ : S56)⟩ : S62) )) (Reps.c3 (show Kd.M k62 _ _ _ (⟨480, (⟨t181, t182⟩ : S56)⟩ : S62) [.int .i64 480, .int .i64 t181, .int .i64 t182] from (k62_mkM _ _ _ (⟨480, (⟨t181, t182⟩ : S56)⟩ : S62) )) (Reps.none _ _))))); intro v184 w22 ho23 hb hg_ hnew_; clear hg_ hnew_; (first | rw [← Ny183.out] at ho23 | (simp only [Int.reduceToNat] at ho23; rw [← Ny183.out] at ho23)); replace HO167 := Aside0.mk (Kd.R_below (Kd.R_x HO167.out) hb); have HO185 := Aside0.mk (Kd.R_lower (Kd.R_new' (Kd.R_newM (M := fun k_ => (w.heap.size ≤ k_)) ho23 (below_size (by exact below_y HB.out)) (fun k_ h_ => h_)) (Kd.R_lt (Kd.R_x HO174.out))) (below_size (by exact below_y HB.out))); replace HO174 := Aside0.mk (Kd.R_elder' (Kd.R_x HO174.out) (Kd.R_base ho23) hb); replace BK164 := Aside0.mk (blk_below (blk_x BK164.out) hb); replace HB := bl_x HB hb; clear hb ho23; obtain ⟨Ao24, co24, eo24⟩ := Kd.R_slice HO185.out; subst eo24) | ((with_reducible refine gate_dst (N := 18) rfl ?_); refine Kd.N_lit k59 _ 59 ?hg (N' := 18) ?hd (xs := ([(⟨(⟨t168, t169⟩ : S56), y172⟩ : S59), (⟨(⟨t175, t176⟩ : S56), y183⟩ : S59)] : List (S59))) (inner := [.int .i64 t168, .int .i64 t169, .slice Ao17 y172.length co17, .int .i64 t175, .int .i64 t176, .slice Ao24 y183.length co24]) (ok := (fun k_ => (w.heap.size ≤ k_) ∧ some k_ ≠ (v166 : Value).ownBlock ∧ k_ ≠ gb164)) (okp := (fun k_ => (w.heap.size ≤ k_) ∧ some k_ ≠ (v166 : Value).ownBlock ∧ k_ ≠ gb164)) ?hr ?hp (fun _ hk => hk) ((show ∀ k_, w22.heap.size ≤ k_ → (fun k_ => (w.heap.size ≤ k_) ∧ some k_ ≠ (v166 : Value).ownBlock ∧ k_ ≠ gb164) k_ from fun k_ hk => ⟨(Nat.le_trans (below_size (by exact below_y HB.out)) hk), Kd.fresh' (Kd.R_lt (Kd.R_x HO167.out)) k_ hk, Kd.freshB (g := gb164) (o := .cells #[.int .i64 0, .int .i64 0, .int .i64 0, .slice none 0 0, .int .i64 0, .slice none 0 0, .slice none 0 0] 26 (0, 0)) (blk_x BK164.out) k_ hk⟩) _ (Nat.le_refl _)) (Below.refl _ _) (Nat.le_refl _) (by simp) ?_; (case hd => rfl); (case hg => rfl); (case hr => first | (go_simp; done) | (go_simp; rfl)); (case hp => exact (Reps.c3 (show Kd.FK k59 _ _ (⟨(⟨t168, t169⟩ : S56), y172⟩ : S59) [.int .i64 t168, .int .i64 t169, .slice Ao17 y172.length co17] from (k59_mkF _ _ (⟨(⟨t168, t169⟩ : S56), y172⟩ : S59) (Kd.R_reads' (Kd.R_mono (ok' := (fun k_ => (w.heap.size ≤ k_) ∧ some k_ ≠ (v166 : Value).ownBlock ∧ k_ ≠ gb164)) (Kd.R_types (Kd.R_apart' (HO174.out) (Kd.R_typed HO167.out) (by decide)) BK164.out (by decide)) (fun k_ hk => ⟨hk.1.1.1.1, ⟨hk.1.2, hk.2⟩⟩))).2.1 (Kd.R_F (Kd.R_mono (ok' := (fun k_ => (w.heap.size ≤ k_) ∧ some k_ ≠ (v166 : Value).ownBlock ∧ k_ ≠ gb164)) (Kd.R_types (Kd.R_apart' (HO174.out) (Kd.R_typed HO167.out) (by decide)) BK164.out (by decide)) (fun k_ hk => ⟨hk.1.1.1.1, ⟨hk.1.2, hk.2⟩⟩))))) (Reps.c3 (show Kd.FK k59 _ _ (⟨(⟨t175, t176⟩ : S56), y183⟩ : S59) [.int .i64 t175, .int .i64 t176, .slice Ao24 y183.length co24] from (k59_mkF _ _ (⟨(⟨t175, t176⟩ : S56), y183⟩ : S59) (Kd.R_reads' (Kd.R_mono (ok' := (fun k_ => (w.heap.size ≤ k_) ∧ some k_ ≠ (v166 : Value).ownBlock ∧ k_ ≠ gb164)) (Kd.R_types (Kd.R_apart' (HO185.out) (Kd.R_typed HO167.out) (by decide)) BK164.out (by decide)) (fun k_ hk => ⟨hk.1.1.1.1, ⟨hk.1.2, hk.2⟩⟩))).2.1 (Kd.R_F (Kd.R_mono (ok' := (fun k_ => (w.heap.size ≤ k_) ∧ some k_ ≠ (v166 : Value).ownBlock ∧ k_ ≠ gb164)) (Kd.R_types (Kd.R_apart' (HO185.out) (Kd.R_typed HO167.out) (by decide)) BK164.out (by decide)) (fun k_ hk => ⟨hk.1.1.1.1, ⟨hk.1.2, hk.2⟩⟩))))) (Reps.none _ _)))); intro v187 w25 ho26 hb hg_ hnew_; clear hg_ hnew_; (first | rw [← Ny186.out] at ho26 | (simp only [Int.reduceToNat] at ho26; rw [← Ny186.out] at ho26)); replace HO167 := Aside0.mk (Kd.R_below (Kd.R_x HO167.out) hb); have HO188 := Aside0.mk (Kd.N_lower ho26 (below_size (by exact below_y HB.out))); replace BK164 := Aside0.mk (blk_below (blk_x BK164.out) hb); replace HB := bl_x HB hb; clear HO174 HO185; clear hb ho26) | ((with_reducible refine gate_callee (f := 32) rfl ?_); refine goesL_ (some 19) rfl rfl Try.func32 (by kernel_rfl) rfl #[.int .i64 200, .int .i64 220] rfl (by (try simp only [List.map_toArray, List.map_cons, List.map_nil]); first | done | rfl | (simp only [List.length_drop, List.length_take]; rfl)) ?_; (with_reducible refine (swarflaw07_rng.calls 200 220 t189 t190 _ A7.out).mono ?_); rintro e w27 ⟨rfl, hb⟩; refine ⟨_, rfl, ?_⟩; replace HO167 := Aside0.mk (Kd.R_below (Kd.R_x HO167.out) hb); replace HO188 := Aside0.mk (Kd.N_below (Kd.N_x HO188.out) hb); replace BK164 := Aside0.mk (blk_below (blk_x BK164.out) hb); replace HB := bl_x HB hb; (try clear hb); (try clear hk); (try clear hi)) | ((with_reducible refine gate_callee (f := 32) rfl ?_); refine goesL_ (some 21) rfl rfl Try.func32 (by kernel_rfl) rfl #[.int .i64 180, .int .i64 200] rfl (by (try simp only [List.map_toArray, List.map_cons, List.map_nil]); first | done | rfl | (simp only [List.length_drop, List.length_take]; rfl)) ?_; (with_reducible refine (swarflaw07_rng.calls 180 200 t191 t192 _ A8.out).mono ?_); rintro e w28 ⟨rfl, hb⟩; refine ⟨_, rfl, ?_⟩; replace HO167 := Aside0.mk (Kd.R_below (Kd.R_x HO167.out) hb); replace HO188 := Aside0.mk (Kd.N_below (Kd.N_x HO188.out) hb); replace BK164 := Aside0.mk (blk_below (blk_x BK164.out) hb); replace HB := bl_x HB hb; (try clear hb); (try clear hk); (try clear hi)) | ((with_reducible refine gate_callee (f := 32) rfl ?_); refine goesL_ (some 23) rfl rfl Try.func32 (by kernel_rfl) rfl #[.int .i64 150, .int .i64 150] rfl (by (try simp only [List.map_toArray, List.map_cons, List.map_nil]); first | done | rfl | (simp only [List.length_drop, List.length_take]; rfl)) ?_; (with_reducible refine (swarflaw07_rng.calls 150 150 t193 t194 _ A9.out).mono ?_); rintro e w29 ⟨rfl, hb⟩; refine ⟨_, rfl, ?_⟩; replace HO167 := Aside0.mk (Kd.R_below (Kd.R_x HO167.out) hb); replace HO188 := Aside0.mk (Kd.N_below (Kd.N_x HO188.out) hb); replace BK164 := Aside0.mk (blk_below (blk_x BK164.out) hb); replace HB := bl_x HB hb; (try clear hb); (try clear hk); (try clear hi)) | ((with_reducible refine gate_dst (N := 25) rfl ?_); refine Kd.R_lit k79 _ 79 ?hg (N := 25) ?hd (xs := ([(⟨(⟨t189, t190⟩ : S56), 50⟩ : S79), (⟨(⟨t191, t192⟩ : S56), 40⟩ : S79), (⟨(⟨t193, t194⟩ : S56), 45⟩ : S79)] : List (S79))) (inner := [.int .i64 t189, .int .i64 t190, .int .i64 50, .int .i64 t191, .int .i64 t192, .int .i64 40, .int .i64 t193, .int .i64 t194, .int .i64 45]) (ok := fun _ => True) (okp := fun _ => True) ?hr ?hp (fun _ hk => hk) trivial (Below.refl _ _) (Nat.le_refl _) (by simp) ?_; (case hd => rfl); (case hg => rfl); (case hr => first | (go_simp; done) | (go_simp; rfl)); (case hp => exact (Reps.c3 (show Kd.M k79 _ _ _ (⟨(⟨t189, t190⟩ : S56), 50⟩ : S79) [.int .i64 t189, .int .i64 t190, .int .i64 50] from (k79_mkM _ _ _ (⟨(⟨t189, t190⟩ : S56), 50⟩ : S79) )) (Reps.c3 (show Kd.M k79 _ _ _ (⟨(⟨t191, t192⟩ : S56), 40⟩ : S79) [.int .i64 t191, .int .i64 t192, .int .i64 40] from (k79_mkM _ _ _ (⟨(⟨t191, t192⟩ : S56), 40⟩ : S79) )) (Reps.c3 (show Kd.M k79 _ _ _ (⟨(⟨t193, t194⟩ : S56), 45⟩ : S79) [.int .i64 t193, .int .i64 t194, .int .i64 45] from (k79_mkM _ _ _ (⟨(⟨t193, t194⟩ : S56), 45⟩ : S79) )) (Reps.none _ _))))); intro v196 w30 ho31 hb hg_ hnew_; clear hg_ hnew_; (first | rw [← Ny195.out] at ho31 | (simp only [Int.reduceToNat] at ho31; rw [← Ny195.out] at ho31)); replace HO167 := Aside0.mk (Kd.R_below (Kd.R_x HO167.out) hb); replace HO188 := Aside0.mk (Kd.N_elder' (Kd.N_x HO188.out) (Kd.R_base ho31) hb); have HO197 := Aside0.mk (Kd.R_lower (Kd.R_newM (M := fun k_ => (w.heap.size ≤ k_)) ho31 (below_size (by exact below_y HB.out)) (fun k_ h_ => h_)) (below_size (by exact below_y HB.out))); replace BK164 := Aside0.mk (blk_below (blk_x BK164.out) hb); replace HB := bl_x HB hb; clear hb ho31; obtain ⟨Ao32, co32, eo32⟩ := Kd.R_slice HO197.out; subst eo32; obtain ⟨Ao33, co33, eo33⟩ := Kd.N_slice HO188.out; subst eo33; obtain ⟨Ao34, co34, eo34⟩ := Kd.R_slice HO167.out; subst eo34; obtain ⟨_, _, _, _, _, _, _⟩ := cz7 BK164; have hfz35_0 := blk_frozen BK164.out))
 refine bodyPost_ret (results_cell_row rfl _ _ gb164 26 #[.int .i64 800, .int .i64 200, .int .i64 300, .slice Ao34 y165.length co34, .int .i64 60, .slice Ao33 y186.length co33, .slice Ao32 y195.length co32] (0, 0) _ rfl (by (with_reducible repeat (first | refine blk_drewN ?_ _ | refine blk_drew ?_ | refine blk_alloc ?_ _)); refine blk_put (cs := #[.int .i64 800, .int .i64 200, .int .i64 300, .slice Ao34 y165.length co34, .int .i64 60, .slice Ao33 y186.length co33, .slice none 0 0]) ?_ 6 _ rfl; (with_reducible repeat (first | refine blk_drewN ?_ _ | refine blk_drew ?_ | refine blk_alloc ?_ _)); refine blk_put (cs := #[.int .i64 800, .int .i64 200, .int .i64 300, .slice Ao34 y165.length co34, .int .i64 60, .slice none 0 0, .slice none 0 0]) ?_ 5 _ rfl; (with_reducible repeat (first | refine blk_drewN ?_ _ | refine blk_drew ?_ | refine blk_alloc ?_ _)); refine blk_put (cs := #[.int .i64 800, .int .i64 200, .int .i64 300, .slice Ao34 y165.length co34, .int .i64 0, .slice none 0 0, .slice none 0 0]) ?_ 4 _ rfl; (with_reducible repeat (first | refine blk_drewN ?_ _ | refine blk_drew ?_ | refine blk_alloc ?_ _)); refine blk_put (cs := #[.int .i64 800, .int .i64 200, .int .i64 300, .slice none 0 0, .int .i64 0, .slice none 0 0, .slice none 0 0]) ?_ 3 _ rfl; (with_reducible repeat (first | refine blk_drewN ?_ _ | refine blk_drew ?_ | refine blk_alloc ?_ _)); refine blk_put (cs := #[.int .i64 800, .int .i64 200, .int .i64 0, .slice none 0 0, .int .i64 0, .slice none 0 0, .slice none 0 0]) ?_ 2 _ rfl; (with_reducible repeat (first | refine blk_drewN ?_ _ | refine blk_drew ?_ | refine blk_alloc ?_ _)); refine blk_put (cs := #[.int .i64 800, .int .i64 0, .int .i64 0, .slice none 0 0, .int .i64 0, .slice none 0 0, .slice none 0 0]) ?_ 1 _ rfl; (with_reducible repeat (first | refine blk_drewN ?_ _ | refine blk_drew ?_ | refine blk_alloc ?_ _)); refine blk_put (cs := #[.int .i64 0, .int .i64 0, .int .i64 0, .slice none 0 0, .int .i64 0, .slice none 0 0, .slice none 0 0]) ?_ 0 _ rfl; (with_reducible repeat (first | refine blk_drewN ?_ _ | refine blk_drew ?_ | refine blk_alloc ?_ _)); exact BK164.out) Try.underlying26 rfl (by kernel_rfl)) rfl ?_
 exact ⟨_, _, _, by first | rfl | (simp [errW_none, errW_some] <;> rfl) | (simp [*, errW_none, errW_some] <;> rfl), by (with_reducible repeat (first | apply Kd.R_alloc | apply Kd.R_drewN | apply Kd.R_drew)); exact Kd.R_mono (Kd.R_far (p := ⟨gb164, 6, none⟩) (Kd.R_far (p := ⟨gb164, 5, none⟩) (Kd.R_far (p := ⟨gb164, 4, none⟩) (Kd.R_far (p := ⟨gb164, 3, none⟩) (Kd.R_far (p := ⟨gb164, 2, none⟩) (Kd.R_far (p := ⟨gb164, 1, none⟩) (Kd.R_far (p := ⟨gb164, 0, none⟩) (Kd.R_types HO167.out BK164.out (by decide)) (fun _ hk => hk.2) (.int .i64 800)) (fun _ hk => hk.2) (.int .i64 200)) (fun _ hk => hk.2) (.int .i64 300)) (fun _ hk => hk.2) (.slice Ao34 y165.length co34)) (fun _ hk => hk.2) (.int .i64 60)) (fun _ hk => hk.2) (.slice Ao33 y186.length co33)) (fun _ hk => hk.2) (.slice Ao32 y195.length co32)) (fun _ hk => hk.1.1), by (with_reducible repeat (first | apply Kd.N_alloc | apply Kd.N_drewN | apply Kd.N_drew)); exact Kd.N_mono (Kd.N_far (p := ⟨gb164, 6, none⟩) (Kd.N_far (p := ⟨gb164, 5, none⟩) (Kd.N_far (p := ⟨gb164, 4, none⟩) (Kd.N_far (p := ⟨gb164, 3, none⟩) (Kd.N_far (p := ⟨gb164, 2, none⟩) (Kd.N_far (p := ⟨gb164, 1, none⟩) (Kd.N_far (p := ⟨gb164, 0, none⟩) (Kd.N_mono HO188.out (fun k_ hk => (⟨hk, hk.1.2.2⟩ : _ ∧ k_ ≠ gb164))) (fun _ hk => hk.2) (.int .i64 800)) (fun _ hk => hk.2) (.int .i64 200)) (fun _ hk => hk.2) (.int .i64 300)) (fun _ hk => hk.2) (.slice Ao34 y165.length co34)) (fun _ hk => hk.2) (.int .i64 60)) (fun _ hk => hk.2) (.slice Ao33 y186.length co33)) (fun _ hk => hk.2) (.slice Ao32 y195.length co32)) (fun _ hk => ⟨hk.1.1.1, ⟨hk.1.1.2.1, hk.1.2⟩⟩), by (with_reducible repeat (first | apply Kd.R_alloc | apply Kd.R_drewN | apply Kd.R_drew)); exact Kd.R_mono (Kd.R_far (p := ⟨gb164, 6, none⟩) (Kd.R_far (p := ⟨gb164, 5, none⟩) (Kd.R_far (p := ⟨gb164, 4, none⟩) (Kd.R_far (p := ⟨gb164, 3, none⟩) (Kd.R_far (p := ⟨gb164, 2, none⟩) (Kd.R_far (p := ⟨gb164, 1, none⟩) (Kd.R_far (p := ⟨gb164, 0, none⟩) (Kd.R_types HO197.out BK164.out (by decide)) (fun _ hk => hk.2) (.int .i64 800)) (fun _ hk => hk.2) (.int .i64 200)) (fun _ hk => hk.2) (.int .i64 300)) (fun _ hk => hk.2) (.slice Ao34 y165.length co34)) (fun _ hk => hk.2) (.int .i64 60)) (fun _ hk => hk.2) (.slice Ao33 y186.length co33)) (fun _ hk => hk.2) (.slice Ao32 y195.length co32)) (fun _ hk => hk.1.1), by exact below_y HB.out⟩
attribute [local go_sem high] eqA56
noncomputable def swarflaw07_awake.f (k : Nat)  : Option (Bool) := (swarflaw07_voyage.f).bind fun bt198 => ((ship_Drafts.f bt198.1 bt198.2.1 bt198.2.2.1 bt198.2.2.2.1 bt198.2.2.2.2.1 bt198.2.2.2.2.2.1 bt198.2.2.2.2.2.2 (([0, 1, (-1)] : List Int))).bind fun bt214 => ((swarflaw07_voyage.f).bind fun bt221 => ((ship_Sail.f bt221.1 bt221.2.1 bt221.2.2.1 bt221.2.2.2.1 bt221.2.2.2.2.1 bt221.2.2.2.2.2.1 bt221.2.2.2.2.2.2 (([0, 1, (-1)] : List Int))).bind fun bt237 => ((swarflaw07_voyage.f).bind fun bt242 => ((ship_Best.f bt242.1 bt242.2.1 bt242.2.2.1 bt242.2.2.2.1 bt242.2.2.2.2.1 bt242.2.2.2.2.2.1 bt242.2.2.2.2.2.2).bind fun bt255 => (if bt214.2.2.2.2 = 0 then (if bt237.2.2 = 0 then (if bt255.2.2 = 0 then ((swarflaw07_rng.f 1290000 1340000).bind fun bt260 => (if (bt214.1 == bt260.1 && (bt214.2.1 == bt260.2)) = true then ((swarflaw07_rng.f 1260000 1310000).bind fun bt262 => (if (bt214.2.2.1 == bt262.1 && (bt214.2.2.2.1 == bt262.2)) = true then (if bt237.1 = 1 then (if bt255.2.1 = 95 then ((swarfkit_EqualInts.f k bt255.1 (([0, (-1), 1] : List Int))).bind fun t267 => (if t267 = true then ((swarflaw07_rng.f 90 100).bind fun bt268 => ((swarflaw07_rng.f 240 250).bind fun bt270 => ((swarfkit_EqualRanges.f k bt237.2.1 (([(⟨bt268.1, bt268.2⟩ : S56), (⟨bt270.1, bt270.2⟩ : S56)] : List (S56)))).bind fun t275 => (some t275)))) else (some false))) else (some false)) else (some false)) else (some false))) else (some false))) else (some false)) else (some false)) else (some false)))))))
theorem swarflaw07_awake.mono : ∀ k, LeO (swarflaw07_awake.f k ) (swarflaw07_awake.f (k + 1) ) := by
 intro  k
 unfold swarflaw07_awake.f
 repeat' first
   | (with_reducible exact swarfkit_EqualInts.mono _ _ _)
   | (with_reducible exact swarfkit_EqualRanges.mono _ _ _)
   | (with_reducible exact LeO.refl _)
   | (with_reducible exact LeO.none _)
   | (with_reducible refine LeO.ite ?_ ?_)
   | (with_reducible refine LeO.bind ?_ (fun _ => ?_))
   | exact swarfkit_EqualInts.mono _ _ _
   | exact swarfkit_EqualRanges.mono _ _ _
   | exact LeO.none _
   | refine LeO.ite ?_ ?_
   | refine LeO.bind ?_ (fun _ => ?_)
def swarflaw07_awake.T4 : Bool × List (List Nat × List Nat) := (true, [([], []), ([0], [0]), ([1], [1]), ([2], [2]), ([3, 2], [2, 3]), ([2, 4], [2, 4]), ([5, 2], [5]), ([6], [6]), ([7, 6], [6, 7]), ([6, 8], [6, 8]), ([9, 6], [9]), ([10], [10]), ([10, 10], [10]), ([11, 12, 10], [10, 11, 12]), ([10, 13], [10, 13]), ([14, 12], [14]), ([15], [15]), ([15, 15], [15]), ([16, 17, 15], [15, 16, 17]), ([15, 18], [15, 18]), ([19, 17], [19]), ([20], [20]), ([21, 20], [20, 21]), ([20, 22], [20, 22]), ([23, 20], [23]), ([24], [24]), ([25, 24], [24, 25]), ([24, 26], [24, 26]), ([27, 24], [27]), ([28], [28]), ([28], [28]), ([29, 30, 28, 28], [28, 29, 30]), ([28, 31], [28, 31]), ([32, 31], [32]), ([33], [33]), ([33, 33], [33]), ([35, 33], [33]), ([35, 36, 33], [33, 35, 36]), ([34, 37, 36, 33], [33, 34, 37]), ([33, 38], [33, 38]), ([39, 38, 0, 1, 2, 3, 4, 5, 6, 7, 8, 9, 10, 11, 12, 13, 14, 15, 16, 17, 18, 19, 20, 21, 22, 23, 24, 25, 26, 27, 28, 29, 30, 31, 32, 33, 34, 35, 36, 37, 38, 39], [39])])
def swarflaw07_awake.B4 : List Nat := [0, 1, 3, 7, 15, 31, 63, 127, 255, 511, 1023, 2047, 2047, 8191, 16383, 32767, 65535, 65535, 262143, 524287, 1048575, 2097151, 4194303, 8388607, 16777215, 33554431, 67108863, 134217727, 268435455, 536870911, 536870911, 2147483647, 4294967295, 8589934591, 17179869183, 17179869183, 51539607551, 120259084287, 274877906943, 549755813887, 1099511627775]
theorem swarflaw07_awake.tab4 : rtab .any (opsOf Try.f15 4) = swarflaw07_awake.T4 := by kernel_rfl
theorem swarflaw07_awake.bits4 : waitsOk swarflaw07_awake.T4.2 swarflaw07_awake.B4 = true := by kernel_rfl
def swarfkit_Feed_Range.f (s0_0 : Int) (a1 : Int) (a2 : Int) : Option (Int × Int × Int) := (swarfkit_Feed_Between.f s0_0 a1 a2).bind fun bt284 => ((swarfkit_Feed_Below.f bt284.2 4).bind fun bt286 => ((swarfkit_Feed_Between.f bt286.2 bt284.1 a2).bind fun bt288 => ((swarfkit_Feed_Either.f bt288.2 (([bt284.1, mn a2 (wrap64 (bt284.1 + bt286.1)), bt288.1] : List Int))).bind fun bt293 => (some (bt284.1, bt293.1, bt293.2)))))
set_option maxHeartbeats 8000000 in
set_option maxRecDepth 100000 in
theorem swarfkit_Feed_Range.calls (g : Nat) (s0_0 : Int) (a1 : Int) (a2 : Int) (r1 : Int) (r2 : Int) (r3 : Int) (w0 w : World) (hI : IsS90 w0 w g s0_0) (hB : Below w0.heap.size w0 w) (h : swarfkit_Feed_Range.f s0_0 a1 a2 = some (r1, r2, r3)) :
  Calls Try.prog 54 #[.pointer (some ⟨g, 0, none⟩), .int .i64 a1, .int .i64 a2] w fun e w' => e = .returned (.agg #[.int .i64 r1, .int .i64 r2]) ∧ IsS90 w0 w' g r3 ∧ Below w0.heap.size w0 w' ∧ KeepBut w w' g none := by
 have hu56 := Try.underlying56
 have HI0 := Aside0.mk hI
 have HK := Aside0.mk (KeepBut.refl w g none)
 have HL := Aside0.mk hB.size
 clear hI
 have HW0 := Aside0.mk hB.size
 have HB := Aside0.mk hB
 clear hB
 have H : ((swarfkit_Feed_Between.f s0_0 a1 a2).bind fun bt284 => ((swarfkit_Feed_Below.f bt284.2 4).bind fun bt286 => ((swarfkit_Feed_Between.f bt286.2 bt284.1 a2).bind fun bt288 => ((swarfkit_Feed_Either.f bt288.2 (([bt284.1, mn a2 (wrap64 (bt284.1 + bt286.1)), bt288.1] : List Int))).bind fun bt293 => (some (bt284.1, bt293.1, bt293.2)))))) = some (r1, r2, r3) := h
 clear h
 replace H := Option.bind_eq_some_iff.mp H
 obtain ⟨⟨t284, t285⟩, A40, H⟩ := H
 try dsimp only at H
 have A4 := Aside0.mk A40
 clear A40
 replace H := Option.bind_eq_some_iff.mp H
 obtain ⟨⟨t286, t287⟩, A50, H⟩ := H
 try dsimp only at H
 have A5 := Aside0.mk A50
 clear A50
 obtain ⟨ji6, hji6⟩ : ∃ j_ : Int, (mn a2 (wrap64 (t284 + t286))) = j_ := ⟨_, rfl⟩
 replace H : ((swarfkit_Feed_Between.f t287 t284 a2).bind fun bt288 => ((swarfkit_Feed_Either.f bt288.2 (([t284, ji6, bt288.1] : List Int))).bind fun bt293 => (some (t284, bt293.1, bt293.2)))) = some (r1, r2, r3) := by first | (rw [hji6] at H; exact H) | (simp only [hji6] at H ⊢; exact H)
 (try rw [hji6] at A4)
 (try rw [hji6] at A5)
 have hji6_ : (if (wrap64 (t284 + t286)) < a2 then (wrap64 (t284 + t286)) else a2) = ji6 := hji6
 replace H := Option.bind_eq_some_iff.mp H
 obtain ⟨⟨t288, t289⟩, A70, H⟩ := H
 try dsimp only at H
 have A7 := Aside0.mk A70
 clear A70
 obtain ⟨y290, hy290⟩ : ∃ y_ : List Int, y_ = (([t284, ji6, t288] : List Int)) := ⟨_, rfl⟩
 replace H : ((swarfkit_Feed_Either.f t289 y290).bind fun bt293 => (some (t284, bt293.1, bt293.2))) = some (r1, r2, r3) := by first | (rw [hy290]; with_reducible exact H) | (have H2_ := (Option.bind_some _ _).symm.trans H; rw [hy290]; with_reducible exact H2_) | (have H2_ := (Option.bind_some _ _).symm.trans H; with_reducible exact H2_) | with_reducible exact H | (rw [hy290]; exact H) | exact H
 have Ny290 := Aside0.mk hy290
 clear hy290
 replace H := Option.bind_eq_some_iff.mp H
 obtain ⟨⟨t293, t294⟩, A80, H⟩ := H
 replace H : (some (t284, t293, t294)) = some (r1, r2, r3) := H
 have A8 := Aside0.mk A80
 clear A80
 simp only [Option.some.injEq, Prod.mk.injEq] at H
 obtain ⟨rfl, rfl, rfl⟩ := H
 go_enter Try.func54, Try.ntmps54
 go_wp2_with (first | ((with_reducible refine gate_dst (N := 6) rfl ?_); refine box_event ?hg (N := 6) ?hd (cs := #[.int .i64 0, .int .i64 0]) (t := 56) ?hr ?_; (case hd => rfl); (case hg => rfl); (case hr => first | (go_simp; done) | (go_simp; rfl)); intro gb283 hg w9 hbox hb; replace HB := bl_x HB hb; have BK283 := Aside0.mk (hbox); have GW283 := Aside0.mk ((by rw [hg]; exact (keep_size (w := w) (g := g) (row := none) (by exact keep_y HK.out)) : w.heap.size ≤ gb283)); have GE283 := Aside0.mk ((Nat.le_trans HW0.out (by rw [hg]; exact (keep_size (w := w) (g := g) (row := none) (by exact keep_y HK.out)) : w.heap.size ≤ gb283) : w0.heap.size ≤ gb283)); replace HK := Aside0.mk (KeepBut.trans (by exact keep_y HK.out) (KeepBut.of_below hb g none) (.inl rfl)); have NB0_283 := Aside0.mk ((by rw [hg]; exact Nat.ne_of_lt (IsS90.lt (show IsS90 w0 _ g s0_0 from by exact IsS90.up HI0.out)) : g ≠ gb283)); have NB283_0 := Aside0.mk ((by rw [hg]; exact Nat.ne_of_gt (IsS90.lt (show IsS90 w0 _ g s0_0 from by exact IsS90.up HI0.out)) : gb283 ≠ g)); replace HI0 := Aside0.mk (IsS90.below (by exact IsS90.up HI0.out) hb); clear hb hbox hg) | ((with_reducible refine gate_callee (f := 31) rfl ?_); refine goesL_ (some 12) rfl rfl Try.func31 (by kernel_rfl) rfl #[.pointer (some ⟨g, 0, none⟩), .int .i64 a1, .int .i64 a2] rfl (by (try simp only [List.map_toArray, List.map_cons, List.map_nil]); first | done | rfl | (simp only [List.length_drop, List.length_take]; rfl)) ?_; (with_reducible refine (swarfkit_Feed_Between.calls g s0_0 a1 a2 t284 t285 w0 _ ?side1 ?side2 A4.out).mono ?_); (case side1 => exact IsS90.up HI0.out); (case side2 => exact below_y HB.out); rintro e w10 ⟨rfl, hi, hb, hk⟩; refine ⟨_, rfl, ?_⟩; replace BK283 := Aside0.mk (KeepBut.blk hk (blk_x BK283.out) NB283_0.out (by simp)); replace HK := Aside0.mk (KeepBut.trans (by exact keep_y HK.out) hk (.inl rfl)); replace HB := Aside0.mk (hb); replace HI0 := Aside0.mk (hi); (try clear hb); (try clear hk); (try clear hi)) | ((with_reducible refine gate_callee (f := 33) rfl ?_); refine goesL_ (some 18) rfl rfl Try.func33 (by kernel_rfl) rfl #[.pointer (some ⟨g, 0, none⟩), .int .i64 4] rfl (by (try simp only [List.map_toArray, List.map_cons, List.map_nil]); first | done | rfl | (simp only [List.length_drop, List.length_take]; rfl)) ?_; (with_reducible refine (swarfkit_Feed_Below.calls g t285 4 t286 t287 w0 _ ?side1 ?side2 A5.out).mono ?_); (case side1 => exact IsS90.up HI0.out); (case side2 => exact below_y HB.out); rintro e w11 ⟨rfl, hi, hb, hk⟩; refine ⟨_, rfl, ?_⟩; replace BK283 := Aside0.mk (KeepBut.blk hk (blk_x BK283.out) NB283_0.out (by simp)); replace HK := Aside0.mk (KeepBut.trans (by exact keep_y HK.out) hk (.inl rfl)); replace HB := Aside0.mk (hb); replace HI0 := Aside0.mk (hi); (try clear hb); (try clear hk); (try clear hi)) | ((with_reducible refine gate_callee (f := 31) rfl ?_); refine goesL_ (some 24) rfl rfl Try.func31 (by kernel_rfl) rfl #[.pointer (some ⟨g, 0, none⟩), .int .i64 t284, .int .i64 a2] rfl (by (try simp only [List.map_toArray, List.map_cons, List.map_nil]); first | done | rfl | (simp only [List.length_drop, List.length_take]; rfl)) ?_; (with_reducible refine (swarfkit_Feed_Between.calls g t287 t284 a2 t288 t289 w0 _ ?side1 ?side2 A7.out).mono ?_); (case side1 => exact IsS90.up HI0.out); (case side2 => exact below_y HB.out); rintro e w12 ⟨rfl, hi, hb, hk⟩; refine ⟨_, rfl, ?_⟩; replace BK283 := Aside0.mk (KeepBut.blk hk (blk_x BK283.out) NB283_0.out (by simp)); replace HK := Aside0.mk (KeepBut.trans (by exact keep_y HK.out) hk (.inl rfl)); replace HB := Aside0.mk (hb); replace HI0 := Aside0.mk (hi); (try clear hb); (try clear hk); (try clear hi)) | ((with_reducible refine gate_dst (N := 25) rfl ?_); refine Kd.R_lit (Kd.int .i64) _ 3 ?hg (N := 25) ?hd (xs := ([t284, ji6, t288] : List Int)) (inner := [.int .i64 t284, .int .i64 ji6, .int .i64 t288]) (ok := fun _ => True) (okp := fun _ => True) ?hr ?hp (fun _ hk => hk) trivial (Below.refl _ _) (Nat.le_refl _) (by simp) ?_; (case hd => rfl); (case hg => rfl); (case hr => first | (go_simp; done) | (go_simp; rfl)); (case hp => exact (Reps.one (show Kd.M (Kd.int .i64) _ _ _ t284 [.int .i64 t284] from rfl) (Reps.one (show Kd.M (Kd.int .i64) _ _ _ ji6 [.int .i64 ji6] from rfl) (Reps.one (show Kd.M (Kd.int .i64) _ _ _ t288 [.int .i64 t288] from rfl) (Reps.none _ _))))); intro v291 w13 ho14 hb hg_ hnew_; clear hg_ hnew_; (first | rw [← Ny290.out] at ho14 | (simp only [Int.reduceToNat] at ho14; rw [← Ny290.out] at ho14)); have HO292 := Aside0.mk (Kd.R_lower ho14 (keep_size (w := w) (g := g) (row := none) (by exact keep_y HK.out))); replace HI0 := Aside0.mk (IsS90.below (by exact IsS90.up HI0.out) hb); replace BK283 := Aside0.mk (blk_below (blk_x BK283.out) hb); replace HK := Aside0.mk (KeepBut.trans (by exact keep_y HK.out) (KeepBut.of_below hb g none) (.inl rfl)); replace HB := bl_x HB hb; clear hb ho14; obtain ⟨Ao15, co15, eo15⟩ := Kd.R_slice HO292.out; subst eo15) | ((with_reducible refine gate_callee (f := 18) rfl ?_); refine goesL_ (some 26) rfl rfl Try.func18 (by kernel_rfl) rfl #[.pointer (some ⟨g, 0, none⟩), .slice Ao15 y290.length co15] rfl (by (try simp only [List.map_toArray, List.map_cons, List.map_nil]); first | done | rfl | (simp only [List.length_drop, List.length_take]; rfl)) ?_; (with_reducible refine (swarfkit_Feed_Either.calls g t289 _ _ y290 t293 t294 w0 _ ?side1 ?side2 ?side3 ?side4 ?side5 A8.out).mono ?_); (case side1 => exact IsS90.up HI0.out); (case side2 => exact below_y HB.out); (case side3 => exact Kd.C_y (Kd.R_reads' HO292.out).2.2); (case side4 => exact (Kd.R_reads' HO292.out).2.1); (case side5 => exact far_slice (IsS90.own_ne HI0.out HO292.out (by decide))); rintro e w16 ⟨rfl, hi, hb, hk⟩; refine ⟨_, rfl, ?_⟩; replace BK283 := Aside0.mk (KeepBut.blk hk (blk_x BK283.out) NB283_0.out (by simp)); replace HO292 := Aside0.mk (Kd.R_mono (Kd.R_keep (IsS90.apart (show IsS90 w0 _ g t289 from by exact IsS90.up HI0.out) (Kd.R_x HO292.out) (by decide)) hk (fun _ h => h.2)) (fun _ h => h.1)); replace HK := Aside0.mk (KeepBut.trans (by exact keep_y HK.out) hk (.inl rfl)); replace HB := Aside0.mk (hb); replace HI0 := Aside0.mk (hi); (try clear hb); (try clear hk); (try clear hi); have hnb17 := NB283_0.out; have hnc17 := NB0_283.out; obtain ⟨_, _⟩ := cz2 BK283; have hfz18_0 := blk_frozen BK283.out))
 refine bodyPost_ret (results_cell_row rfl _ _ gb283 56 #[.int .i64 t284, .int .i64 t293] (0, 0) _ rfl (by (with_reducible repeat (first | refine blk_drewN ?_ _ | refine blk_drew ?_ | refine blk_alloc ?_ _)); refine blk_put (cs := #[.int .i64 t284, .int .i64 0]) ?_ 1 _ rfl; (with_reducible repeat (first | refine blk_drewN ?_ _ | refine blk_drew ?_ | refine blk_alloc ?_ _)); refine blk_put (cs := #[.int .i64 0, .int .i64 0]) ?_ 0 _ rfl; (with_reducible repeat (first | refine blk_drewN ?_ _ | refine blk_drew ?_ | refine blk_alloc ?_ _)); exact BK283.out) Try.underlying56 rfl (by kernel_rfl)) rfl ?_
 exact ⟨by first | rfl | (simp [errW_none, errW_some] <;> rfl) | (simp only [← hji6]; first | rfl | (simp [errW_none, errW_some] <;> rfl)) | (simp [*, errW_none, errW_some] <;> rfl), by exact IsS90.up HI0.out, by exact below_y HB.out, by exact keep_y HK.out⟩
mutual
def swarfkit_VoyageOf.l0 : Nat → Int → Int → Int → Int → Int → Int → Int → Int → List (S85) → Int → Option (Int × Int × Int × (List (S85)) × Int × (List (S59)) × (List (S79)) × Int)
 | 0, _, _, _, _, _, _, _, _, _, _ => none
 | k + 1, x2, x3, x4, x12, x1000, x310000, x310001, x310002, x310003, x310004 => if x12 > 0 then ((swarfkit_Feed_Below.f x1000 (wrap64 (3 * x4))).bind fun bt312 => ((swarfkit_Feed_Either.f bt312.2 (([x4, wrap64 (3 * x4), bt312.1] : List Int))).bind fun bt317 => ((swarfkit_Feed_Below.f bt317.2 1500).bind fun bt319 => ((swarfkit_Feed_Below.f bt319.2 1500).bind fun bt321 => (if x310003.length < 5864062014805 then (swarfkit_VoyageOf.l0 k x2 x3 x4 (wrap64 (x12 - 1)) bt321.2 x310000 x310001 x310002 (x310003 ++ [(⟨bt317.1, bt319.1, bt321.1⟩ : S85)]) x310004) else (none)))))) else ((swarfkit_Feed_Below.f x1000 (wrap64 (x2 + 1))).bind fun bt326 => (swarfkit_VoyageOf.l1 k x3 x4 bt326.1 bt326.2 x310000 x310001 x310002 x310003 x310004 ([] : List (S59))))
def swarfkit_VoyageOf.l1 : Nat → Int → Int → Int → Int → Int → Int → Int → List (S85) → Int → List (S59) → Option (Int × Int × Int × (List (S85)) × Int × (List (S59)) × (List (S79)) × Int)
 | 0, _, _, _, _, _, _, _, _, _, _ => none
 | k + 1, x3, x4, x13, x1000, x310000, x310001, x310002, x310003, x310004, x310005 => if x13 > 0 then ((swarfkit_Feed_Either.f x1000 (([3, 12] : List Int))).bind fun bt331 => ((swarfkit_Feed_Range.f bt331.2 0 bt331.1).bind fun bt333 => ((swarfkit_Feed_Between.f bt333.2.2 1 4).bind fun bt337 => (swarfkit_VoyageOf.l2 k x3 x4 x13 0 bt337.1 bt337.2 x310000 x310001 x310002 x310003 x310004 x310005 bt333.1 bt333.2.1 ([] : List (S62)))))) else ((swarfkit_Feed_Below.f x1000 (wrap64 (x3 + 1))).bind fun bt352 => (swarfkit_VoyageOf.l3 k x4 bt352.1 bt352.2 x310000 x310001 x310002 x310003 x310004 x310005 ([] : List (S79))))
def swarfkit_VoyageOf.l2 : Nat → Int → Int → Int → Int → Int → Int → Int → Int → Int → List (S85) → Int → List (S59) → Int → Int → List (S62) → Option (Int × Int × Int × (List (S85)) × Int × (List (S59)) × (List (S79)) × Int)
 | 0, _, _, _, _, _, _, _, _, _, _, _, _, _, _, _ => none
 | k + 1, x3, x4, x13, x15, x16, x1000, x310000, x310001, x310002, x310003, x310004, x310005, x337000, x337001, x337002 => if x16 > 0 then ((swarfkit_Feed_Below.f x1000 12).bind fun bt339 => ((swarfkit_Feed_Range.f bt339.2 bt339.1 (wrap64 (12 + (wrap64 (2 * x4))))).bind fun bt341 => (if x337002.length < 5864062014805 then ((swarfkit_Feed_Between.f bt341.2.2 1 9).bind fun bt347 => (swarfkit_VoyageOf.l2 k x3 x4 x13 (wrap64 (x15 + bt347.1)) (wrap64 (x16 - 1)) bt347.2 x310000 x310001 x310002 x310003 x310004 x310005 x337000 x337001 (x337002 ++ [(⟨x15, (⟨bt341.1, bt341.2.1⟩ : S56)⟩ : S62)]))) else (none)))) else (if x310005.length < 3518437208883 then (swarfkit_VoyageOf.l1 k x3 x4 (wrap64 (x13 - 1)) x1000 x310000 x310001 x310002 x310003 x310004 (x310005 ++ [(⟨(⟨x337000, x337001⟩ : S56), x337002⟩ : S59)])) else (none))
def swarfkit_VoyageOf.l3 : Nat → Int → Int → Int → Int → Int → Int → List (S85) → Int → List (S59) → List (S79) → Option (Int × Int × Int × (List (S85)) × Int × (List (S59)) × (List (S79)) × Int)
 | 0, _, _, _, _, _, _, _, _, _, _ => none
 | k + 1, x4, x17, x1000, x310000, x310001, x310002, x310003, x310004, x310005, x310006 => if x17 > 0 then ((swarfkit_Feed_Range.f x1000 0 x4).bind fun bt354 => ((swarfkit_Feed_Below.f bt354.2.2 30).bind fun bt357 => (if x310006.length < 5864062014805 then (swarfkit_VoyageOf.l3 k x4 (wrap64 (x17 - 1)) bt357.2 x310000 x310001 x310002 x310003 x310004 x310005 (x310006 ++ [(⟨(⟨bt354.1, bt354.2.1⟩ : S56), bt357.1⟩ : S79)])) else (none)))) else (some (x310000, x310001, x310002, x310003, x310004, x310005, x310006, x1000))
end
def swarfkit_VoyageOf.f (k : Nat) (s0_0 : Int) (a1 : Int) (a2 : Int) (a3 : Int) (a4 : Int) : Option (Int × Int × Int × (List (S85)) × Int × (List (S59)) × (List (S79)) × Int) := (swarfkit_Feed_Below.f s0_0 9).bind fun bt296 => ((swarfkit_Feed_Below.f bt296.2 4).bind fun bt298 => ((swarfkit_Feed_Below.f bt298.2 9).bind fun bt300 => ((swarfkit_Feed_Either.f bt300.2 (([bt300.1, 40] : List Int))).bind fun bt305 => ((swarfkit_Feed_Below.f bt305.2 9).bind fun bt307 => ((swarfkit_Feed_Between.f bt307.2 1 a1).bind fun bt310 => (swarfkit_VoyageOf.l0 k a2 a3 a4 bt310.1 bt310.2 bt296.1 bt298.1 bt305.1 ([] : List (S85)) bt307.1))))))
def swarfkit_VoyageOf.T5 : Bool × List (List Nat × List Nat) := (true, [([], []), ([0], [0]), ([], []), ([], []), ([], []), ([4], [4]), ([], []), ([], []), ([7], [7]), ([6, 8], [6, 8]), ([3, 5, 9], [3, 5, 9]), ([2, 10, 9], [2, 10]), ([], []), ([12, 11], [12]), ([], []), ([14, 13], [14]), ([11, 13, 15], [11, 13, 15]), ([16], [16]), ([1, 17, 15], [1, 17]), ([0, 1, 2, 3, 4, 5, 6, 7, 8, 9, 10, 11, 12, 13, 14, 15, 16, 17, 18], []), ([19, 18, 18, 0, 1, 2, 3, 4, 5, 6, 7, 8, 9, 10, 11, 12, 13, 14, 15, 16, 17, 18], [18, 19])])
def swarfkit_VoyageOf.B5 : List Nat := [0, 1, 0, 0, 0, 16, 0, 0, 128, 448, 1016, 2044, 0, 8188, 0, 32764, 65532, 131068, 262143, 524287, 1048575]
theorem swarfkit_VoyageOf.tab5 : rtab .any (opsOf Try.f17 5) = swarfkit_VoyageOf.T5 := by kernel_rfl
theorem swarfkit_VoyageOf.bits5 : waitsOk swarfkit_VoyageOf.T5.2 swarfkit_VoyageOf.B5 = true := by kernel_rfl
def swarfkit_VoyageOf.T14 : Bool × List (List Nat × List Nat) := (true, [([], []), ([0], [0]), ([], []), ([], []), ([], []), ([4], [4]), ([], []), ([6], [6]), ([7], [7]), ([3, 5, 8, 5], [3, 5, 8]), ([2, 9], [2, 9]), ([10], [10]), ([1, 11, 9], [1, 11]), ([0, 1, 2, 3, 4, 5, 6, 7, 8, 9, 10, 11, 12], []), ([13, 12, 12, 0, 1, 2, 3, 4, 5, 6, 7, 8, 9, 10, 11, 12], [12, 13])])
def swarfkit_VoyageOf.B14 : List Nat := [0, 1, 0, 0, 0, 16, 0, 64, 192, 504, 1020, 2044, 4095, 8191, 16383]
theorem swarfkit_VoyageOf.tab14 : rtab .any (opsOf Try.f17 14) = swarfkit_VoyageOf.T14 := by kernel_rfl
theorem swarfkit_VoyageOf.bits14 : waitsOk swarfkit_VoyageOf.T14.2 swarfkit_VoyageOf.B14 = true := by kernel_rfl
def swarfkit_VoyageOf.T20 : Bool × List (List Nat × List Nat) := (true, [([], []), ([0], [0]), ([], []), ([], []), ([2, 3], [2, 3]), ([], []), ([5, 4], [5]), ([4, 6], [4, 6]), ([7], [7]), ([1, 8, 6], [1, 8]), ([0, 1, 2, 3, 4, 5, 6, 7, 8, 9], []), ([10, 9, 9, 0, 1, 2, 3, 4, 5, 6, 7, 8, 9], [9, 10])])
def swarfkit_VoyageOf.B20 : List Nat := [0, 1, 0, 0, 12, 0, 60, 124, 252, 511, 1023, 2047]
theorem swarfkit_VoyageOf.tab20 : rtab .any (opsOf Try.f17 20) = swarfkit_VoyageOf.T20 := by kernel_rfl
theorem swarfkit_VoyageOf.bits20 : waitsOk swarfkit_VoyageOf.T20.2 swarfkit_VoyageOf.B20 = true := by kernel_rfl
set_option maxHeartbeats 8000000 in
set_option maxRecDepth 100000 in
theorem swarfkit_VoyageOf.calls (k : Nat) (g : Nat) (s0_0 : Int) (a1 : Int) (a2 : Int) (a3 : Int) (a4 : Int) (r1 : Int) (r2 : Int) (r3 : Int) (r4 : List (S85)) (r5 : Int) (r6 : List (S59)) (r7 : List (S79)) (r8 : Int) (w0 w : World) (hI : IsS90 w0 w g s0_0) (hB : Below w0.heap.size w0 w) (h : swarfkit_VoyageOf.f k s0_0 a1 a2 a3 a4 = some (r1, r2, r3, r4, r5, r6, r7, r8)) :
  Calls Try.prog 17 #[.pointer (some ⟨g, 0, none⟩), .int .i64 a1, .int .i64 a2, .int .i64 a3, .int .i64 a4] w fun e w' => ∃ v3_ v5_ v6_ : Value, e = .returned (.agg #[.int .i64 r1, .int .i64 r2, .int .i64 r3, v3_, .int .i64 r5, v5_, v6_]) ∧ Kd.R k85 85 w' w.heap.size (fun _ => True) v3_ r4 ∧ Kd.S k59 59 w' w.heap.size (fun _ => True) v5_ r6 ∧ Kd.R k79 79 w' w.heap.size (fun _ => True) v6_ r7 ∧ IsS90 w0 w' g r8 ∧ Below w0.heap.size w0 w' ∧ KeepBut w w' g none := by
 have hu26 := Try.underlying26
 have hu85 := Try.underlying85
 have hu59 := Try.underlying59
 have hu62 := Try.underlying62
 have hu79 := Try.underlying79
 have HI0 := Aside0.mk hI
 have HK := Aside0.mk (KeepBut.refl w g none)
 have HL := Aside0.mk hB.size
 clear hI
 have HW0 := Aside0.mk hB.size
 have HB := Aside0.mk hB
 clear hB
 have H : ((swarfkit_Feed_Below.f s0_0 9).bind fun bt296 => ((swarfkit_Feed_Below.f bt296.2 4).bind fun bt298 => ((swarfkit_Feed_Below.f bt298.2 9).bind fun bt300 => ((swarfkit_Feed_Either.f bt300.2 (([bt300.1, 40] : List Int))).bind fun bt305 => ((swarfkit_Feed_Below.f bt305.2 9).bind fun bt307 => ((swarfkit_Feed_Between.f bt307.2 1 a1).bind fun bt310 => (swarfkit_VoyageOf.l0 k a2 a3 a4 bt310.1 bt310.2 bt296.1 bt298.1 bt305.1 ([] : List (S85)) bt307.1))))))) = some (r1, r2, r3, r4, r5, r6, r7, r8) := h
 clear h
 replace H := Option.bind_eq_some_iff.mp H
 obtain ⟨⟨t296, t297⟩, A60, H⟩ := H
 try dsimp only at H
 have A6 := Aside0.mk A60
 clear A60
 replace H := Option.bind_eq_some_iff.mp H
 obtain ⟨⟨t298, t299⟩, A70, H⟩ := H
 try dsimp only at H
 have A7 := Aside0.mk A70
 clear A70
 replace H := Option.bind_eq_some_iff.mp H
 obtain ⟨⟨t300, t301⟩, A80, H⟩ := H
 try dsimp only at H
 have A8 := Aside0.mk A80
 clear A80
 obtain ⟨y302, hy302⟩ : ∃ y_ : List Int, y_ = (([t300, 40] : List Int)) := ⟨_, rfl⟩
 replace H : ((swarfkit_Feed_Either.f t301 y302).bind fun bt305 => ((swarfkit_Feed_Below.f bt305.2 9).bind fun bt307 => ((swarfkit_Feed_Between.f bt307.2 1 a1).bind fun bt310 => (swarfkit_VoyageOf.l0 k a2 a3 a4 bt310.1 bt310.2 t296 t298 bt305.1 ([] : List (S85)) bt307.1)))) = some (r1, r2, r3, r4, r5, r6, r7, r8) := by first | (rw [hy302]; with_reducible exact H) | (have H2_ := (Option.bind_some _ _).symm.trans H; rw [hy302]; with_reducible exact H2_) | (have H2_ := (Option.bind_some _ _).symm.trans H; with_reducible exact H2_) | with_reducible exact H | (rw [hy302]; exact H) | exact H
 have Ny302 := Aside0.mk hy302
 clear hy302
 replace H := Option.bind_eq_some_iff.mp H
 obtain ⟨⟨t305, t306⟩, A90, H⟩ := H
 try dsimp only at H
 have A9 := Aside0.mk A90
 clear A90
 replace H := Option.bind_eq_some_iff.mp H
 obtain ⟨⟨t307, t308⟩, A100, H⟩ := H
 try dsimp only at H
 have A10 := Aside0.mk A100
 clear A100
 replace H := Option.bind_eq_some_iff.mp H
 obtain ⟨⟨t310, t311⟩, A110, H⟩ := H
 try dsimp only at H
 have A11 := Aside0.mk A110
 clear A110
 have H' := Aside0.mk H
 clear H
 go_enter Try.func17, Try.ntmps17
 go_wp2_with (first | ((with_reducible refine gate_dst (N := 10) rfl ?_); refine box_event ?hg (N := 10) ?hd (cs := #[.int .i64 0, .int .i64 0, .int .i64 0, .slice none 0 0, .int .i64 0, .slice none 0 0, .slice none 0 0]) (t := 26) ?hr ?_; (case hd => rfl); (case hg => rfl); (case hr => first | (go_simp; done) | (go_simp; rfl)); intro gb295 hg w12 hbox hb; replace HB := bl_x HB hb; have BK295 := Aside0.mk (hbox); have GW295 := Aside0.mk ((by rw [hg]; exact (keep_size (w := w) (g := g) (row := none) (by exact keep_y HK.out)) : w.heap.size ≤ gb295)); have GE295 := Aside0.mk ((Nat.le_trans HW0.out (by rw [hg]; exact (keep_size (w := w) (g := g) (row := none) (by exact keep_y HK.out)) : w.heap.size ≤ gb295) : w0.heap.size ≤ gb295)); replace HK := Aside0.mk (KeepBut.trans (by exact keep_y HK.out) (KeepBut.of_below hb g none) (.inl rfl)); have NB0_295 := Aside0.mk ((by rw [hg]; exact Nat.ne_of_lt (IsS90.lt (show IsS90 w0 _ g s0_0 from by exact IsS90.up HI0.out)) : g ≠ gb295)); have NB295_0 := Aside0.mk ((by rw [hg]; exact Nat.ne_of_gt (IsS90.lt (show IsS90 w0 _ g s0_0 from by exact IsS90.up HI0.out)) : gb295 ≠ g)); replace HI0 := Aside0.mk (IsS90.below (by exact IsS90.up HI0.out) hb); clear hb hbox hg) | ((with_reducible refine gate_callee (f := 33) rfl ?_); refine goesL_ (some 19) rfl rfl Try.func33 (by kernel_rfl) rfl #[.pointer (some ⟨g, 0, none⟩), .int .i64 9] rfl (by (try simp only [List.map_toArray, List.map_cons, List.map_nil]); first | done | rfl | (simp only [List.length_drop, List.length_take]; rfl)) ?_; (with_reducible refine (swarfkit_Feed_Below.calls g s0_0 9 t296 t297 w0 _ ?side1 ?side2 A6.out).mono ?_); (case side1 => exact IsS90.up HI0.out); (case side2 => exact below_y HB.out); rintro e w13 ⟨rfl, hi, hb, hk⟩; refine ⟨_, rfl, ?_⟩; replace BK295 := Aside0.mk (KeepBut.blk hk (blk_x BK295.out) NB295_0.out (by simp)); replace HK := Aside0.mk (KeepBut.trans (by exact keep_y HK.out) hk (.inl rfl)); replace HB := Aside0.mk (hb); replace HI0 := Aside0.mk (hi); (try clear hb); (try clear hk); (try clear hi)) | ((with_reducible refine gate_callee (f := 33) rfl ?_); refine goesL_ (some 21) rfl rfl Try.func33 (by kernel_rfl) rfl #[.pointer (some ⟨g, 0, none⟩), .int .i64 4] rfl (by (try simp only [List.map_toArray, List.map_cons, List.map_nil]); first | done | rfl | (simp only [List.length_drop, List.length_take]; rfl)) ?_; (with_reducible refine (swarfkit_Feed_Below.calls g t297 4 t298 t299 w0 _ ?side1 ?side2 A7.out).mono ?_); (case side1 => exact IsS90.up HI0.out); (case side2 => exact below_y HB.out); rintro e w14 ⟨rfl, hi, hb, hk⟩; refine ⟨_, rfl, ?_⟩; replace BK295 := Aside0.mk (KeepBut.blk hk (blk_x BK295.out) NB295_0.out (by simp)); replace HK := Aside0.mk (KeepBut.trans (by exact keep_y HK.out) hk (.inl rfl)); replace HB := Aside0.mk (hb); replace HI0 := Aside0.mk (hi); (try clear hb); (try clear hk); (try clear hi)) | ((with_reducible refine gate_callee (f := 33) rfl ?_); refine goesL_ (some 24) rfl rfl Try.func33 (by kernel_rfl) rfl #[.pointer (some ⟨g, 0, none⟩), .int .i64 9] rfl (by (try simp only [List.map_toArray, List.map_cons, List.map_nil]); first | done | rfl | (simp only [List.length_drop, List.length_take]; rfl)) ?_; (with_reducible refine (swarfkit_Feed_Below.calls g t299 9 t300 t301 w0 _ ?side1 ?side2 A8.out).mono ?_); (case side1 => exact IsS90.up HI0.out); (case side2 => exact below_y HB.out); rintro e w15 ⟨rfl, hi, hb, hk⟩; refine ⟨_, rfl, ?_⟩; replace BK295 := Aside0.mk (KeepBut.blk hk (blk_x BK295.out) NB295_0.out (by simp)); replace HK := Aside0.mk (KeepBut.trans (by exact keep_y HK.out) hk (.inl rfl)); replace HB := Aside0.mk (hb); replace HI0 := Aside0.mk (hi); (try clear hb); (try clear hk); (try clear hi)) | ((with_reducible refine gate_dst (N := 25) rfl ?_); refine Kd.R_lit (Kd.int .i64) _ 3 ?hg (N := 25) ?hd (xs := ([t300, 40] : List Int)) (inner := [.int .i64 t300, .int .i64 40]) (ok := fun _ => True) (okp := fun _ => True) ?hr ?hp (fun _ hk => hk) trivial (Below.refl _ _) (Nat.le_refl _) (by simp) ?_; (case hd => rfl); (case hg => rfl); (case hr => first | (go_simp; done) | (go_simp; rfl)); (case hp => exact (Reps.one (show Kd.M (Kd.int .i64) _ _ _ t300 [.int .i64 t300] from rfl) (Reps.one (show Kd.M (Kd.int .i64) _ _ _ 40 [.int .i64 40] from rfl) (Reps.none _ _)))); intro v303 w16 ho17 hb hg_ hnew_; clear hg_ hnew_; (first | rw [← Ny302.out] at ho17 | (simp only [Int.reduceToNat] at ho17; rw [← Ny302.out] at ho17)); have HO304 := Aside0.mk (Kd.R_lower ho17 (keep_size (w := w) (g := g) (row := none) (by exact keep_y HK.out))); replace HI0 := Aside0.mk (IsS90.below (by exact IsS90.up HI0.out) hb); replace BK295 := Aside0.mk (blk_below (blk_x BK295.out) hb); replace HK := Aside0.mk (KeepBut.trans (by exact keep_y HK.out) (KeepBut.of_below hb g none) (.inl rfl)); replace HB := bl_x HB hb; clear hb ho17; obtain ⟨Ao18, co18, eo18⟩ := Kd.R_slice HO304.out; subst eo18) | ((with_reducible refine gate_callee (f := 18) rfl ?_); refine goesL_ (some 26) rfl rfl Try.func18 (by kernel_rfl) rfl #[.pointer (some ⟨g, 0, none⟩), .slice Ao18 y302.length co18] rfl (by (try simp only [List.map_toArray, List.map_cons, List.map_nil]); first | done | rfl | (simp only [List.length_drop, List.length_take]; rfl)) ?_; (with_reducible refine (swarfkit_Feed_Either.calls g t301 _ _ y302 t305 t306 w0 _ ?side1 ?side2 ?side3 ?side4 ?side5 A9.out).mono ?_); (case side1 => exact IsS90.up HI0.out); (case side2 => exact below_y HB.out); (case side3 => exact Kd.C_y (Kd.R_reads' HO304.out).2.2); (case side4 => exact (Kd.R_reads' HO304.out).2.1); (case side5 => exact far_slice (IsS90.own_ne HI0.out HO304.out (by decide))); rintro e w19 ⟨rfl, hi, hb, hk⟩; refine ⟨_, rfl, ?_⟩; replace BK295 := Aside0.mk (KeepBut.blk hk (blk_x BK295.out) NB295_0.out (by simp)); replace HO304 := Aside0.mk (Kd.R_mono (Kd.R_keep (IsS90.apart (show IsS90 w0 _ g t301 from by exact IsS90.up HI0.out) (Kd.R_x HO304.out) (by decide)) hk (fun _ h => h.2)) (fun _ h => h.1)); replace HK := Aside0.mk (KeepBut.trans (by exact keep_y HK.out) hk (.inl rfl)); replace HB := Aside0.mk (hb); replace HI0 := Aside0.mk (hi); (try clear hb); (try clear hk); (try clear hi)) | ((with_reducible refine gate_callee (f := 33) rfl ?_); refine goesL_ (some 28) rfl rfl Try.func33 (by kernel_rfl) rfl #[.pointer (some ⟨g, 0, none⟩), .int .i64 9] rfl (by (try simp only [List.map_toArray, List.map_cons, List.map_nil]); first | done | rfl | (simp only [List.length_drop, List.length_take]; rfl)) ?_; (with_reducible refine (swarfkit_Feed_Below.calls g t306 9 t307 t308 w0 _ ?side1 ?side2 A10.out).mono ?_); (case side1 => exact IsS90.up HI0.out); (case side2 => exact below_y HB.out); rintro e w20 ⟨rfl, hi, hb, hk⟩; refine ⟨_, rfl, ?_⟩; replace BK295 := Aside0.mk (KeepBut.blk hk (blk_x BK295.out) NB295_0.out (by simp)); replace HO304 := Aside0.mk (Kd.R_mono (Kd.R_keep (IsS90.apart (show IsS90 w0 _ g t306 from by exact IsS90.up HI0.out) (Kd.R_x HO304.out) (by decide)) hk (fun _ h => h.2)) (fun _ h => h.1)); replace HK := Aside0.mk (KeepBut.trans (by exact keep_y HK.out) hk (.inl rfl)); replace HB := Aside0.mk (hb); replace HI0 := Aside0.mk (hi); (try clear hb); (try clear hk); (try clear hi)) | ((with_reducible refine gate_dst (N := 11) rfl ?_); refine box_event ?hg (N := 11) ?hd (cs := #[.int .i64 0, .int .i64 0, .int .i64 0, .slice none 0 0, .int .i64 0, .slice none 0 0, .slice none 0 0]) (t := 26) ?hr ?_; (case hd => rfl); (case hg => rfl); (case hr => first | (go_simp; done) | (go_simp; rfl)); intro gb309 hg w21 hbox hb; replace HO304 := Aside0.mk (Kd.R_below (Kd.R_x HO304.out) hb); replace HB := bl_x HB hb; have BK309 := Aside0.mk (hbox); have GW309 := Aside0.mk ((by rw [hg]; exact (keep_size (w := w) (g := g) (row := none) (by exact keep_y HK.out)) : w.heap.size ≤ gb309)); have GE309 := Aside0.mk ((Nat.le_trans HW0.out (by rw [hg]; exact (keep_size (w := w) (g := g) (row := none) (by exact keep_y HK.out)) : w.heap.size ≤ gb309) : w0.heap.size ≤ gb309)); replace HK := Aside0.mk (KeepBut.trans (by exact keep_y HK.out) (KeepBut.of_below hb g none) (.inl rfl)); have NB295_309 := Aside0.mk ((by rw [hg]; exact Nat.ne_of_lt (blk_lt (g := gb295) (o := .cells #[.int .i64 0, .int .i64 0, .int .i64 0, .slice none 0 0, .int .i64 0, .slice none 0 0, .slice none 0 0] 26 (0, 0)) (blk_x BK295.out)) : gb295 ≠ gb309)); have NB309_295 := Aside0.mk ((by rw [hg]; exact Nat.ne_of_gt (blk_lt (g := gb295) (o := .cells #[.int .i64 0, .int .i64 0, .int .i64 0, .slice none 0 0, .int .i64 0, .slice none 0 0, .slice none 0 0] 26 (0, 0)) (blk_x BK295.out)) : gb309 ≠ gb295)); replace BK295 := Aside0.mk (blk_below (blk_x BK295.out) hb); have NB0_309 := Aside0.mk ((by rw [hg]; exact Nat.ne_of_lt (IsS90.lt (show IsS90 w0 _ g t308 from by exact IsS90.up HI0.out)) : g ≠ gb309)); have NB309_0 := Aside0.mk ((by rw [hg]; exact Nat.ne_of_gt (IsS90.lt (show IsS90 w0 _ g t308 from by exact IsS90.up HI0.out)) : gb309 ≠ g)); replace HI0 := Aside0.mk (IsS90.below (by exact IsS90.up HI0.out) hb); clear hb hbox hg; have hnb22 := NB309_295.out; have hnc22 := NB295_309.out; have hnb23 := NB309_0.out; have hnc23 := NB0_309.out; obtain ⟨_, _, _, _, _, _, _⟩ := cz7 BK309; have hfz24_0 := blk_frozen BK309.out) | ((with_reducible refine gate_callee (f := 31) rfl ?_); refine goesL_ (some 32) rfl rfl Try.func31 (by kernel_rfl) rfl #[.pointer (some ⟨g, 0, none⟩), .int .i64 1, .int .i64 a1] rfl (by (try simp only [List.map_toArray, List.map_cons, List.map_nil]); first | done | rfl | (simp only [List.length_drop, List.length_take]; rfl)) ?_; (with_reducible refine (swarfkit_Feed_Between.calls g t308 1 a1 t310 t311 w0 _ ?side1 ?side2 A11.out).mono ?_); (case side1 => exact IsS90.up HI0.out); (case side2 => exact below_y HB.out); rintro e w25 ⟨rfl, hi, hb, hk⟩; refine ⟨_, rfl, ?_⟩; replace BK295 := Aside0.mk (KeepBut.blk hk (g' := gb295) (o := .cells #[.int .i64 0, .int .i64 0, .int .i64 0, .slice none 0 0, .int .i64 0, .slice none 0 0, .slice none 0 0] 26 (0, 0)) (blk_w BK295.out) NB295_0.out (by simp)); replace HO304 := Aside0.mk (Kd.R_mono (Kd.R_keep (IsS90.apart (show IsS90 w0 _ g t308 from by exact IsS90.up HI0.out) (by (with_reducible repeat (first | apply Kd.R_alloc | apply Kd.R_drewN | apply Kd.R_drew)); exact (Kd.R_mono (Kd.R_far (p := ⟨gb309, 6, none⟩) (Kd.R_far (p := ⟨gb309, 5, none⟩) (Kd.R_far (p := ⟨gb309, 4, none⟩) (Kd.R_far (p := ⟨gb309, 3, none⟩) (Kd.R_far (p := ⟨gb309, 2, none⟩) (Kd.R_far (p := ⟨gb309, 1, none⟩) (Kd.R_far (p := ⟨gb309, 0, none⟩) (Kd.R_types HO304.out BK309.out (by decide)) (fun _ hk => hk.2) (.int .i64 t296)) (fun _ hk => hk.2) (.int .i64 t298)) (fun _ hk => hk.2) (.int .i64 t305)) (fun _ hk => hk.2) (.slice none 0 0)) (fun _ hk => hk.2) (.int .i64 t307)) (fun _ hk => hk.2) (.slice none 0 0)) (fun _ hk => hk.2) (.slice none 0 0)) (fun _ h_ => h_.1))) (by decide)) hk (fun _ h => h.2)) (fun _ h => h.1)); replace BK309 := Aside0.mk (KeepBut.blk hk (g' := gb309) (o := .cells #[.int .i64 t296, .int .i64 t298, .int .i64 t305, .slice none 0 0, .int .i64 t307, .slice none 0 0, .slice none 0 0] 26 (0, 0)) (by (with_reducible repeat (first | refine blk_drewN ?_ _ | refine blk_drew ?_ | refine blk_alloc ?_ _)); refine blk_put (cs := #[.int .i64 t296, .int .i64 t298, .int .i64 t305, .slice none 0 0, .int .i64 t307, .slice none 0 0, .slice none 0 0]) ?_ 6 _ rfl; (with_reducible repeat (first | refine blk_drewN ?_ _ | refine blk_drew ?_ | refine blk_alloc ?_ _)); refine blk_put (cs := #[.int .i64 t296, .int .i64 t298, .int .i64 t305, .slice none 0 0, .int .i64 t307, .slice none 0 0, .slice none 0 0]) ?_ 5 _ rfl; (with_reducible repeat (first | refine blk_drewN ?_ _ | refine blk_drew ?_ | refine blk_alloc ?_ _)); refine blk_put (cs := #[.int .i64 t296, .int .i64 t298, .int .i64 t305, .slice none 0 0, .int .i64 0, .slice none 0 0, .slice none 0 0]) ?_ 4 _ rfl; (with_reducible repeat (first | refine blk_drewN ?_ _ | refine blk_drew ?_ | refine blk_alloc ?_ _)); refine blk_put (cs := #[.int .i64 t296, .int .i64 t298, .int .i64 t305, .slice none 0 0, .int .i64 0, .slice none 0 0, .slice none 0 0]) ?_ 3 _ rfl; (with_reducible repeat (first | refine blk_drewN ?_ _ | refine blk_drew ?_ | refine blk_alloc ?_ _)); refine blk_put (cs := #[.int .i64 t296, .int .i64 t298, .int .i64 0, .slice none 0 0, .int .i64 0, .slice none 0 0, .slice none 0 0]) ?_ 2 _ rfl; (with_reducible repeat (first | refine blk_drewN ?_ _ | refine blk_drew ?_ | refine blk_alloc ?_ _)); refine blk_put (cs := #[.int .i64 t296, .int .i64 0, .int .i64 0, .slice none 0 0, .int .i64 0, .slice none 0 0, .slice none 0 0]) ?_ 1 _ rfl; (with_reducible repeat (first | refine blk_drewN ?_ _ | refine blk_drew ?_ | refine blk_alloc ?_ _)); refine blk_put (cs := #[.int .i64 0, .int .i64 0, .int .i64 0, .slice none 0 0, .int .i64 0, .slice none 0 0, .slice none 0 0]) ?_ 0 _ rfl; (with_reducible repeat (first | refine blk_drewN ?_ _ | refine blk_drew ?_ | refine blk_alloc ?_ _)); exact BK309.out) NB309_0.out (by simp)); replace HK := Aside0.mk (KeepBut.trans (by exact keep_y HK.out) hk (.inl rfl)); replace HB := Aside0.mk (hb); replace HI0 := Aside0.mk (hi); (try clear hb); (try clear hk); (try clear hi)))
 go_loopg [12] k (fun kq v12 w' => ∃ (x12_1 : Int) (x1000_1 : Int) (x310003_1 : List (S85)) (u310003 : Value), v12 = .int .i64 x12_1 ∧ Aside0 (swarfkit_VoyageOf.l0 kq a2 a3 a4 x12_1 x1000_1 t296 t298 t305 x310003_1 t307 = some (r1, r2, r3, r4, r5, r6, r7, r8)) ∧ Aside0 (kq ≤ k) ∧ Aside0 (Kd.R k85 85 w' w.heap.size (fun _ => True) u310003 x310003_1) ∧ Aside0 (w'.heap[gb295]? = some (.cells #[.int .i64 0, .int .i64 0, .int .i64 0, (.slice none 0 0), .int .i64 0, (.slice none 0 0), (.slice none 0 0)] 26 (0, 0))) ∧ Aside0 (w'.heap[gb309]? = some (.cells #[.int .i64 t296, .int .i64 t298, .int .i64 t305, u310003, .int .i64 t307, (.slice none 0 0), (.slice none 0 0)] 26 (0, 0))) ∧ Aside0 (IsS90 w0 w' g x1000_1) ∧ Aside0 (KeepBut w w' g none) ∧ Aside0 (Below w0.heap.size w0 w'))
 case atStart => exact ⟨(t310), (t311), (([] : List (S85))), (.slice none 0 0), (by first | rfl | (simp; done) | (simp [*]; done)), H', ⟨Nat.le_refl _⟩, ⟨by first | exact Kd.R_nil _ _ _ _ _ | exact Kd.N_nil _ _ _ _ _ | exact Kd.V_nil _ _ _ _ _ | exact Kd.Q_nil _ _ _ _ _ | exact Kd.S_nil _ _ _ _ _⟩, ⟨blk_x BK295.out⟩, ⟨blk_x BK309.out⟩, ⟨by exact IsS90.up HI0.out⟩, ⟨by exact keep_y HK.out⟩, ⟨by exact below_y HB.out⟩⟩
 case round =>
  clear H'
  obtain ⟨x12_1, x1000_1, x310003_1, u310003, rfl, HA, HK1, HO_310003, BK295, BK309, HI0, HK, HB⟩ := hrel
  cases gk with
  | zero => exact absurd HA.out (by simp [swarfkit_VoyageOf.l0])
  | succ k1 =>
   have H := HA.out
   clear HA
   simp only [swarfkit_VoyageOf.l0] at H
   by_cases c26 : x12_1 > 0
   ·
    rw [if_pos c26] at H
    have c26b0 : decide (0 < x12_1) = true := decide_eq_true c26
    clear c26
    replace H := Option.bind_eq_some_iff.mp H
    obtain ⟨⟨t312, t313⟩, A270, H⟩ := H
    try dsimp only at H
    have A27 := Aside0.mk A270
    clear A270
    obtain ⟨y314, hy314⟩ : ∃ y_ : List Int, y_ = (([a4, wrap64 (3 * a4), t312] : List Int)) := ⟨_, rfl⟩
    replace H : ((swarfkit_Feed_Either.f t313 y314).bind fun bt317 => ((swarfkit_Feed_Below.f bt317.2 1500).bind fun bt319 => ((swarfkit_Feed_Below.f bt319.2 1500).bind fun bt321 => (if x310003_1.length < 5864062014805 then (swarfkit_VoyageOf.l0 k1 a2 a3 a4 (wrap64 (x12_1 - 1)) bt321.2 t296 t298 t305 (x310003_1 ++ [(⟨bt317.1, bt319.1, bt321.1⟩ : S85)]) t307) else (none))))) = some (r1, r2, r3, r4, r5, r6, r7, r8) := by first | (rw [hy314]; with_reducible exact H) | (have H2_ := (Option.bind_some _ _).symm.trans H; rw [hy314]; with_reducible exact H2_) | (have H2_ := (Option.bind_some _ _).symm.trans H; with_reducible exact H2_) | with_reducible exact H | (rw [hy314]; exact H) | exact H
    have Ny314 := Aside0.mk hy314
    clear hy314
    replace H := Option.bind_eq_some_iff.mp H
    obtain ⟨⟨t317, t318⟩, A280, H⟩ := H
    try dsimp only at H
    have A28 := Aside0.mk A280
    clear A280
    replace H := Option.bind_eq_some_iff.mp H
    obtain ⟨⟨t319, t320⟩, A290, H⟩ := H
    try dsimp only at H
    have A29 := Aside0.mk A290
    clear A290
    replace H := Option.bind_eq_some_iff.mp H
    obtain ⟨⟨t321, t322⟩, A300, H⟩ := H
    try dsimp only at H
    have A30 := Aside0.mk A300
    clear A300
    by_cases c31 : x310003_1.length < 5864062014805
    ·
     rw [if_pos c31] at H
     have LMc31 := Aside0.mk c31
     clear c31
     obtain ⟨y323, hy323⟩ : ∃ y_ : List (S85), y_ = (x310003_1 ++ [(⟨t317, t319, t321⟩ : S85)]) := ⟨_, rfl⟩
     replace H : (swarfkit_VoyageOf.l0 k1 a2 a3 a4 (wrap64 (x12_1 - 1)) t322 t296 t298 t305 y323 t307) = some (r1, r2, r3, r4, r5, r6, r7, r8) := by first | (rw [hy323]; with_reducible exact H) | (have H2_ := (Option.bind_some _ _).symm.trans H; rw [hy323]; with_reducible exact H2_) | (have H2_ := (Option.bind_some _ _).symm.trans H; with_reducible exact H2_) | with_reducible exact H | (rw [hy323]; exact H) | exact H
     have Ny323 := Aside0.mk hy323
     clear hy323
     have H' := Aside0.mk H
     clear H
     try go_wp2
     replace HO_310003 := Aside0.mk (Kd.R_drew HO_310003.out)
     replace BK295 := Aside0.mk (blk_drew BK295.out)
     replace BK309 := Aside0.mk (blk_drew BK309.out)
     replace HI0 := Aside0.mk (IsS90.drew HI0.out)
     replace HK := Aside0.mk (keep_drew HK.out)
     replace HB := Aside0.mk (below_drew1 HB.out)
     refine start_ (n := 21) (S := fun w' => w'.cell? ⟨gb309, 0, none⟩ = some (.int .i64 t296) ∧ w'.cell? ⟨gb309, 1, none⟩ = some (.int .i64 t298) ∧ w'.cell? ⟨gb309, 2, none⟩ = some (.int .i64 t305) ∧ w'.cell? ⟨gb309, 3, none⟩ = some (u310003) ∧ w'.cell? ⟨gb309, 4, none⟩ = some (.int .i64 t307) ∧ w'.cell? ⟨gb309, 5, none⟩ = some (.slice none 0 0) ∧ w'.cell? ⟨gb309, 6, none⟩ = some (.slice none 0 0)) (ds := [20]) #[false, false, false, false, false, false, false, false, false, false, false, false, false, false, false, false, false, false, false, false, false] (by kernel_rfl) rfl rfl ⟨(blk_cell BK309.out 0).trans rfl, (blk_cell BK309.out 1).trans rfl, (blk_cell BK309.out 2).trans rfl, (blk_cell BK309.out 3).trans rfl, (blk_cell BK309.out 4).trans rfl, (blk_cell BK309.out 5).trans rfl, (blk_cell BK309.out 6).trans rfl⟩ (fun hHeld => ?_); refine with_tabW swarfkit_VoyageOf.tab5 swarfkit_VoyageOf.bits5 (fun HT_ HW_ => ?_)
     generalize wr.drew = w32 at HO_310003 BK295 BK309 HI0 HK HB hHeld ⊢
     refine pure_t 0 (some 37) (bz 21 1) HT_ ?_
     refine pure_t 2 (some 39) (bz 21 5) HT_ ?_
     refine pure_t 3 (some 40) (bz 21 13) HT_ ?_
     refine pure_t 4 (some 41) (bz 21 29) HT_ ?_
     refine pure_t 5 (some 42) (bz 21 61) HT_ ?_
     refine pure_t 6 (some 43) (bz 21 125) HT_ ?_
     refine pure_t 7 (some 44) (bz 21 253) HT_ ?_
     refine pure_t 8 (some 45) (bz 21 509) HT_ ?_
     refine pure_t 12 (some 49) (bz 21 4605) HT_ ?_
     refine pure_t 14 (some 51) (bz 21 20989) HT_ ?_
     refine take_ (i := 1) (N := some 38) (v := ?_) (a' := ?_) (bz 21 20991) rfl rfl (take_ofW HT_.out HW_.out (by kernel_rfl)) (fun _ _ _ h => h) (Or.inl ⟨by rfl, ?_⟩) hHeld ?_ ?_
     rotate_left; (rintro w' ⟨s0, s1, s2, s3, s4, s5, s6⟩; go_simp; with_reducible rfl); rotate_left; (simp only [Act.put, put_x, i64_w, i32_w]; rfl)
     refine one_ (i := 9) (N := some 46) (bz 21 21503) rfl rfl (one_of HT_.out (by kernel_rfl)) (by decide) (fun K hK => ?_)
     refine goes_ Try.func33 (by kernel_rfl) rfl #[.pointer (some ⟨g, 0, none⟩), .int .i64 (wrap64 (3 * a4))] (by rfl) rfl rfl (by (try simp only [List.map_toArray, List.map_cons, List.map_nil]); first | done | rfl | (simp only [List.length_drop, List.length_take]; rfl)) ?_
     with_reducible refine (swarfkit_Feed_Below.calls g x1000_1 (wrap64 (3 * a4)) t312 t313 w0 _ ?side1 ?side2 A27.out).mono ?_
     (case side1 => exact IsS90.up HI0.out)
     (case side2 => exact below_y HB.out)
     rintro e w33 ⟨rfl, hi, hb, hk⟩
     refine ⟨_, rfl, ?_⟩
     replace HO_310003 := Aside0.mk (Kd.R_mono (Kd.R_keep (IsS90.apart (show IsS90 w0 _ g x1000_1 from by exact IsS90.up HI0.out) (Kd.R_x HO_310003.out) (by decide)) hk (fun _ h => h.2)) (fun _ h => h.1))
     replace BK295 := Aside0.mk (KeepBut.blk hk (blk_x BK295.out) NB295_0.out (by simp))
     replace BK309 := Aside0.mk (KeepBut.blk hk (blk_x BK309.out) NB309_0.out (by simp))
     replace HK := Aside0.mk (KeepBut.trans (by exact keep_y HK.out) hk (.inl rfl))
     replace HB := Aside0.mk (hb)
     replace HI0 := Aside0.mk (hi)
     (try clear hb)
     (try clear hb2)
     (try clear hk)
     (try clear hi)
     refine hK.out _ _ ⟨(blk_cell BK309.out 0).trans rfl, (blk_cell BK309.out 1).trans rfl, (blk_cell BK309.out 2).trans rfl, (blk_cell BK309.out 3).trans rfl, (blk_cell BK309.out 4).trans rfl, (blk_cell BK309.out 5).trans rfl, (blk_cell BK309.out 6).trans rfl⟩ (fun hHeld => ?_)
     clear hK K
     refine norm_ (a' := ?_) ?_ ?_; rotate_left; (show Act.put _ (some 46) _ = _; simp only [Act.put, put_x, i64_w, i32_w]; rfl)
     refine one_ (i := 10) (N := some 47) (bz 21 22527) rfl rfl (one_of HT_.out (by kernel_rfl)) (by decide) (fun K hK => ?_)
     refine Kd.R_lit_step (Kd.int .i64) _ 3 ?hg (N := 47) ?hd (xs := ([a4, wrap64 (3 * a4), t312] : List Int)) (inner := [.int .i64 a4, .int .i64 (wrap64 (3 * a4)), .int .i64 t312]) (ok := fun _ => True) (okp := fun _ => True) ?hr ?hp (fun _ hk => hk) trivial (Below.refl _ _) (Nat.le_refl _) (by simp) ?_; (case hd => rfl); (case hg => rfl); (case hr => first | (go_simp; done) | (go_simp; rfl)); (case hp => exact (Reps.one (show Kd.M (Kd.int .i64) _ _ _ a4 [.int .i64 a4] from rfl) (Reps.one (show Kd.M (Kd.int .i64) _ _ _ (wrap64 (3 * a4)) [.int .i64 (wrap64 (3 * a4))] from rfl) (Reps.one (show Kd.M (Kd.int .i64) _ _ _ t312 [.int .i64 t312] from rfl) (Reps.none _ _)))))
     intro v315 w34 ho35 hb hg_ hnew_
     clear hg_ hnew_
     (first | rw [← Ny314.out] at ho35 | (simp only [Int.reduceToNat] at ho35; rw [← Ny314.out] at ho35))
     replace HO_310003 := Aside0.mk (Kd.R_below (Kd.R_x HO_310003.out) hb)
     have HO316 := Aside0.mk (Kd.R_lower ho35 (keep_size (w := w) (g := g) (row := none) (by exact keep_y HK.out)))
     replace BK295 := Aside0.mk (blk_below (blk_x BK295.out) hb)
     replace BK309 := Aside0.mk (blk_below (blk_x BK309.out) hb)
     replace HI0 := Aside0.mk (IsS90.below (by exact IsS90.up HI0.out) hb)
     replace HK := Aside0.mk (KeepBut.trans (by exact keep_y HK.out) (KeepBut.of_below hb g none) (.inl rfl))
     replace HB := bl_x HB hb
     clear hb ho35
     obtain ⟨Ao36, co36, eo36⟩ := Kd.R_slice HO316.out
     (first | subst eo36 | (injection eo36 with f1_ f2_ f3_; have f4_ := f1_.symm; have f5_ := f3_.symm; clear f1_ f2_ f3_; subst f4_; subst f5_))
     refine hK.out _ _ ⟨(blk_cell BK309.out 0).trans rfl, (blk_cell BK309.out 1).trans rfl, (blk_cell BK309.out 2).trans rfl, (blk_cell BK309.out 3).trans rfl, (blk_cell BK309.out 4).trans rfl, (blk_cell BK309.out 5).trans rfl, (blk_cell BK309.out 6).trans rfl⟩ (fun hHeld => ?_)
     clear hK K
     refine norm_ (a' := ?_) ?_ ?_; rotate_left; (show Act.put _ (some 47) _ = _; simp only [Act.put, put_x, i64_w, i32_w]; rfl)
     refine one_ (i := 11) (N := some 48) (bz 21 24575) rfl rfl (one_of HT_.out (by kernel_rfl)) (by decide) (fun K hK => ?_)
     refine goes_ Try.func18 (by kernel_rfl) rfl #[.pointer (some ⟨g, 0, none⟩), .slice Ao36 y314.length co36] (by rfl) rfl rfl (by (try simp only [List.map_toArray, List.map_cons, List.map_nil]); first | done | rfl | (simp only [List.length_drop, List.length_take]; rfl)) ?_
     with_reducible refine (swarfkit_Feed_Either.calls g t313 _ _ y314 t317 t318 w0 _ ?side1 ?side2 ?side3 ?side4 ?side5 A28.out).mono ?_
     (case side1 => exact IsS90.up HI0.out)
     (case side2 => exact below_y HB.out)
     (case side3 => exact Kd.C_y (Kd.R_reads' HO316.out).2.2)
     (case side4 => exact (Kd.R_reads' HO316.out).2.1)
     (case side5 => exact far_slice (IsS90.own_ne HI0.out HO316.out (by decide)))
     rintro e w37 ⟨rfl, hi, hb, hk⟩
     refine ⟨_, rfl, ?_⟩
     replace HO_310003 := Aside0.mk (Kd.R_mono (Kd.R_keep (IsS90.apart (show IsS90 w0 _ g t313 from by exact IsS90.up HI0.out) (Kd.R_x HO_310003.out) (by decide)) hk (fun _ h => h.2)) (fun _ h => h.1))
     replace BK295 := Aside0.mk (KeepBut.blk hk (blk_x BK295.out) NB295_0.out (by simp))
     replace BK309 := Aside0.mk (KeepBut.blk hk (blk_x BK309.out) NB309_0.out (by simp))
     replace HO316 := Aside0.mk (Kd.R_mono (Kd.R_keep (IsS90.apart (show IsS90 w0 _ g t313 from by exact IsS90.up HI0.out) (Kd.R_x HO316.out) (by decide)) hk (fun _ h => h.2)) (fun _ h => h.1))
     replace HK := Aside0.mk (KeepBut.trans (by exact keep_y HK.out) hk (.inl rfl))
     replace HB := Aside0.mk (hb)
     replace HI0 := Aside0.mk (hi)
     (try clear hb)
     (try clear hb2)
     (try clear hk)
     (try clear hi)
     refine hK.out _ _ ⟨(blk_cell BK309.out 0).trans rfl, (blk_cell BK309.out 1).trans rfl, (blk_cell BK309.out 2).trans rfl, (blk_cell BK309.out 3).trans rfl, (blk_cell BK309.out 4).trans rfl, (blk_cell BK309.out 5).trans rfl, (blk_cell BK309.out 6).trans rfl⟩ (fun hHeld => ?_)
     clear hK K
     refine norm_ (a' := ?_) ?_ ?_; rotate_left; (show Act.put _ (some 48) _ = _; simp only [Act.put, put_x, i64_w, i32_w]; rfl)
     refine one_ (i := 13) (N := some 50) (bz 21 32767) rfl rfl (one_of HT_.out (by kernel_rfl)) (by decide) (fun K hK => ?_)
     refine goes_ Try.func33 (by kernel_rfl) rfl #[.pointer (some ⟨g, 0, none⟩), .int .i64 1500] (by rfl) rfl rfl (by (try simp only [List.map_toArray, List.map_cons, List.map_nil]); first | done | rfl | (simp only [List.length_drop, List.length_take]; rfl)) ?_
     with_reducible refine (swarfkit_Feed_Below.calls g t318 1500 t319 t320 w0 _ ?side1 ?side2 A29.out).mono ?_
     (case side1 => exact IsS90.up HI0.out)
     (case side2 => exact below_y HB.out)
     rintro e w38 ⟨rfl, hi, hb, hk⟩
     refine ⟨_, rfl, ?_⟩
     replace HO_310003 := Aside0.mk (Kd.R_mono (Kd.R_keep (IsS90.apart (show IsS90 w0 _ g t318 from by exact IsS90.up HI0.out) (Kd.R_x HO_310003.out) (by decide)) hk (fun _ h => h.2)) (fun _ h => h.1))
     replace BK295 := Aside0.mk (KeepBut.blk hk (blk_x BK295.out) NB295_0.out (by simp))
     replace BK309 := Aside0.mk (KeepBut.blk hk (blk_x BK309.out) NB309_0.out (by simp))
     replace HO316 := Aside0.mk (Kd.R_mono (Kd.R_keep (IsS90.apart (show IsS90 w0 _ g t318 from by exact IsS90.up HI0.out) (Kd.R_x HO316.out) (by decide)) hk (fun _ h => h.2)) (fun _ h => h.1))
     replace HK := Aside0.mk (KeepBut.trans (by exact keep_y HK.out) hk (.inl rfl))
     replace HB := Aside0.mk (hb)
     replace HI0 := Aside0.mk (hi)
     (try clear hb)
     (try clear hb2)
     (try clear hk)
     (try clear hi)
     refine hK.out _ _ ⟨(blk_cell BK309.out 0).trans rfl, (blk_cell BK309.out 1).trans rfl, (blk_cell BK309.out 2).trans rfl, (blk_cell BK309.out 3).trans rfl, (blk_cell BK309.out 4).trans rfl, (blk_cell BK309.out 5).trans rfl, (blk_cell BK309.out 6).trans rfl⟩ (fun hHeld => ?_)
     clear hK K
     refine norm_ (a' := ?_) ?_ ?_; rotate_left; (show Act.put _ (some 50) _ = _; simp only [Act.put, put_x, i64_w, i32_w]; rfl)
     refine one_ (i := 15) (N := some 52) (bz 21 65535) rfl rfl (one_of HT_.out (by kernel_rfl)) (by decide) (fun K hK => ?_)
     refine goes_ Try.func33 (by kernel_rfl) rfl #[.pointer (some ⟨g, 0, none⟩), .int .i64 1500] (by rfl) rfl rfl (by (try simp only [List.map_toArray, List.map_cons, List.map_nil]); first | done | rfl | (simp only [List.length_drop, List.length_take]; rfl)) ?_
     with_reducible refine (swarfkit_Feed_Below.calls g t320 1500 t321 t322 w0 _ ?side1 ?side2 A30.out).mono ?_
     (case side1 => exact IsS90.up HI0.out)
     (case side2 => exact below_y HB.out)
     rintro e w39 ⟨rfl, hi, hb, hk⟩
     refine ⟨_, rfl, ?_⟩
     replace HO_310003 := Aside0.mk (Kd.R_mono (Kd.R_keep (IsS90.apart (show IsS90 w0 _ g t320 from by exact IsS90.up HI0.out) (Kd.R_x HO_310003.out) (by decide)) hk (fun _ h => h.2)) (fun _ h => h.1))
     replace BK295 := Aside0.mk (KeepBut.blk hk (blk_x BK295.out) NB295_0.out (by simp))
     replace BK309 := Aside0.mk (KeepBut.blk hk (blk_x BK309.out) NB309_0.out (by simp))
     replace HO316 := Aside0.mk (Kd.R_mono (Kd.R_keep (IsS90.apart (show IsS90 w0 _ g t320 from by exact IsS90.up HI0.out) (Kd.R_x HO316.out) (by decide)) hk (fun _ h => h.2)) (fun _ h => h.1))
     replace HK := Aside0.mk (KeepBut.trans (by exact keep_y HK.out) hk (.inl rfl))
     replace HB := Aside0.mk (hb)
     replace HI0 := Aside0.mk (hi)
     (try clear hb)
     (try clear hb2)
     (try clear hk)
     (try clear hi)
     refine hK.out _ _ ⟨(blk_cell BK309.out 0).trans rfl, (blk_cell BK309.out 1).trans rfl, (blk_cell BK309.out 2).trans rfl, (blk_cell BK309.out 3).trans rfl, (blk_cell BK309.out 4).trans rfl, (blk_cell BK309.out 5).trans rfl, (blk_cell BK309.out 6).trans rfl⟩ (fun hHeld => ?_)
     clear hK K
     refine norm_ (a' := ?_) ?_ ?_; rotate_left; (show Act.put _ (some 52) _ = _; simp only [Act.put, put_x, i64_w, i32_w]; rfl)
     refine pure_t 16 (some 53) (bz 21 131071) HT_ ?_
     refine one_ (i := 17) (N := some 54) (bz 21 262143) rfl rfl (one_of HT_.out (by kernel_rfl)) (by decide) (fun K hK => ?_)
     refine value_ (w1 := ?_) (v := ?_) (by rfl) rfl ?_ ?_
     rotate_left 2
     ·
      go_simp
      constructor
      ·
       rfl
      ·
       rfl
     refine hK.out _ _ ⟨(blk_cell (blk_alloc BK309.out _) 0).trans rfl, (blk_cell (blk_alloc BK309.out _) 1).trans rfl, (blk_cell (blk_alloc BK309.out _) 2).trans rfl, (blk_cell (blk_alloc BK309.out _) 3).trans rfl, (blk_cell (blk_alloc BK309.out _) 4).trans rfl, (blk_cell (blk_alloc BK309.out _) 5).trans rfl, (blk_cell (blk_alloc BK309.out _) 6).trans rfl⟩ (fun hHeld => ?_)
     clear hK K
     refine norm_ (a' := ?_) ?_ ?_; rotate_left; (show Act.put _ (some 54) _ = _; simp only [Act.put, put_x, i64_w, i32_w]; rfl)
     refine one_ (i := 18) (N := some 55) (bz 21 524287) rfl rfl (one_of HT_.out (by kernel_rfl)) (by decide) (fun K hK => ?_)
     refine Kd.R_append_step k85 w.heap.size (by rfl) (.tmp 38) (.tmp 54) 22 85 (.agg #[(.int .i64 0), (.int .i64 0), (.int .i64 0)]) 24 rfl Try.underlying22 info85 rfl (by decide) (by omega) u310003 x310003_1 (⟨t317, t319, t321⟩ : S85) [.int .i64 t317, .int .i64 t319, .int .i64 t321] (fun _ => True) (fun _ => False) rfl rfl ?aP (fun _ hk => hk.elim) ?aF ?aO (Below.refl _ _) ?aS ?aL ?_
     (case aP => exact k85_mkM _ _ _ (⟨t317, t319, t321⟩ : S85))
     (case aF => exact (fun _ _ => trivial))
     (case aO => exact (Kd.R_x HO_310003.out))
     (case aS => exact (keep_size (w := w) (g := g) (row := none) (by exact keep_y HK.out)))
     (case aL => have := LMc31.out; omega)
     intro v324 w40 ho hb hg hat
     rw [← Ny323.out] at ho
     replace BK295 := Aside0.mk (blk_grown (blk_x BK295.out) hg (Kd.R_ne HO_310003.out BK295.out (by decide)))
     replace BK309 := Aside0.mk (blk_grown (blk_x BK309.out) hg (Kd.R_ne HO_310003.out BK309.out (by decide)))
     replace HI0 := Aside0.mk (IsS90.grown (by exact IsS90.up HI0.out) hg (IsS90.own_ne HI0.out HO_310003.out (by decide)))
     replace HO316 := Aside0.mk (Kd.R_over' (Kd.R_x HO316.out) (Kd.R_typed (Kd.R_x HO_310003.out)) (by decide) hg)
     replace HB := Aside0.mk (below_weaken (by exact below_y HB.out) HL.out hb)
     replace HK := Aside0.mk (KeepBut.trans (by exact keep_y HK.out) (KeepBut.of_grown hg g) (Kd.R_base2 HO_310003.out))
     have HO325 := Aside0.mk (ho)
     clear HO_310003 ho hb hg hat
     obtain ⟨Ao41, co41, eo41⟩ := Kd.R_slice HO325.out
     (first | subst eo41 | (injection eo41 with f1_ f2_ f3_; have f4_ := f1_.symm; have f5_ := f3_.symm; clear f1_ f2_ f3_; subst f4_; subst f5_))
     refine hK.out _ _ ⟨(blk_cell BK309.out 0).trans rfl, (blk_cell BK309.out 1).trans rfl, (blk_cell BK309.out 2).trans rfl, (blk_cell BK309.out 3).trans rfl, (blk_cell BK309.out 4).trans rfl, (blk_cell BK309.out 5).trans rfl, (blk_cell BK309.out 6).trans rfl⟩ (fun hHeld => ?_)
     clear hK K
     refine norm_ (a' := ?_) ?_ ?_; rotate_left; (show Act.put _ (some 55) _ = _; simp only [Act.put, put_x, i64_w, i32_w]; rfl)
     refine pure_t 19 (some 56) (bz 21 1048575) HT_ ?_
     refine last_ (i := 20) (N := none) (bz 21 2097151) rfl rfl (one_of HT_.out (by kernel_rfl)) (by decide) (fun K hK => ?_)
     have hs42 : w40.cell? ⟨gb309, 3, none⟩ = some (u310003) := (blk_cell BK309.out 3).trans rfl
     have hfs42 := blk_frozen BK309.out 3
     have hns42_0 := NB295_309.out
     have hms42_0 := NB309_295.out
     refine skip_ (w1 := ?_) (by rfl) rfl ?_ ?_
     rotate_left
     ·
      go_simp
      rfl
     refine hK.out _ _ ?_
     clear hK K
     refine done_ (done_of HT_.out (by kernel_rfl)) ?_
     try go_wp2
     go_roundg k1
     case measure => have := HK1.out; omega
     case rel => exact ⟨(wrap64 (x12_1 - 1)), (t322), (y323), (.slice Ao41 y323.length co41), (by first | rfl | (simp; done) | (simp [*]; done)), H', ⟨by have := HK1.out; omega⟩, ⟨by (with_reducible repeat (first | apply Kd.R_alloc | apply Kd.R_drewN | apply Kd.R_drew)); exact Kd.R_mono (Kd.R_far (p := ⟨gb309, 3, none⟩) (Kd.R_types HO325.out BK309.out (by decide)) (fun _ hk => hk.2) (.slice Ao41 y323.length co41)) (fun _ hk => trivial)⟩, ⟨blk_w BK295.out⟩, ⟨by (with_reducible repeat (first | refine blk_drewN ?_ _ | refine blk_drew ?_ | refine blk_alloc ?_ _)); refine blk_put (cs := #[.int .i64 t296, .int .i64 t298, .int .i64 t305, u310003, .int .i64 t307, .slice none 0 0, .slice none 0 0]) ?_ 3 _ rfl; (with_reducible repeat (first | refine blk_drewN ?_ _ | refine blk_drew ?_ | refine blk_alloc ?_ _)); exact BK309.out⟩, ⟨by exact IsS90.up HI0.out⟩, ⟨by exact keep_y HK.out⟩, ⟨by exact below_y HB.out⟩⟩
    ·
     rw [if_neg c31] at H
     exact absurd H (by simp)
   ·
    rw [if_neg c26] at H
    have c26b0 : decide (0 < x12_1) = false := decide_eq_false c26
    clear c26
    replace H := Option.bind_eq_some_iff.mp H
    obtain ⟨⟨t326, t327⟩, A430, H⟩ := H
    try dsimp only at H
    have A43 := Aside0.mk A430
    clear A430
    have H' := Aside0.mk H
    clear H
    go_wp2_with (first | ((with_reducible refine gate_callee (f := 33) rfl ?_); refine goesL_ (some 60) rfl rfl Try.func33 (by kernel_rfl) rfl #[.pointer (some ⟨g, 0, none⟩), .int .i64 (wrap64 (a2 + 1))] rfl (by (try simp only [List.map_toArray, List.map_cons, List.map_nil]); first | done | rfl | (simp only [List.length_drop, List.length_take]; rfl)) ?_; (with_reducible refine (swarfkit_Feed_Below.calls g x1000_1 (wrap64 (a2 + 1)) t326 t327 w0 _ ?side1 ?side2 A43.out).mono ?_); (case side1 => exact IsS90.up HI0.out); (case side2 => exact below_y HB.out); rintro e w44 ⟨rfl, hi, hb, hk⟩; refine ⟨_, rfl, ?_⟩; replace HO_310003 := Aside0.mk (Kd.R_mono (Kd.R_keep (IsS90.apart (show IsS90 w0 _ g x1000_1 from by exact IsS90.up HI0.out) (Kd.R_x HO_310003.out) (by decide)) hk (fun _ h => h.2)) (fun _ h => h.1)); replace BK295 := Aside0.mk (KeepBut.blk hk (blk_x BK295.out) NB295_0.out (by simp)); replace BK309 := Aside0.mk (KeepBut.blk hk (blk_x BK309.out) NB309_0.out (by simp)); replace HK := Aside0.mk (KeepBut.trans (by exact keep_y HK.out) hk (.inl rfl)); replace HB := Aside0.mk (hb); replace HI0 := Aside0.mk (hi); (try clear hb); (try clear hk); (try clear hi)))
    go_loopg [13] k1 (fun kq v13 w' => ∃ (x13_2 : Int) (x1000_2 : Int) (x310005_2 : List (S59)) (u310005 : Value), v13 = .int .i64 x13_2 ∧ Aside0 (swarfkit_VoyageOf.l1 kq a3 a4 x13_2 x1000_2 t296 t298 t305 x310003_1 t307 x310005_2 = some (r1, r2, r3, r4, r5, r6, r7, r8)) ∧ Aside0 (kq ≤ k1) ∧ Aside0 (Kd.R k85 85 w' w.heap.size (fun _ => True) u310003 x310003_1) ∧ Aside0 (Kd.S k59 59 w' w.heap.size (fun _ => True) u310005 x310005_2) ∧ Aside0 (w'.heap[gb295]? = some (.cells #[.int .i64 0, .int .i64 0, .int .i64 0, (.slice none 0 0), .int .i64 0, (.slice none 0 0), (.slice none 0 0)] 26 (0, 0))) ∧ Aside0 (w'.heap[gb309]? = some (.cells #[.int .i64 t296, .int .i64 t298, .int .i64 t305, u310003, .int .i64 t307, u310005, (.slice none 0 0)] 26 (0, 0))) ∧ Aside0 (IsS90 w0 w' g x1000_2) ∧ Aside0 (KeepBut w w' g none) ∧ Aside0 (Below w0.heap.size w0 w'))
    case atStart => exact ⟨(t326), (t327), (([] : List (S59))), (.slice none 0 0), (by first | rfl | (simp; done) | (simp [*]; done)), H', ⟨Nat.le_refl _⟩, ⟨by (with_reducible repeat (first | apply Kd.R_alloc | apply Kd.R_drewN | apply Kd.R_drew)); exact HO_310003.out⟩, ⟨by first | exact Kd.S_nil _ _ _ _ _ | exact Kd.N_nil _ _ _ _ _ | exact Kd.V_nil _ _ _ _ _ | exact Kd.Q_nil _ _ _ _ _ | exact Kd.R_nil _ _ _ _ _⟩, ⟨blk_x BK295.out⟩, ⟨blk_x BK309.out⟩, ⟨by exact IsS90.up HI0.out⟩, ⟨by exact keep_y HK.out⟩, ⟨by exact below_y HB.out⟩⟩
    case round =>
     clear H'
     obtain ⟨x13_2, x1000_2, x310005_2, u310005, rfl, HA, HK2, HO_310003, HO_310005, BK295, BK309, HI0, HK, HB⟩ := hrel
     cases gk with
     | zero => exact absurd HA.out (by simp [swarfkit_VoyageOf.l1])
     | succ k2 =>
      have H := HA.out
      clear HA
      simp only [swarfkit_VoyageOf.l1] at H
      by_cases c45 : x13_2 > 0
      ·
       rw [if_pos c45] at H
       have c45b0 : decide (0 < x13_2) = true := decide_eq_true c45
       clear c45
       obtain ⟨y328, hy328⟩ : ∃ y_ : List Int, y_ = (([3, 12] : List Int)) := ⟨_, rfl⟩
       replace H : ((swarfkit_Feed_Either.f x1000_2 y328).bind fun bt331 => ((swarfkit_Feed_Range.f bt331.2 0 bt331.1).bind fun bt333 => ((swarfkit_Feed_Between.f bt333.2.2 1 4).bind fun bt337 => (swarfkit_VoyageOf.l2 k2 a3 a4 x13_2 0 bt337.1 bt337.2 t296 t298 t305 x310003_1 t307 x310005_2 bt333.1 bt333.2.1 ([] : List (S62)))))) = some (r1, r2, r3, r4, r5, r6, r7, r8) := by first | (rw [hy328]; with_reducible exact H) | (have H2_ := (Option.bind_some _ _).symm.trans H; rw [hy328]; with_reducible exact H2_) | (have H2_ := (Option.bind_some _ _).symm.trans H; with_reducible exact H2_) | with_reducible exact H | (rw [hy328]; exact H) | exact H
       have Ny328 := Aside0.mk hy328
       clear hy328
       replace H := Option.bind_eq_some_iff.mp H
       obtain ⟨⟨t331, t332⟩, A460, H⟩ := H
       try dsimp only at H
       have A46 := Aside0.mk A460
       clear A460
       replace H := Option.bind_eq_some_iff.mp H
       obtain ⟨⟨t333, t334, t335⟩, A470, H⟩ := H
       try dsimp only at H
       have A47 := Aside0.mk A470
       clear A470
       replace H := Option.bind_eq_some_iff.mp H
       obtain ⟨⟨t337, t338⟩, A480, H⟩ := H
       try dsimp only at H
       have A48 := Aside0.mk A480
       clear A480
       have H' := Aside0.mk H
       clear H
       go_wp2_with (first | ((with_reducible refine gate_dst (N := 67) rfl ?_); refine Kd.R_lit (Kd.int .i64) _ 3 ?hg (N := 67) ?hd (xs := ([3, 12] : List Int)) (inner := [.int .i64 3, .int .i64 12]) (ok := fun _ => True) (okp := fun _ => True) ?hr ?hp (fun _ hk => hk) trivial (Below.refl _ _) (Nat.le_refl _) (by simp) ?_; (case hd => rfl); (case hg => rfl); (case hr => first | (go_simp; done) | (go_simp; rfl)); (case hp => exact (Reps.one (show Kd.M (Kd.int .i64) _ _ _ 3 [.int .i64 3] from rfl) (Reps.one (show Kd.M (Kd.int .i64) _ _ _ 12 [.int .i64 12] from rfl) (Reps.none _ _)))); intro v329 w49 ho50 hb hg_ hnew_; clear hg_ hnew_; (first | rw [← Ny328.out] at ho50 | (simp only [Int.reduceToNat] at ho50; rw [← Ny328.out] at ho50)); replace HO_310003 := Aside0.mk (Kd.R_below (Kd.R_x HO_310003.out) hb); replace HO_310005 := Aside0.mk (Kd.S_below (Kd.S_x HO_310005.out) hb); have HO330 := Aside0.mk (Kd.R_lower ho50 (keep_size (w := w) (g := g) (row := none) (by exact keep_y HK.out))); replace BK295 := Aside0.mk (blk_below (blk_x BK295.out) hb); replace BK309 := Aside0.mk (blk_below (blk_x BK309.out) hb); replace HI0 := Aside0.mk (IsS90.below (by exact IsS90.up HI0.out) hb); replace HK := Aside0.mk (KeepBut.trans (by exact keep_y HK.out) (KeepBut.of_below hb g none) (.inl rfl)); replace HB := bl_x HB hb; clear hb ho50; obtain ⟨Ao51, co51, eo51⟩ := Kd.R_slice HO330.out; subst eo51) | ((with_reducible refine gate_callee (f := 18) rfl ?_); refine goesL_ (some 68) rfl rfl Try.func18 (by kernel_rfl) rfl #[.pointer (some ⟨g, 0, none⟩), .slice Ao51 y328.length co51] rfl (by (try simp only [List.map_toArray, List.map_cons, List.map_nil]); first | done | rfl | (simp only [List.length_drop, List.length_take]; rfl)) ?_; (with_reducible refine (swarfkit_Feed_Either.calls g x1000_2 _ _ y328 t331 t332 w0 _ ?side1 ?side2 ?side3 ?side4 ?side5 A46.out).mono ?_); (case side1 => exact IsS90.up HI0.out); (case side2 => exact below_y HB.out); (case side3 => exact Kd.C_y (Kd.R_reads' HO330.out).2.2); (case side4 => exact (Kd.R_reads' HO330.out).2.1); (case side5 => exact far_slice (IsS90.own_ne HI0.out HO330.out (by decide))); rintro e w52 ⟨rfl, hi, hb, hk⟩; refine ⟨_, rfl, ?_⟩; replace HO_310003 := Aside0.mk (Kd.R_mono (Kd.R_keep (IsS90.apart (show IsS90 w0 _ g x1000_2 from by exact IsS90.up HI0.out) (Kd.R_x HO_310003.out) (by decide)) hk (fun _ h => h.2)) (fun _ h => h.1)); replace HO_310005 := Aside0.mk (Kd.S_mono (Kd.S_keep (IsS90.apartS (show IsS90 w0 _ g x1000_2 from by exact IsS90.up HI0.out) (Kd.S_x HO_310005.out) (by decide)) hk (fun _ h => h.2)) (fun _ h => h.1)); replace BK295 := Aside0.mk (KeepBut.blk hk (blk_x BK295.out) NB295_0.out (by simp)); replace BK309 := Aside0.mk (KeepBut.blk hk (blk_x BK309.out) NB309_0.out (by simp)); replace HO330 := Aside0.mk (Kd.R_mono (Kd.R_keep (IsS90.apart (show IsS90 w0 _ g x1000_2 from by exact IsS90.up HI0.out) (Kd.R_x HO330.out) (by decide)) hk (fun _ h => h.2)) (fun _ h => h.1)); replace HK := Aside0.mk (KeepBut.trans (by exact keep_y HK.out) hk (.inl rfl)); replace HB := Aside0.mk (hb); replace HI0 := Aside0.mk (hi); (try clear hb); (try clear hk); (try clear hi)) | ((with_reducible refine gate_callee (f := 54) rfl ?_); refine goesL_ (some 69) rfl rfl Try.func54 (by kernel_rfl) rfl #[.pointer (some ⟨g, 0, none⟩), .int .i64 0, .int .i64 t331] rfl (by (try simp only [List.map_toArray, List.map_cons, List.map_nil]); first | done | rfl | (simp only [List.length_drop, List.length_take]; rfl)) ?_; (with_reducible refine (swarfkit_Feed_Range.calls g t332 0 t331 t333 t334 t335 w0 _ ?side1 ?side2 A47.out).mono ?_); (case side1 => exact IsS90.up HI0.out); (case side2 => exact below_y HB.out); rintro e w53 ⟨rfl, hi, hb, hk⟩; refine ⟨_, rfl, ?_⟩; replace HO_310003 := Aside0.mk (Kd.R_mono (Kd.R_keep (IsS90.apart (show IsS90 w0 _ g t332 from by exact IsS90.up HI0.out) (Kd.R_x HO_310003.out) (by decide)) hk (fun _ h => h.2)) (fun _ h => h.1)); replace HO_310005 := Aside0.mk (Kd.S_mono (Kd.S_keep (IsS90.apartS (show IsS90 w0 _ g t332 from by exact IsS90.up HI0.out) (Kd.S_x HO_310005.out) (by decide)) hk (fun _ h => h.2)) (fun _ h => h.1)); replace BK295 := Aside0.mk (KeepBut.blk hk (blk_x BK295.out) NB295_0.out (by simp)); replace BK309 := Aside0.mk (KeepBut.blk hk (blk_x BK309.out) NB309_0.out (by simp)); replace HO330 := Aside0.mk (Kd.R_mono (Kd.R_keep (IsS90.apart (show IsS90 w0 _ g t332 from by exact IsS90.up HI0.out) (Kd.R_x HO330.out) (by decide)) hk (fun _ h => h.2)) (fun _ h => h.1)); replace HK := Aside0.mk (KeepBut.trans (by exact keep_y HK.out) hk (.inl rfl)); replace HB := Aside0.mk (hb); replace HI0 := Aside0.mk (hi); (try clear hb); (try clear hk); (try clear hi)) | ((with_reducible refine gate_dst (N := 14) rfl ?_); refine box_event ?hg (N := 14) ?hd (cs := #[.int .i64 0, .int .i64 0, .slice none 0 0]) (t := 59) ?hr ?_; (case hd => rfl); (case hg => rfl); (case hr => first | (go_simp; done) | (go_simp; rfl)); intro gb336 hg w54 hbox hb; replace HO_310003 := Aside0.mk (Kd.R_below (Kd.R_x HO_310003.out) hb); replace HO_310005 := Aside0.mk (Kd.S_below (Kd.S_elderB (Kd.S_x HO_310005.out) gb336 (Nat.le_of_eq hg.symm)) hb); replace HO330 := Aside0.mk (Kd.R_below (Kd.R_x HO330.out) hb); replace HB := bl_x HB hb; have BK336 := Aside0.mk (hbox); have GW336 := Aside0.mk ((by rw [hg]; exact (keep_size (w := w) (g := g) (row := none) (by exact keep_y HK.out)) : w.heap.size ≤ gb336)); have GE336 := Aside0.mk ((Nat.le_trans HW0.out (by rw [hg]; exact (keep_size (w := w) (g := g) (row := none) (by exact keep_y HK.out)) : w.heap.size ≤ gb336) : w0.heap.size ≤ gb336)); replace HK := Aside0.mk (KeepBut.trans (by exact keep_y HK.out) (KeepBut.of_below hb g none) (.inl rfl)); have NB295_336 := Aside0.mk ((by rw [hg]; exact Nat.ne_of_lt (blk_lt (g := gb295) (o := .cells #[.int .i64 0, .int .i64 0, .int .i64 0, .slice none 0 0, .int .i64 0, .slice none 0 0, .slice none 0 0] 26 (0, 0)) (blk_x BK295.out)) : gb295 ≠ gb336)); have NB336_295 := Aside0.mk ((by rw [hg]; exact Nat.ne_of_gt (blk_lt (g := gb295) (o := .cells #[.int .i64 0, .int .i64 0, .int .i64 0, .slice none 0 0, .int .i64 0, .slice none 0 0, .slice none 0 0] 26 (0, 0)) (blk_x BK295.out)) : gb336 ≠ gb295)); replace BK295 := Aside0.mk (blk_below (blk_x BK295.out) hb); have NB309_336 := Aside0.mk ((by rw [hg]; exact Nat.ne_of_lt (blk_lt (g := gb309) (o := .cells #[.int .i64 t296, .int .i64 t298, .int .i64 t305, u310003, .int .i64 t307, u310005, .slice none 0 0] 26 (0, 0)) (blk_x BK309.out)) : gb309 ≠ gb336)); have NB336_309 := Aside0.mk ((by rw [hg]; exact Nat.ne_of_gt (blk_lt (g := gb309) (o := .cells #[.int .i64 t296, .int .i64 t298, .int .i64 t305, u310003, .int .i64 t307, u310005, .slice none 0 0] 26 (0, 0)) (blk_x BK309.out)) : gb336 ≠ gb309)); replace BK309 := Aside0.mk (blk_below (blk_x BK309.out) hb); have NB0_336 := Aside0.mk ((by rw [hg]; exact Nat.ne_of_lt (IsS90.lt (show IsS90 w0 _ g t335 from by exact IsS90.up HI0.out)) : g ≠ gb336)); have NB336_0 := Aside0.mk ((by rw [hg]; exact Nat.ne_of_gt (IsS90.lt (show IsS90 w0 _ g t335 from by exact IsS90.up HI0.out)) : gb336 ≠ g)); replace HI0 := Aside0.mk (IsS90.below (by exact IsS90.up HI0.out) hb); clear hb hbox hg; have hnb55 := NB336_295.out; have hnc55 := NB295_336.out; have hnb56 := NB336_309.out; have hnc56 := NB309_336.out; have hnb57 := NB336_0.out; have hnc57 := NB0_336.out; obtain ⟨_, _, _⟩ := cz3 BK336; have hfz58_0 := blk_frozen BK336.out) | ((with_reducible refine gate_callee (f := 31) rfl ?_); refine goesL_ (some 72) rfl rfl Try.func31 (by kernel_rfl) rfl #[.pointer (some ⟨g, 0, none⟩), .int .i64 1, .int .i64 4] rfl (by (try simp only [List.map_toArray, List.map_cons, List.map_nil]); first | done | rfl | (simp only [List.length_drop, List.length_take]; rfl)) ?_; (with_reducible refine (swarfkit_Feed_Between.calls g t335 1 4 t337 t338 w0 _ ?side1 ?side2 A48.out).mono ?_); (case side1 => exact IsS90.up HI0.out); (case side2 => exact below_y HB.out); rintro e w59 ⟨rfl, hi, hb, hk⟩; refine ⟨_, rfl, ?_⟩; replace HO_310003 := Aside0.mk (Kd.R_mono (Kd.R_keep (IsS90.apart (show IsS90 w0 _ g t335 from by exact IsS90.up HI0.out) (by (with_reducible repeat (first | apply Kd.R_alloc | apply Kd.R_drewN | apply Kd.R_drew)); exact (Kd.R_mono (Kd.R_far (p := ⟨gb336, 2, none⟩) (Kd.R_far (p := ⟨gb336, 1, none⟩) (Kd.R_far (p := ⟨gb336, 0, none⟩) (Kd.R_types HO_310003.out BK336.out (by decide)) (fun _ hk => hk.2) (.int .i64 t333)) (fun _ hk => hk.2) (.int .i64 t334)) (fun _ hk => hk.2) (.slice none 0 0)) (fun _ h_ => h_.1))) (by decide)) hk (fun _ h => h.2)) (fun _ h => h.1)); replace HO_310005 := Aside0.mk (Kd.S_mono (Kd.S_keep (IsS90.apartS (show IsS90 w0 _ g t335 from by exact IsS90.up HI0.out) (by (with_reducible repeat (first | apply Kd.S_alloc | apply Kd.S_drewN | apply Kd.S_drew)); exact (Kd.S_mono (Kd.S_far (p := ⟨gb336, 2, none⟩) (Kd.S_far (p := ⟨gb336, 1, none⟩) (Kd.S_far (p := ⟨gb336, 0, none⟩) (Kd.S_mono HO_310005.out (fun k_ hk => (⟨hk, hk.2⟩ : _ ∧ k_ ≠ gb336))) (fun _ hk => hk.2) (.int .i64 t333)) (fun _ hk => hk.2) (.int .i64 t334)) (fun _ hk => hk.2) (.slice none 0 0)) (fun _ h_ => h_.1))) (by decide)) hk (fun _ h => h.2)) (fun _ h => h.1)); replace BK295 := Aside0.mk (KeepBut.blk hk (g' := gb295) (o := .cells #[.int .i64 0, .int .i64 0, .int .i64 0, .slice none 0 0, .int .i64 0, .slice none 0 0, .slice none 0 0] 26 (0, 0)) (blk_w BK295.out) NB295_0.out (by simp)); replace BK309 := Aside0.mk (KeepBut.blk hk (g' := gb309) (o := .cells #[.int .i64 t296, .int .i64 t298, .int .i64 t305, u310003, .int .i64 t307, u310005, .slice none 0 0] 26 (0, 0)) (blk_w BK309.out) NB309_0.out (by simp)); replace HO330 := Aside0.mk (Kd.R_mono (Kd.R_keep (IsS90.apart (show IsS90 w0 _ g t335 from by exact IsS90.up HI0.out) (by (with_reducible repeat (first | apply Kd.R_alloc | apply Kd.R_drewN | apply Kd.R_drew)); exact (Kd.R_mono (Kd.R_far (p := ⟨gb336, 2, none⟩) (Kd.R_far (p := ⟨gb336, 1, none⟩) (Kd.R_far (p := ⟨gb336, 0, none⟩) (Kd.R_types HO330.out BK336.out (by decide)) (fun _ hk => hk.2) (.int .i64 t333)) (fun _ hk => hk.2) (.int .i64 t334)) (fun _ hk => hk.2) (.slice none 0 0)) (fun _ h_ => h_.1))) (by decide)) hk (fun _ h => h.2)) (fun _ h => h.1)); replace BK336 := Aside0.mk (KeepBut.blk hk (g' := gb336) (o := .cells #[.int .i64 t333, .int .i64 t334, .slice none 0 0] 59 (0, 0)) (by (with_reducible repeat (first | refine blk_drewN ?_ _ | refine blk_drew ?_ | refine blk_alloc ?_ _)); refine blk_put (cs := #[.int .i64 t333, .int .i64 t334, .slice none 0 0]) ?_ 2 _ rfl; (with_reducible repeat (first | refine blk_drewN ?_ _ | refine blk_drew ?_ | refine blk_alloc ?_ _)); refine blk_put (cs := #[.int .i64 t333, .int .i64 0, .slice none 0 0]) ?_ 1 _ rfl; (with_reducible repeat (first | refine blk_drewN ?_ _ | refine blk_drew ?_ | refine blk_alloc ?_ _)); refine blk_put (cs := #[.int .i64 0, .int .i64 0, .slice none 0 0]) ?_ 0 _ rfl; (with_reducible repeat (first | refine blk_drewN ?_ _ | refine blk_drew ?_ | refine blk_alloc ?_ _)); exact BK336.out) NB336_0.out (by simp)); replace HK := Aside0.mk (KeepBut.trans (by exact keep_y HK.out) hk (.inl rfl)); replace HB := Aside0.mk (hb); replace HI0 := Aside0.mk (hi); (try clear hb); (try clear hk); (try clear hi)))
       go_loopg [15, 16] k2 (fun kq v15 v16 w' => ∃ (x15_3 : Int) (x16_3 : Int) (x1000_3 : Int) (x337002_3 : List (S62)) (u337002 : Value), v15 = .int .i64 x15_3 ∧ v16 = .int .i64 x16_3 ∧ Aside0 (swarfkit_VoyageOf.l2 kq a3 a4 x13_2 x15_3 x16_3 x1000_3 t296 t298 t305 x310003_1 t307 x310005_2 t333 t334 x337002_3 = some (r1, r2, r3, r4, r5, r6, r7, r8)) ∧ Aside0 (kq ≤ k2) ∧ Aside0 (Kd.R k85 85 w' w.heap.size (fun _ => True) u310003 x310003_1) ∧ Aside0 (Kd.S k59 59 w' w.heap.size (fun k_ => some k_ ≠ (u337002 : Value).ownBlock ∧ k_ ≠ gb336) u310005 x310005_2) ∧ Aside0 (Kd.R k62 62 w' w.heap.size (fun _ => True) u337002 x337002_3) ∧ Aside0 (w'.heap[gb295]? = some (.cells #[.int .i64 0, .int .i64 0, .int .i64 0, (.slice none 0 0), .int .i64 0, (.slice none 0 0), (.slice none 0 0)] 26 (0, 0))) ∧ Aside0 (w'.heap[gb309]? = some (.cells #[.int .i64 t296, .int .i64 t298, .int .i64 t305, u310003, .int .i64 t307, u310005, (.slice none 0 0)] 26 (0, 0))) ∧ Aside0 (w'.heap[gb336]? = some (.cells #[.int .i64 t333, .int .i64 t334, u337002] 59 (0, 0))) ∧ Aside0 (IsS90 w0 w' g x1000_3) ∧ Aside0 (KeepBut w w' g none) ∧ Aside0 (Below w0.heap.size w0 w'))
       case atStart => exact ⟨(0), (t337), (t338), (([] : List (S62))), (.slice none 0 0), (by first | rfl | (simp; done) | (simp [*]; done)), (by first | rfl | (simp; done) | (simp [*]; done)), H', ⟨Nat.le_refl _⟩, ⟨by (with_reducible repeat (first | apply Kd.R_alloc | apply Kd.R_drewN | apply Kd.R_drew)); exact HO_310003.out⟩, ⟨by (with_reducible repeat (first | apply Kd.S_alloc | apply Kd.S_drewN | apply Kd.S_drew)); exact Kd.S_mono HO_310005.out (fun _ hk => ⟨(by simp [Value.ownBlock]), hk.2⟩)⟩, ⟨by first | exact Kd.R_nil _ _ _ _ _ | exact Kd.N_nil _ _ _ _ _ | exact Kd.V_nil _ _ _ _ _ | exact Kd.Q_nil _ _ _ _ _ | exact Kd.S_nil _ _ _ _ _⟩, ⟨blk_x BK295.out⟩, ⟨blk_x BK309.out⟩, ⟨blk_x BK336.out⟩, ⟨by exact IsS90.up HI0.out⟩, ⟨by exact keep_y HK.out⟩, ⟨by exact below_y HB.out⟩⟩
       case round =>
        clear H'
        obtain ⟨x15_3, x16_3, x1000_3, x337002_3, u337002, rfl, rfl, HA, HK3, HO_310003, HO_310005, HO_337002, BK295, BK309, BK336, HI0, HK, HB⟩ := hrel
        cases gk with
        | zero => exact absurd HA.out (by simp [swarfkit_VoyageOf.l2])
        | succ k3 =>
         have H := HA.out
         clear HA
         simp only [swarfkit_VoyageOf.l2] at H
         by_cases c60 : x16_3 > 0
         ·
          rw [if_pos c60] at H
          have c60b0 : decide (0 < x16_3) = true := decide_eq_true c60
          clear c60
          replace H := Option.bind_eq_some_iff.mp H
          obtain ⟨⟨t339, t340⟩, A610, H⟩ := H
          try dsimp only at H
          have A61 := Aside0.mk A610
          clear A610
          replace H := Option.bind_eq_some_iff.mp H
          obtain ⟨⟨t341, t342, t343⟩, A620, H⟩ := H
          try dsimp only at H
          have A62 := Aside0.mk A620
          clear A620
          by_cases c63 : x337002_3.length < 5864062014805
          ·
           rw [if_pos c63] at H
           have LMc63 := Aside0.mk c63
           clear c63
           obtain ⟨y344, hy344⟩ : ∃ y_ : List (S62), y_ = (x337002_3 ++ [(⟨x15_3, (⟨t341, t342⟩ : S56)⟩ : S62)]) := ⟨_, rfl⟩
           replace H : ((swarfkit_Feed_Between.f t343 1 9).bind fun bt347 => (swarfkit_VoyageOf.l2 k3 a3 a4 x13_2 (wrap64 (x15_3 + bt347.1)) (wrap64 (x16_3 - 1)) bt347.2 t296 t298 t305 x310003_1 t307 x310005_2 t333 t334 y344)) = some (r1, r2, r3, r4, r5, r6, r7, r8) := by first | (rw [hy344]; with_reducible exact H) | (have H2_ := (Option.bind_some _ _).symm.trans H; rw [hy344]; with_reducible exact H2_) | (have H2_ := (Option.bind_some _ _).symm.trans H; with_reducible exact H2_) | with_reducible exact H | (rw [hy344]; exact H) | exact H
           have Ny344 := Aside0.mk hy344
           clear hy344
           replace H := Option.bind_eq_some_iff.mp H
           obtain ⟨⟨t347, t348⟩, A640, H⟩ := H
           try dsimp only at H
           have A64 := Aside0.mk A640
           clear A640
           have H' := Aside0.mk H
           clear H
           try go_wp2
           replace HO_310003 := Aside0.mk (Kd.R_drew HO_310003.out)
           replace HO_310005 := Aside0.mk (Kd.S_drew HO_310005.out)
           replace HO_337002 := Aside0.mk (Kd.R_drew HO_337002.out)
           replace BK295 := Aside0.mk (blk_drew BK295.out)
           replace BK309 := Aside0.mk (blk_drew BK309.out)
           replace BK336 := Aside0.mk (blk_drew BK336.out)
           replace HI0 := Aside0.mk (IsS90.drew HI0.out)
           replace HK := Aside0.mk (keep_drew HK.out)
           replace HB := Aside0.mk (below_drew1 HB.out)
           refine start_ (n := 15) (S := fun w' => w'.cell? ⟨gb336, 0, none⟩ = some (.int .i64 t333) ∧ w'.cell? ⟨gb336, 1, none⟩ = some (.int .i64 t334) ∧ w'.cell? ⟨gb336, 2, none⟩ = some (u337002)) (ds := [14]) #[false, false, false, false, false, false, false, false, false, false, false, false, false, false, false] (by kernel_rfl) rfl rfl ⟨(blk_cell BK336.out 0).trans rfl, (blk_cell BK336.out 1).trans rfl, (blk_cell BK336.out 2).trans rfl⟩ (fun hHeld => ?_); refine with_tabW swarfkit_VoyageOf.tab14 swarfkit_VoyageOf.bits14 (fun HT_ HW_ => ?_)
           generalize wr.drew = w65 at HO_310003 HO_310005 HO_337002 BK295 BK309 BK336 HI0 HK HB hHeld ⊢
           refine pure_t 0 (some 77) (bz 15 1) HT_ ?_
           refine pure_t 2 (some 79) (bz 15 5) HT_ ?_
           refine pure_t 3 (some 80) (bz 15 13) HT_ ?_
           refine pure_t 4 (some 81) (bz 15 29) HT_ ?_
           refine pure_t 6 (some 83) (bz 15 93) HT_ ?_
           refine pure_t 7 (some 84) (bz 15 221) HT_ ?_
           refine pure_t 8 (some 85) (bz 15 477) HT_ ?_
           refine take_ (i := 1) (N := some 78) (v := ?_) (a' := ?_) (bz 15 479) rfl rfl (take_ofW HT_.out HW_.out (by kernel_rfl)) (fun _ _ _ h => h) (Or.inl ⟨by rfl, ?_⟩) hHeld ?_ ?_
           rotate_left; (rintro w' ⟨s0, s1, s2⟩; go_simp; with_reducible rfl); rotate_left; (simp only [Act.put, put_x, i64_w, i32_w]; rfl)
           refine one_ (i := 5) (N := some 82) (bz 15 511) rfl rfl (one_of HT_.out (by kernel_rfl)) (by decide) (fun K hK => ?_)
           refine goes_ Try.func33 (by kernel_rfl) rfl #[.pointer (some ⟨g, 0, none⟩), .int .i64 12] (by rfl) rfl rfl (by (try simp only [List.map_toArray, List.map_cons, List.map_nil]); first | done | rfl | (simp only [List.length_drop, List.length_take]; rfl)) ?_
           with_reducible refine (swarfkit_Feed_Below.calls g x1000_3 12 t339 t340 w0 _ ?side1 ?side2 A61.out).mono ?_
           (case side1 => exact IsS90.up HI0.out)
           (case side2 => exact below_y HB.out)
           rintro e w66 ⟨rfl, hi, hb, hk⟩
           refine ⟨_, rfl, ?_⟩
           replace HO_310003 := Aside0.mk (Kd.R_mono (Kd.R_keep (IsS90.apart (show IsS90 w0 _ g x1000_3 from by exact IsS90.up HI0.out) (Kd.R_x HO_310003.out) (by decide)) hk (fun _ h => h.2)) (fun _ h => h.1))
           replace HO_310005 := Aside0.mk (Kd.S_mono (Kd.S_keep (IsS90.apartS (show IsS90 w0 _ g x1000_3 from by exact IsS90.up HI0.out) (Kd.S_x HO_310005.out) (by decide)) hk (fun _ h => h.2)) (fun _ h => h.1))
           replace HO_337002 := Aside0.mk (Kd.R_mono (Kd.R_keep (IsS90.apart (show IsS90 w0 _ g x1000_3 from by exact IsS90.up HI0.out) (Kd.R_x HO_337002.out) (by decide)) hk (fun _ h => h.2)) (fun _ h => h.1))
           replace BK295 := Aside0.mk (KeepBut.blk hk (blk_x BK295.out) NB295_0.out (by simp))
           replace BK309 := Aside0.mk (KeepBut.blk hk (blk_x BK309.out) NB309_0.out (by simp))
           replace BK336 := Aside0.mk (KeepBut.blk hk (blk_x BK336.out) NB336_0.out (by simp))
           replace HK := Aside0.mk (KeepBut.trans (by exact keep_y HK.out) hk (.inl rfl))
           replace HB := Aside0.mk (hb)
           replace HI0 := Aside0.mk (hi)
           (try clear hb)
           (try clear hb2)
           (try clear hk)
           (try clear hi)
           refine hK.out _ _ ⟨(blk_cell BK336.out 0).trans rfl, (blk_cell BK336.out 1).trans rfl, (blk_cell BK336.out 2).trans rfl⟩ (fun hHeld => ?_)
           clear hK K
           refine norm_ (a' := ?_) ?_ ?_; rotate_left; (show Act.put _ (some 82) _ = _; simp only [Act.put, put_x, i64_w, i32_w]; rfl)
           refine one_ (i := 9) (N := some 86) (bz 15 1023) rfl rfl (one_of HT_.out (by kernel_rfl)) (by decide) (fun K hK => ?_)
           refine goes_ Try.func54 (by kernel_rfl) rfl #[.pointer (some ⟨g, 0, none⟩), .int .i64 t339, .int .i64 (wrap64 (12 + (wrap64 (2 * a4))))] (by rfl) rfl rfl (by (try simp only [List.map_toArray, List.map_cons, List.map_nil]); first | done | rfl | (simp only [List.length_drop, List.length_take]; rfl)) ?_
           with_reducible refine (swarfkit_Feed_Range.calls g t340 t339 (wrap64 (12 + (wrap64 (2 * a4)))) t341 t342 t343 w0 _ ?side1 ?side2 A62.out).mono ?_
           (case side1 => exact IsS90.up HI0.out)
           (case side2 => exact below_y HB.out)
           rintro e w67 ⟨rfl, hi, hb, hk⟩
           refine ⟨_, rfl, ?_⟩
           replace HO_310003 := Aside0.mk (Kd.R_mono (Kd.R_keep (IsS90.apart (show IsS90 w0 _ g t340 from by exact IsS90.up HI0.out) (Kd.R_x HO_310003.out) (by decide)) hk (fun _ h => h.2)) (fun _ h => h.1))
           replace HO_310005 := Aside0.mk (Kd.S_mono (Kd.S_keep (IsS90.apartS (show IsS90 w0 _ g t340 from by exact IsS90.up HI0.out) (Kd.S_x HO_310005.out) (by decide)) hk (fun _ h => h.2)) (fun _ h => h.1))
           replace HO_337002 := Aside0.mk (Kd.R_mono (Kd.R_keep (IsS90.apart (show IsS90 w0 _ g t340 from by exact IsS90.up HI0.out) (Kd.R_x HO_337002.out) (by decide)) hk (fun _ h => h.2)) (fun _ h => h.1))
           replace BK295 := Aside0.mk (KeepBut.blk hk (blk_x BK295.out) NB295_0.out (by simp))
           replace BK309 := Aside0.mk (KeepBut.blk hk (blk_x BK309.out) NB309_0.out (by simp))
           replace BK336 := Aside0.mk (KeepBut.blk hk (blk_x BK336.out) NB336_0.out (by simp))
           replace HK := Aside0.mk (KeepBut.trans (by exact keep_y HK.out) hk (.inl rfl))
           replace HB := Aside0.mk (hb)
           replace HI0 := Aside0.mk (hi)
           (try clear hb)
           (try clear hb2)
           (try clear hk)
           (try clear hi)
           refine hK.out _ _ ⟨(blk_cell BK336.out 0).trans rfl, (blk_cell BK336.out 1).trans rfl, (blk_cell BK336.out 2).trans rfl⟩ (fun hHeld => ?_)
           clear hK K
           refine norm_ (a' := ?_) ?_ ?_; rotate_left; (show Act.put _ (some 86) _ = _; simp only [Act.put, put_x, i64_w, i32_w]; rfl)
           refine pure_t 10 (some 87) (bz 15 2047) HT_ ?_
           refine one_ (i := 11) (N := some 88) (bz 15 4095) rfl rfl (one_of HT_.out (by kernel_rfl)) (by decide) (fun K hK => ?_)
           refine value_ (w1 := ?_) (v := ?_) (by rfl) rfl ?_ ?_
           rotate_left 2
           ·
            go_simp
            constructor
            ·
             rfl
            ·
             rfl
           refine hK.out _ _ ⟨(blk_cell (blk_alloc BK336.out _) 0).trans rfl, (blk_cell (blk_alloc BK336.out _) 1).trans rfl, (blk_cell (blk_alloc BK336.out _) 2).trans rfl⟩ (fun hHeld => ?_)
           clear hK K
           refine norm_ (a' := ?_) ?_ ?_; rotate_left; (show Act.put _ (some 88) _ = _; simp only [Act.put, put_x, i64_w, i32_w]; rfl)
           refine one_ (i := 12) (N := some 89) (bz 15 8191) rfl rfl (one_of HT_.out (by kernel_rfl)) (by decide) (fun K hK => ?_)
           refine Kd.R_append_step k62 w.heap.size (by rfl) (.tmp 78) (.tmp 88) 57 62 (.agg #[(.int .i64 0), (.int .i64 0), (.int .i64 0)]) 24 rfl Try.underlying57 info62 rfl (by decide) (by omega) u337002 x337002_3 (⟨x15_3, (⟨t341, t342⟩ : S56)⟩ : S62) [.int .i64 x15_3, .int .i64 t341, .int .i64 t342] (fun _ => True) (fun _ => False) rfl rfl ?aP (fun _ hk => hk.elim) ?aF ?aO (Below.refl _ _) ?aS ?aL ?_
           (case aP => exact k62_mkM _ _ _ (⟨x15_3, (⟨t341, t342⟩ : S56)⟩ : S62))
           (case aF => exact (fun _ _ => trivial))
           (case aO => exact (Kd.R_x HO_337002.out))
           (case aS => exact (keep_size (w := w) (g := g) (row := none) (by exact keep_y HK.out)))
           (case aL => have := LMc63.out; omega)
           intro v345 w68 ho hb hg hat
           rw [← Ny344.out] at ho
           replace HO_310003 := Aside0.mk (Kd.R_over' (Kd.R_x HO_310003.out) (Kd.R_typed (Kd.R_x HO_337002.out)) (by decide) hg)
           replace HO_310005 := Aside0.mk (Kd.S_after (ok := (fun k_ => k_ ≠ gb336)) (by (with_reducible repeat (first | apply Kd.S_alloc | apply Kd.S_drewN | apply Kd.S_drew)); exact Kd.S_mono HO_310005.out (fun _ hk => ⟨hk.2, hk.1⟩)) hg hat)
           replace BK295 := Aside0.mk (blk_grown (blk_x BK295.out) hg (Kd.R_ne HO_337002.out BK295.out (by decide)))
           replace BK309 := Aside0.mk (blk_grown (blk_x BK309.out) hg (Kd.R_ne HO_337002.out BK309.out (by decide)))
           replace BK336 := Aside0.mk (blk_grown (blk_x BK336.out) hg (Kd.R_ne HO_337002.out BK336.out (by decide)))
           replace HI0 := Aside0.mk (IsS90.grown (by exact IsS90.up HI0.out) hg (IsS90.own_ne HI0.out HO_337002.out (by decide)))
           replace HB := Aside0.mk (below_weaken (by exact below_y HB.out) HL.out hb)
           replace HK := Aside0.mk (KeepBut.trans (by exact keep_y HK.out) (KeepBut.of_grown hg g) (Kd.R_base2 HO_337002.out))
           have HO346 := Aside0.mk (ho)
           clear HO_337002 ho hb hg hat
           obtain ⟨Ao69, co69, eo69⟩ := Kd.R_slice HO346.out
           (first | subst eo69 | (injection eo69 with f1_ f2_ f3_; have f4_ := f1_.symm; have f5_ := f3_.symm; clear f1_ f2_ f3_; subst f4_; subst f5_))
           refine hK.out _ _ ⟨(blk_cell BK336.out 0).trans rfl, (blk_cell BK336.out 1).trans rfl, (blk_cell BK336.out 2).trans rfl⟩ (fun hHeld => ?_)
           clear hK K
           refine norm_ (a' := ?_) ?_ ?_; rotate_left; (show Act.put _ (some 89) _ = _; simp only [Act.put, put_x, i64_w, i32_w]; rfl)
           refine pure_t 13 (some 90) (bz 15 16383) HT_ ?_
           refine last_ (i := 14) (N := none) (bz 15 32767) rfl rfl (one_of HT_.out (by kernel_rfl)) (by decide) (fun K hK => ?_)
           have hs70 : w68.cell? ⟨gb336, 2, none⟩ = some (u337002) := (blk_cell BK336.out 2).trans rfl
           have hfs70 := blk_frozen BK336.out 2
           have hns70_0 := NB295_336.out
           have hns70_1 := NB309_336.out
           have hms70_0 := NB336_295.out
           have hms70_1 := NB336_309.out
           refine skip_ (w1 := ?_) (by rfl) rfl ?_ ?_
           rotate_left
           ·
            go_simp
            rfl
           refine hK.out _ _ ?_
           clear hK K
           refine done_ (done_of HT_.out (by kernel_rfl)) ?_
           try go_wp2_with (first | ((with_reducible refine gate_callee (f := 31) rfl ?_); refine goesL_ (some 93) rfl rfl Try.func31 (by kernel_rfl) rfl #[.pointer (some ⟨g, 0, none⟩), .int .i64 1, .int .i64 9] rfl (by (try simp only [List.map_toArray, List.map_cons, List.map_nil]); first | done | rfl | (simp only [List.length_drop, List.length_take]; rfl)) ?_; (with_reducible refine (swarfkit_Feed_Between.calls g t343 1 9 t347 t348 w0 _ ?side1 ?side2 A64.out).mono ?_); (case side1 => exact IsS90.up HI0.out); (case side2 => exact below_y HB.out); rintro e w71 ⟨rfl, hi, hb, hk⟩; refine ⟨_, rfl, ?_⟩; replace HO_310003 := Aside0.mk (Kd.R_mono (Kd.R_keep (IsS90.apart (show IsS90 w0 _ g t343 from by exact IsS90.up HI0.out) (by (with_reducible repeat (first | apply Kd.R_alloc | apply Kd.R_drewN | apply Kd.R_drew)); exact (Kd.R_mono (Kd.R_far (p := ⟨gb336, 2, none⟩) (Kd.R_types HO_310003.out BK336.out (by decide)) (fun _ hk => hk.2) (.slice Ao69 y344.length co69)) (fun _ h_ => h_.1))) (by decide)) hk (fun _ h => h.2)) (fun _ h => h.1)); replace HO_310005 := Aside0.mk (Kd.S_mono (Kd.S_keep (IsS90.apartS (show IsS90 w0 _ g t343 from by exact IsS90.up HI0.out) (by (with_reducible repeat (first | apply Kd.S_alloc | apply Kd.S_drewN | apply Kd.S_drew)); exact (Kd.S_mono (Kd.S_far (p := ⟨gb336, 2, none⟩) (Kd.S_mono HO_310005.out (fun k_ hk => (⟨hk, hk.1⟩ : _ ∧ k_ ≠ gb336))) (fun _ hk => hk.2) (.slice Ao69 y344.length co69)) (fun _ h_ => h_.1))) (by decide)) hk (fun _ h => h.2)) (fun _ h => h.1)); replace BK295 := Aside0.mk (KeepBut.blk hk (g' := gb295) (o := .cells #[.int .i64 0, .int .i64 0, .int .i64 0, .slice none 0 0, .int .i64 0, .slice none 0 0, .slice none 0 0] 26 (0, 0)) (blk_w BK295.out) NB295_0.out (by simp)); replace BK309 := Aside0.mk (KeepBut.blk hk (g' := gb309) (o := .cells #[.int .i64 t296, .int .i64 t298, .int .i64 t305, u310003, .int .i64 t307, u310005, .slice none 0 0] 26 (0, 0)) (blk_w BK309.out) NB309_0.out (by simp)); replace HO346 := Aside0.mk (Kd.R_mono (Kd.R_keep (IsS90.apart (show IsS90 w0 _ g t343 from by exact IsS90.up HI0.out) (by (with_reducible repeat (first | apply Kd.R_alloc | apply Kd.R_drewN | apply Kd.R_drew)); exact (Kd.R_mono (Kd.R_far (p := ⟨gb336, 2, none⟩) (Kd.R_types HO346.out BK336.out (by decide)) (fun _ hk => hk.2) (.slice Ao69 y344.length co69)) (fun _ h_ => h_.1))) (by decide)) hk (fun _ h => h.2)) (fun _ h => h.1)); replace BK336 := Aside0.mk (KeepBut.blk hk (g' := gb336) (o := .cells #[.int .i64 t333, .int .i64 t334, .slice Ao69 y344.length co69] 59 (0, 0)) (by (with_reducible repeat (first | refine blk_drewN ?_ _ | refine blk_drew ?_ | refine blk_alloc ?_ _)); refine blk_put (cs := #[.int .i64 t333, .int .i64 t334, u337002]) ?_ 2 _ rfl; (with_reducible repeat (first | refine blk_drewN ?_ _ | refine blk_drew ?_ | refine blk_alloc ?_ _)); exact BK336.out) NB336_0.out (by simp)); replace HK := Aside0.mk (KeepBut.trans (by exact keep_y HK.out) hk (.inl rfl)); replace HB := Aside0.mk (hb); replace HI0 := Aside0.mk (hi); (try clear hb); (try clear hk); (try clear hi)))
           go_roundg k3
           case measure => have := HK1.out; have := HK2.out; have := HK3.out; omega
           case rel => exact ⟨(wrap64 (x15_3 + t347)), (wrap64 (x16_3 - 1)), (t348), (y344), (.slice Ao69 y344.length co69), (by first | rfl | (simp; done) | (simp [*]; done)), (by first | rfl | (simp; done) | (simp [*]; done)), H', ⟨by have := HK1.out; have := HK2.out; have := HK3.out; omega⟩, ⟨by (with_reducible repeat (first | apply Kd.R_alloc | apply Kd.R_drewN | apply Kd.R_drew)); exact HO_310003.out⟩, ⟨by (with_reducible repeat (first | apply Kd.S_alloc | apply Kd.S_drewN | apply Kd.S_drew)); exact Kd.S_mono HO_310005.out (fun _ hk => ⟨hk.2, hk.1⟩)⟩, ⟨by (with_reducible repeat (first | apply Kd.R_alloc | apply Kd.R_drewN | apply Kd.R_drew)); exact HO346.out⟩, ⟨blk_x BK295.out⟩, ⟨blk_x BK309.out⟩, ⟨blk_x BK336.out⟩, ⟨by exact IsS90.up HI0.out⟩, ⟨by exact keep_y HK.out⟩, ⟨by exact below_y HB.out⟩⟩
          ·
           rw [if_neg c63] at H
           exact absurd H (by simp)
         ·
          rw [if_neg c60] at H
          have c60b0 : decide (0 < x16_3) = false := decide_eq_false c60
          clear c60
          by_cases c72 : x310005_2.length < 3518437208883
          ·
           rw [if_pos c72] at H
           have LMc72 := Aside0.mk c72
           clear c72
           obtain ⟨y349, hy349⟩ : ∃ y_ : List (S59), y_ = (x310005_2 ++ [(⟨(⟨t333, t334⟩ : S56), x337002_3⟩ : S59)]) := ⟨_, rfl⟩
           replace H : (swarfkit_VoyageOf.l1 k3 a3 a4 (wrap64 (x13_2 - 1)) x1000_3 t296 t298 t305 x310003_1 t307 y349) = some (r1, r2, r3, r4, r5, r6, r7, r8) := by first | (rw [hy349]; with_reducible exact H) | (have H2_ := (Option.bind_some _ _).symm.trans H; rw [hy349]; with_reducible exact H2_) | (have H2_ := (Option.bind_some _ _).symm.trans H; with_reducible exact H2_) | with_reducible exact H | (rw [hy349]; exact H) | exact H
           have Ny349 := Aside0.mk hy349
           clear hy349
           have H' := Aside0.mk H
           clear H
           have hnb73 := NB309_295.out
           have hnc73 := NB295_309.out
           have hnb74 := NB309_336.out
           have hnc74 := NB336_309.out
           have hnb75 := NB309_0.out
           have hnc75 := NB0_309.out
           obtain ⟨_, _, _, _, _, _, _⟩ := cz7 BK309
           have hfz76_0 := blk_frozen BK309.out
           have hnb77 := NB336_295.out
           have hnc77 := NB295_336.out
           have hnb78 := NB336_0.out
           have hnc78 := NB0_336.out
           obtain ⟨_, _, _⟩ := cz3 BK336
           have hfz79_0 := blk_frozen BK336.out
           obtain ⟨Ao81, co81, eo81⟩ := Kd.R_slice HO_337002.out
           subst eo81
           go_wp2_with (first | ((with_reducible refine gate_builtin (b := .append) (xs := #[.tmp 96, .tmp 98]) rfl ?_); at_builtin; refine Kd.S_append k59 w.heap.size rfl (.tmp 96) (.tmp 98) 23 59 (.agg #[(.int .i64 0), (.int .i64 0), (.slice none 0 0)]) 40 rfl Try.underlying23 info59 rfl (by decide) (by omega) u310005 x310005_2 (⟨(⟨t333, t334⟩ : S56), x337002_3⟩ : S59) [.int .i64 t333, .int .i64 t334, .slice Ao81 x337002_3.length co81] (fun k_ => k_ ≠ gb336) (fun k_ => some k_ = (.slice Ao81 x337002_3.length co81 : Value).ownBlock) rfl rfl ?aP (fun k_ hk_ => ((Kd.R_mono (ok' := fun k_ => ((fun k_ => k_ ≠ gb336)) k_ ∧ some k_ ≠ (u310005 : Value).ownBlock) (Kd.R_types (Kd.R_apart' (HO_337002.out) (Kd.S_typed HO_310005.out) (by decide)) BK336.out (by decide)) (fun k_ hk => ⟨hk.2, hk.1.2⟩))).1 k_ hk_.symm) ?aF ?aO (Below.refl _ _) ?aS ?aL ?_; (case aP => exact k59_mkM _ _ _ (⟨(⟨t333, t334⟩ : S56), x337002_3⟩ : S59) (Kd.R_mono (Kd.R_tight rfl (Kd.R_mono (ok' := fun k_ => ((fun k_ => k_ ≠ gb336)) k_ ∧ some k_ ≠ (u310005 : Value).ownBlock) (Kd.R_types (Kd.R_apart' (HO_337002.out) (Kd.S_typed HO_310005.out) (by decide)) BK336.out (by decide)) (fun k_ hk => ⟨hk.2, hk.1.2⟩))) (fun _ h_ => h_))); (case aF => exact (fun k_ hk => Kd.freshB (g := gb336) (o := .cells #[.int .i64 t333, .int .i64 t334, .slice Ao81 x337002_3.length co81] 59 (0, 0)) (blk_x BK336.out) k_ hk)); (case aO => exact (by (with_reducible repeat (first | apply Kd.S_alloc | apply Kd.S_drewN | apply Kd.S_drew)); exact Kd.S_mono HO_310005.out (fun k_ hk => ⟨hk.2, fun e_ => hk.1 e_⟩))); (case aS => exact (keep_size (w := w) (g := g) (row := none) (by exact keep_y HK.out))); (case aL => have := LMc72.out; omega); intro v350 w80 ho hb hg hat; rw [← Ny349.out] at ho; replace HO_310003 := Aside0.mk (Kd.R_over' (Kd.R_x HO_310003.out) (Kd.S_typed (Kd.S_x HO_310005.out)) (by decide) hg); replace BK295 := Aside0.mk (blk_grown (blk_x BK295.out) hg (Kd.S_ne HO_310005.out BK295.out (by decide))); replace BK309 := Aside0.mk (blk_grown (blk_x BK309.out) hg (Kd.S_ne HO_310005.out BK309.out (by decide))); replace BK336 := Aside0.mk (blk_grown (blk_x BK336.out) hg (Kd.S_away HO_310005.out (fun _ hk => hk.2))); replace HI0 := Aside0.mk (IsS90.grown (by exact IsS90.up HI0.out) hg (IsS90.own_neS HI0.out HO_310005.out (by decide))); replace HB := Aside0.mk (below_weaken (by exact below_y HB.out) HL.out hb); replace HK := Aside0.mk (KeepBut.trans (by exact keep_y HK.out) (KeepBut.of_grown hg g) (Kd.S_base2 HO_310005.out)); have HO351 := Aside0.mk (ho); clear HO_310005 HO_337002; clear ho hb hg hat; obtain ⟨Ao82, co82, eo82⟩ := Kd.S_slice HO351.out; subst eo82; obtain ⟨_, _, _, _, _, _, _⟩ := cz7 BK309; have hfz83_0 := blk_frozen BK309.out))
           go_roundg k3
           case measure => have := HK1.out; have := HK2.out; have := HK3.out; omega
           case rel => exact ⟨(wrap64 (x13_2 - 1)), (x1000_3), (y349), (.slice Ao82 y349.length co82), (by first | rfl | (simp; done) | (simp [*]; done)), H', ⟨by have := HK1.out; have := HK2.out; have := HK3.out; omega⟩, ⟨by (with_reducible repeat (first | apply Kd.R_alloc | apply Kd.R_drewN | apply Kd.R_drew)); exact Kd.R_mono (Kd.R_far (p := ⟨gb309, 5, none⟩) (Kd.R_types HO_310003.out BK309.out (by decide)) (fun _ hk => hk.2) (.slice Ao82 y349.length co82)) (fun _ hk => trivial)⟩, ⟨by (with_reducible repeat (first | apply Kd.S_alloc | apply Kd.S_drewN | apply Kd.S_drew)); exact Kd.S_mono (Kd.S_far (p := ⟨gb309, 5, none⟩) (Kd.S_types HO351.out BK309.out (by decide)) (fun _ hk => hk.2) (.slice Ao82 y349.length co82)) (fun _ hk => trivial)⟩, ⟨blk_w BK295.out⟩, ⟨by (with_reducible repeat (first | refine blk_drewN ?_ _ | refine blk_drew ?_ | refine blk_alloc ?_ _)); refine blk_put (cs := #[.int .i64 t296, .int .i64 t298, .int .i64 t305, u310003, .int .i64 t307, u310005, .slice none 0 0]) ?_ 5 _ rfl; (with_reducible repeat (first | refine blk_drewN ?_ _ | refine blk_drew ?_ | refine blk_alloc ?_ _)); exact BK309.out⟩, ⟨by exact IsS90.up HI0.out⟩, ⟨by exact keep_y HK.out⟩, ⟨by exact below_y HB.out⟩⟩
          ·
           rw [if_neg c72] at H
           exact absurd H (by simp)
      ·
       rw [if_neg c45] at H
       have c45b0 : decide (0 < x13_2) = false := decide_eq_false c45
       clear c45
       replace H := Option.bind_eq_some_iff.mp H
       obtain ⟨⟨t352, t353⟩, A840, H⟩ := H
       try dsimp only at H
       have A84 := Aside0.mk A840
       clear A840
       have H' := Aside0.mk H
       clear H
       go_wp2_with (first | ((with_reducible refine gate_callee (f := 33) rfl ?_); refine goesL_ (some 104) rfl rfl Try.func33 (by kernel_rfl) rfl #[.pointer (some ⟨g, 0, none⟩), .int .i64 (wrap64 (a3 + 1))] rfl (by (try simp only [List.map_toArray, List.map_cons, List.map_nil]); first | done | rfl | (simp only [List.length_drop, List.length_take]; rfl)) ?_; (with_reducible refine (swarfkit_Feed_Below.calls g x1000_2 (wrap64 (a3 + 1)) t352 t353 w0 _ ?side1 ?side2 A84.out).mono ?_); (case side1 => exact IsS90.up HI0.out); (case side2 => exact below_y HB.out); rintro e w85 ⟨rfl, hi, hb, hk⟩; refine ⟨_, rfl, ?_⟩; replace HO_310003 := Aside0.mk (Kd.R_mono (Kd.R_keep (IsS90.apart (show IsS90 w0 _ g x1000_2 from by exact IsS90.up HI0.out) (Kd.R_x HO_310003.out) (by decide)) hk (fun _ h => h.2)) (fun _ h => h.1)); replace HO_310005 := Aside0.mk (Kd.S_mono (Kd.S_keep (IsS90.apartS (show IsS90 w0 _ g x1000_2 from by exact IsS90.up HI0.out) (Kd.S_x HO_310005.out) (by decide)) hk (fun _ h => h.2)) (fun _ h => h.1)); replace BK295 := Aside0.mk (KeepBut.blk hk (blk_x BK295.out) NB295_0.out (by simp)); replace BK309 := Aside0.mk (KeepBut.blk hk (blk_x BK309.out) NB309_0.out (by simp)); replace HK := Aside0.mk (KeepBut.trans (by exact keep_y HK.out) hk (.inl rfl)); replace HB := Aside0.mk (hb); replace HI0 := Aside0.mk (hi); (try clear hb); (try clear hk); (try clear hi)))
       go_loopg [17] k2 (fun kq v17 w' => ∃ (x17_3 : Int) (x1000_3 : Int) (x310006_3 : List (S79)) (u310006 : Value), v17 = .int .i64 x17_3 ∧ Aside0 (swarfkit_VoyageOf.l3 kq a4 x17_3 x1000_3 t296 t298 t305 x310003_1 t307 x310005_2 x310006_3 = some (r1, r2, r3, r4, r5, r6, r7, r8)) ∧ Aside0 (kq ≤ k2) ∧ Aside0 (Kd.R k85 85 w' w.heap.size (fun _ => True) u310003 x310003_1) ∧ Aside0 (Kd.S k59 59 w' w.heap.size (fun _ => True) u310005 x310005_2) ∧ Aside0 (Kd.R k79 79 w' w.heap.size (fun _ => True) u310006 x310006_3) ∧ Aside0 (w'.heap[gb295]? = some (.cells #[.int .i64 0, .int .i64 0, .int .i64 0, (.slice none 0 0), .int .i64 0, (.slice none 0 0), (.slice none 0 0)] 26 (0, 0))) ∧ Aside0 (w'.heap[gb309]? = some (.cells #[.int .i64 t296, .int .i64 t298, .int .i64 t305, u310003, .int .i64 t307, u310005, u310006] 26 (0, 0))) ∧ Aside0 (IsS90 w0 w' g x1000_3) ∧ Aside0 (KeepBut w w' g none) ∧ Aside0 (Below w0.heap.size w0 w'))
       case atStart => exact ⟨(t352), (t353), (([] : List (S79))), (.slice none 0 0), (by first | rfl | (simp; done) | (simp [*]; done)), H', ⟨Nat.le_refl _⟩, ⟨by (with_reducible repeat (first | apply Kd.R_alloc | apply Kd.R_drewN | apply Kd.R_drew)); exact HO_310003.out⟩, ⟨by (with_reducible repeat (first | apply Kd.S_alloc | apply Kd.S_drewN | apply Kd.S_drew)); exact HO_310005.out⟩, ⟨by first | exact Kd.R_nil _ _ _ _ _ | exact Kd.N_nil _ _ _ _ _ | exact Kd.V_nil _ _ _ _ _ | exact Kd.Q_nil _ _ _ _ _ | exact Kd.S_nil _ _ _ _ _⟩, ⟨blk_x BK295.out⟩, ⟨blk_x BK309.out⟩, ⟨by exact IsS90.up HI0.out⟩, ⟨by exact keep_y HK.out⟩, ⟨by exact below_y HB.out⟩⟩
       case round =>
        clear H'
        obtain ⟨x17_3, x1000_3, x310006_3, u310006, rfl, HA, HK3, HO_310003, HO_310005, HO_310006, BK295, BK309, HI0, HK, HB⟩ := hrel
        cases gk with
        | zero => exact absurd HA.out (by simp [swarfkit_VoyageOf.l3])
        | succ k3 =>
         have H := HA.out
         clear HA
         simp only [swarfkit_VoyageOf.l3] at H
         by_cases c86 : x17_3 > 0
         ·
          rw [if_pos c86] at H
          have c86b0 : decide (0 < x17_3) = true := decide_eq_true c86
          clear c86
          replace H := Option.bind_eq_some_iff.mp H
          obtain ⟨⟨t354, t355, t356⟩, A870, H⟩ := H
          try dsimp only at H
          have A87 := Aside0.mk A870
          clear A870
          replace H := Option.bind_eq_some_iff.mp H
          obtain ⟨⟨t357, t358⟩, A880, H⟩ := H
          try dsimp only at H
          have A88 := Aside0.mk A880
          clear A880
          by_cases c89 : x310006_3.length < 5864062014805
          ·
           rw [if_pos c89] at H
           have LMc89 := Aside0.mk c89
           clear c89
           obtain ⟨y359, hy359⟩ : ∃ y_ : List (S79), y_ = (x310006_3 ++ [(⟨(⟨t354, t355⟩ : S56), t357⟩ : S79)]) := ⟨_, rfl⟩
           replace H : (swarfkit_VoyageOf.l3 k3 a4 (wrap64 (x17_3 - 1)) t358 t296 t298 t305 x310003_1 t307 x310005_2 y359) = some (r1, r2, r3, r4, r5, r6, r7, r8) := by first | (rw [hy359]; with_reducible exact H) | (have H2_ := (Option.bind_some _ _).symm.trans H; rw [hy359]; with_reducible exact H2_) | (have H2_ := (Option.bind_some _ _).symm.trans H; with_reducible exact H2_) | with_reducible exact H | (rw [hy359]; exact H) | exact H
           have Ny359 := Aside0.mk hy359
           clear hy359
           have H' := Aside0.mk H
           clear H
           try go_wp2
           replace HO_310003 := Aside0.mk (Kd.R_drew HO_310003.out)
           replace HO_310005 := Aside0.mk (Kd.S_drew HO_310005.out)
           replace HO_310006 := Aside0.mk (Kd.R_drew HO_310006.out)
           replace BK295 := Aside0.mk (blk_drew BK295.out)
           replace BK309 := Aside0.mk (blk_drew BK309.out)
           replace HI0 := Aside0.mk (IsS90.drew HI0.out)
           replace HK := Aside0.mk (keep_drew HK.out)
           replace HB := Aside0.mk (below_drew1 HB.out)
           refine start_ (n := 12) (S := fun w' => w'.cell? ⟨gb309, 0, none⟩ = some (.int .i64 t296) ∧ w'.cell? ⟨gb309, 1, none⟩ = some (.int .i64 t298) ∧ w'.cell? ⟨gb309, 2, none⟩ = some (.int .i64 t305) ∧ w'.cell? ⟨gb309, 3, none⟩ = some (u310003) ∧ w'.cell? ⟨gb309, 4, none⟩ = some (.int .i64 t307) ∧ w'.cell? ⟨gb309, 5, none⟩ = some (u310005) ∧ w'.cell? ⟨gb309, 6, none⟩ = some (u310006)) (ds := [11]) #[false, false, false, false, false, false, false, false, false, false, false, false] (by kernel_rfl) rfl rfl ⟨(blk_cell BK309.out 0).trans rfl, (blk_cell BK309.out 1).trans rfl, (blk_cell BK309.out 2).trans rfl, (blk_cell BK309.out 3).trans rfl, (blk_cell BK309.out 4).trans rfl, (blk_cell BK309.out 5).trans rfl, (blk_cell BK309.out 6).trans rfl⟩ (fun hHeld => ?_); refine with_tabW swarfkit_VoyageOf.tab20 swarfkit_VoyageOf.bits20 (fun HT_ HW_ => ?_)
           generalize wr.drew = w90 at HO_310003 HO_310005 HO_310006 BK295 BK309 HI0 HK HB hHeld ⊢
           refine pure_t 0 (some 109) (bz 12 1) HT_ ?_
           refine pure_t 2 (some 111) (bz 12 5) HT_ ?_
           refine pure_t 3 (some 112) (bz 12 13) HT_ ?_
           refine pure_t 5 (some 114) (bz 12 45) HT_ ?_
           refine take_ (i := 1) (N := some 110) (v := ?_) (a' := ?_) (bz 12 47) rfl rfl (take_ofW HT_.out HW_.out (by kernel_rfl)) (fun _ _ _ h => h) (Or.inl ⟨by rfl, ?_⟩) hHeld ?_ ?_
           rotate_left; (rintro w' ⟨s0, s1, s2, s3, s4, s5, s6⟩; go_simp; with_reducible rfl); rotate_left; (simp only [Act.put, put_x, i64_w, i32_w]; rfl)
           refine one_ (i := 4) (N := some 113) (bz 12 63) rfl rfl (one_of HT_.out (by kernel_rfl)) (by decide) (fun K hK => ?_)
           refine goes_ Try.func54 (by kernel_rfl) rfl #[.pointer (some ⟨g, 0, none⟩), .int .i64 0, .int .i64 a4] (by rfl) rfl rfl (by (try simp only [List.map_toArray, List.map_cons, List.map_nil]); first | done | rfl | (simp only [List.length_drop, List.length_take]; rfl)) ?_
           with_reducible refine (swarfkit_Feed_Range.calls g x1000_3 0 a4 t354 t355 t356 w0 _ ?side1 ?side2 A87.out).mono ?_
           (case side1 => exact IsS90.up HI0.out)
           (case side2 => exact below_y HB.out)
           rintro e w91 ⟨rfl, hi, hb, hk⟩
           refine ⟨_, rfl, ?_⟩
           replace HO_310003 := Aside0.mk (Kd.R_mono (Kd.R_keep (IsS90.apart (show IsS90 w0 _ g x1000_3 from by exact IsS90.up HI0.out) (Kd.R_x HO_310003.out) (by decide)) hk (fun _ h => h.2)) (fun _ h => h.1))
           replace HO_310005 := Aside0.mk (Kd.S_mono (Kd.S_keep (IsS90.apartS (show IsS90 w0 _ g x1000_3 from by exact IsS90.up HI0.out) (Kd.S_x HO_310005.out) (by decide)) hk (fun _ h => h.2)) (fun _ h => h.1))
           replace HO_310006 := Aside0.mk (Kd.R_mono (Kd.R_keep (IsS90.apart (show IsS90 w0 _ g x1000_3 from by exact IsS90.up HI0.out) (Kd.R_x HO_310006.out) (by decide)) hk (fun _ h => h.2)) (fun _ h => h.1))
           replace BK295 := Aside0.mk (KeepBut.blk hk (blk_x BK295.out) NB295_0.out (by simp))
           replace BK309 := Aside0.mk (KeepBut.blk hk (blk_x BK309.out) NB309_0.out (by simp))
           replace HK := Aside0.mk (KeepBut.trans (by exact keep_y HK.out) hk (.inl rfl))
           replace HB := Aside0.mk (hb)
           replace HI0 := Aside0.mk (hi)
           (try clear hb)
           (try clear hb2)
           (try clear hk)
           (try clear hi)
           refine hK.out _ _ ⟨(blk_cell BK309.out 0).trans rfl, (blk_cell BK309.out 1).trans rfl, (blk_cell BK309.out 2).trans rfl, (blk_cell BK309.out 3).trans rfl, (blk_cell BK309.out 4).trans rfl, (blk_cell BK309.out 5).trans rfl, (blk_cell BK309.out 6).trans rfl⟩ (fun hHeld => ?_)
           clear hK K
           refine norm_ (a' := ?_) ?_ ?_; rotate_left; (show Act.put _ (some 113) _ = _; simp only [Act.put, put_x, i64_w, i32_w]; rfl)
           refine one_ (i := 6) (N := some 115) (bz 12 127) rfl rfl (one_of HT_.out (by kernel_rfl)) (by decide) (fun K hK => ?_)
           refine goes_ Try.func33 (by kernel_rfl) rfl #[.pointer (some ⟨g, 0, none⟩), .int .i64 30] (by rfl) rfl rfl (by (try simp only [List.map_toArray, List.map_cons, List.map_nil]); first | done | rfl | (simp only [List.length_drop, List.length_take]; rfl)) ?_
           with_reducible refine (swarfkit_Feed_Below.calls g t356 30 t357 t358 w0 _ ?side1 ?side2 A88.out).mono ?_
           (case side1 => exact IsS90.up HI0.out)
           (case side2 => exact below_y HB.out)
           rintro e w92 ⟨rfl, hi, hb, hk⟩
           refine ⟨_, rfl, ?_⟩
           replace HO_310003 := Aside0.mk (Kd.R_mono (Kd.R_keep (IsS90.apart (show IsS90 w0 _ g t356 from by exact IsS90.up HI0.out) (Kd.R_x HO_310003.out) (by decide)) hk (fun _ h => h.2)) (fun _ h => h.1))
           replace HO_310005 := Aside0.mk (Kd.S_mono (Kd.S_keep (IsS90.apartS (show IsS90 w0 _ g t356 from by exact IsS90.up HI0.out) (Kd.S_x HO_310005.out) (by decide)) hk (fun _ h => h.2)) (fun _ h => h.1))
           replace HO_310006 := Aside0.mk (Kd.R_mono (Kd.R_keep (IsS90.apart (show IsS90 w0 _ g t356 from by exact IsS90.up HI0.out) (Kd.R_x HO_310006.out) (by decide)) hk (fun _ h => h.2)) (fun _ h => h.1))
           replace BK295 := Aside0.mk (KeepBut.blk hk (blk_x BK295.out) NB295_0.out (by simp))
           replace BK309 := Aside0.mk (KeepBut.blk hk (blk_x BK309.out) NB309_0.out (by simp))
           replace HK := Aside0.mk (KeepBut.trans (by exact keep_y HK.out) hk (.inl rfl))
           replace HB := Aside0.mk (hb)
           replace HI0 := Aside0.mk (hi)
           (try clear hb)
           (try clear hb2)
           (try clear hk)
           (try clear hi)
           refine hK.out _ _ ⟨(blk_cell BK309.out 0).trans rfl, (blk_cell BK309.out 1).trans rfl, (blk_cell BK309.out 2).trans rfl, (blk_cell BK309.out 3).trans rfl, (blk_cell BK309.out 4).trans rfl, (blk_cell BK309.out 5).trans rfl, (blk_cell BK309.out 6).trans rfl⟩ (fun hHeld => ?_)
           clear hK K
           refine norm_ (a' := ?_) ?_ ?_; rotate_left; (show Act.put _ (some 115) _ = _; simp only [Act.put, put_x, i64_w, i32_w]; rfl)
           refine pure_t 7 (some 116) (bz 12 255) HT_ ?_
           refine one_ (i := 8) (N := some 117) (bz 12 511) rfl rfl (one_of HT_.out (by kernel_rfl)) (by decide) (fun K hK => ?_)
           refine value_ (w1 := ?_) (v := ?_) (by rfl) rfl ?_ ?_
           rotate_left 2
           ·
            go_simp
            constructor
            ·
             rfl
            ·
             rfl
           refine hK.out _ _ ⟨(blk_cell (blk_alloc BK309.out _) 0).trans rfl, (blk_cell (blk_alloc BK309.out _) 1).trans rfl, (blk_cell (blk_alloc BK309.out _) 2).trans rfl, (blk_cell (blk_alloc BK309.out _) 3).trans rfl, (blk_cell (blk_alloc BK309.out _) 4).trans rfl, (blk_cell (blk_alloc BK309.out _) 5).trans rfl, (blk_cell (blk_alloc BK309.out _) 6).trans rfl⟩ (fun hHeld => ?_)
           clear hK K
           refine norm_ (a' := ?_) ?_ ?_; rotate_left; (show Act.put _ (some 117) _ = _; simp only [Act.put, put_x, i64_w, i32_w]; rfl)
           refine one_ (i := 9) (N := some 118) (bz 12 1023) rfl rfl (one_of HT_.out (by kernel_rfl)) (by decide) (fun K hK => ?_)
           refine Kd.R_append_step k79 w.heap.size (by rfl) (.tmp 110) (.tmp 117) 24 79 (.agg #[(.int .i64 0), (.int .i64 0), (.int .i64 0)]) 24 rfl Try.underlying24 info79 rfl (by decide) (by omega) u310006 x310006_3 (⟨(⟨t354, t355⟩ : S56), t357⟩ : S79) [.int .i64 t354, .int .i64 t355, .int .i64 t357] (fun _ => True) (fun _ => False) rfl rfl ?aP (fun _ hk => hk.elim) ?aF ?aO (Below.refl _ _) ?aS ?aL ?_
           (case aP => exact k79_mkM _ _ _ (⟨(⟨t354, t355⟩ : S56), t357⟩ : S79))
           (case aF => exact (fun _ _ => trivial))
           (case aO => exact (Kd.R_x HO_310006.out))
           (case aS => exact (keep_size (w := w) (g := g) (row := none) (by exact keep_y HK.out)))
           (case aL => have := LMc89.out; omega)
           intro v360 w93 ho hb hg hat
           rw [← Ny359.out] at ho
           replace HO_310003 := Aside0.mk (Kd.R_over' (Kd.R_x HO_310003.out) (Kd.R_typed (Kd.R_x HO_310006.out)) (by decide) hg)
           replace HO_310005 := Aside0.mk (Kd.S_over' (Kd.S_x HO_310005.out) (Kd.R_typed (Kd.R_x HO_310006.out)) (by decide) hg)
           replace BK295 := Aside0.mk (blk_grown (blk_x BK295.out) hg (Kd.R_ne HO_310006.out BK295.out (by decide)))
           replace BK309 := Aside0.mk (blk_grown (blk_x BK309.out) hg (Kd.R_ne HO_310006.out BK309.out (by decide)))
           replace HI0 := Aside0.mk (IsS90.grown (by exact IsS90.up HI0.out) hg (IsS90.own_ne HI0.out HO_310006.out (by decide)))
           replace HB := Aside0.mk (below_weaken (by exact below_y HB.out) HL.out hb)
           replace HK := Aside0.mk (KeepBut.trans (by exact keep_y HK.out) (KeepBut.of_grown hg g) (Kd.R_base2 HO_310006.out))
           have HO361 := Aside0.mk (ho)
           clear HO_310006 ho hb hg hat
           obtain ⟨Ao94, co94, eo94⟩ := Kd.R_slice HO361.out
           (first | subst eo94 | (injection eo94 with f1_ f2_ f3_; have f4_ := f1_.symm; have f5_ := f3_.symm; clear f1_ f2_ f3_; subst f4_; subst f5_))
           refine hK.out _ _ ⟨(blk_cell BK309.out 0).trans rfl, (blk_cell BK309.out 1).trans rfl, (blk_cell BK309.out 2).trans rfl, (blk_cell BK309.out 3).trans rfl, (blk_cell BK309.out 4).trans rfl, (blk_cell BK309.out 5).trans rfl, (blk_cell BK309.out 6).trans rfl⟩ (fun hHeld => ?_)
           clear hK K
           refine norm_ (a' := ?_) ?_ ?_; rotate_left; (show Act.put _ (some 118) _ = _; simp only [Act.put, put_x, i64_w, i32_w]; rfl)
           refine pure_t 10 (some 119) (bz 12 2047) HT_ ?_
           refine last_ (i := 11) (N := none) (bz 12 4095) rfl rfl (one_of HT_.out (by kernel_rfl)) (by decide) (fun K hK => ?_)
           have hs95 : w93.cell? ⟨gb309, 6, none⟩ = some (u310006) := (blk_cell BK309.out 6).trans rfl
           have hfs95 := blk_frozen BK309.out 6
           have hns95_0 := NB295_309.out
           have hms95_0 := NB309_295.out
           refine skip_ (w1 := ?_) (by rfl) rfl ?_ ?_
           rotate_left
           ·
            go_simp
            rfl
           refine hK.out _ _ ?_
           clear hK K
           refine done_ (done_of HT_.out (by kernel_rfl)) ?_
           try go_wp2
           go_roundg k3
           case measure => have := HK1.out; have := HK2.out; have := HK3.out; omega
           case rel => exact ⟨(wrap64 (x17_3 - 1)), (t358), (y359), (.slice Ao94 y359.length co94), (by first | rfl | (simp; done) | (simp [*]; done)), H', ⟨by have := HK1.out; have := HK2.out; have := HK3.out; omega⟩, ⟨by (with_reducible repeat (first | apply Kd.R_alloc | apply Kd.R_drewN | apply Kd.R_drew)); exact Kd.R_mono (Kd.R_far (p := ⟨gb309, 6, none⟩) (Kd.R_types HO_310003.out BK309.out (by decide)) (fun _ hk => hk.2) (.slice Ao94 y359.length co94)) (fun _ hk => trivial)⟩, ⟨by (with_reducible repeat (first | apply Kd.S_alloc | apply Kd.S_drewN | apply Kd.S_drew)); exact Kd.S_mono (Kd.S_far (p := ⟨gb309, 6, none⟩) (Kd.S_types HO_310005.out BK309.out (by decide)) (fun _ hk => hk.2) (.slice Ao94 y359.length co94)) (fun _ hk => trivial)⟩, ⟨by (with_reducible repeat (first | apply Kd.R_alloc | apply Kd.R_drewN | apply Kd.R_drew)); exact Kd.R_mono (Kd.R_far (p := ⟨gb309, 6, none⟩) (Kd.R_types HO361.out BK309.out (by decide)) (fun _ hk => hk.2) (.slice Ao94 y359.length co94)) (fun _ hk => trivial)⟩, ⟨blk_w BK295.out⟩, ⟨by (with_reducible repeat (first | refine blk_drewN ?_ _ | refine blk_drew ?_ | refine blk_alloc ?_ _)); refine blk_put (cs := #[.int .i64 t296, .int .i64 t298, .int .i64 t305, u310003, .int .i64 t307, u310005, u310006]) ?_ 6 _ rfl; (with_reducible repeat (first | refine blk_drewN ?_ _ | refine blk_drew ?_ | refine blk_alloc ?_ _)); exact BK309.out⟩, ⟨by exact IsS90.up HI0.out⟩, ⟨by exact keep_y HK.out⟩, ⟨by exact below_y HB.out⟩⟩
          ·
           rw [if_neg c89] at H
           exact absurd H (by simp)
         ·
          rw [if_neg c86] at H
          have c86b0 : decide (0 < x17_3) = false := decide_eq_false c86
          clear c86
          simp only [Option.some.injEq, Prod.mk.injEq] at H
          obtain ⟨rfl, rfl, rfl, rfl, rfl, rfl, rfl, rfl⟩ := H
          have hnb96 := NB309_295.out
          have hnc96 := NB295_309.out
          have hnb97 := NB309_0.out
          have hnc97 := NB0_309.out
          obtain ⟨_, _, _, _, _, _, _⟩ := cz7 BK309
          have hfz98_0 := blk_frozen BK309.out
          have hnb99 := NB295_0.out
          have hnc99 := NB0_295.out
          obtain ⟨_, _, _, _, _, _, _⟩ := cz7 BK295
          have hfz100_0 := blk_frozen BK295.out
          obtain ⟨Ao101, co101, eo101⟩ := Kd.R_slice HO_310003.out
          subst eo101
          obtain ⟨Ao102, co102, eo102⟩ := Kd.S_slice HO_310005.out
          subst eo102
          obtain ⟨Ao103, co103, eo103⟩ := Kd.R_slice HO_310006.out
          subst eo103
          go_wp2
          refine bodyPost_ret (results_cell_row rfl _ _ gb295 26 #[.int .i64 t296, .int .i64 t298, .int .i64 t305, .slice Ao101 x310003_1.length co101, .int .i64 t307, .slice Ao102 x310005_2.length co102, .slice Ao103 x310006_3.length co103] (0, 0) _ rfl (by (with_reducible repeat (first | refine blk_drewN ?_ _ | refine blk_drew ?_ | refine blk_alloc ?_ _)); refine blk_put (cs := #[.int .i64 t296, .int .i64 t298, .int .i64 t305, .slice Ao101 x310003_1.length co101, .int .i64 t307, .slice Ao102 x310005_2.length co102, .slice none 0 0]) ?_ 6 _ rfl; (with_reducible repeat (first | refine blk_drewN ?_ _ | refine blk_drew ?_ | refine blk_alloc ?_ _)); refine blk_put (cs := #[.int .i64 t296, .int .i64 t298, .int .i64 t305, .slice Ao101 x310003_1.length co101, .int .i64 t307, .slice none 0 0, .slice none 0 0]) ?_ 5 _ rfl; (with_reducible repeat (first | refine blk_drewN ?_ _ | refine blk_drew ?_ | refine blk_alloc ?_ _)); refine blk_put (cs := #[.int .i64 t296, .int .i64 t298, .int .i64 t305, .slice Ao101 x310003_1.length co101, .int .i64 0, .slice none 0 0, .slice none 0 0]) ?_ 4 _ rfl; (with_reducible repeat (first | refine blk_drewN ?_ _ | refine blk_drew ?_ | refine blk_alloc ?_ _)); refine blk_put (cs := #[.int .i64 t296, .int .i64 t298, .int .i64 t305, .slice none 0 0, .int .i64 0, .slice none 0 0, .slice none 0 0]) ?_ 3 _ rfl; (with_reducible repeat (first | refine blk_drewN ?_ _ | refine blk_drew ?_ | refine blk_alloc ?_ _)); refine blk_put (cs := #[.int .i64 t296, .int .i64 t298, .int .i64 0, .slice none 0 0, .int .i64 0, .slice none 0 0, .slice none 0 0]) ?_ 2 _ rfl; (with_reducible repeat (first | refine blk_drewN ?_ _ | refine blk_drew ?_ | refine blk_alloc ?_ _)); refine blk_put (cs := #[.int .i64 t296, .int .i64 0, .int .i64 0, .slice none 0 0, .int .i64 0, .slice none 0 0, .slice none 0 0]) ?_ 1 _ rfl; (with_reducible repeat (first | refine blk_drewN ?_ _ | refine blk_drew ?_ | refine blk_alloc ?_ _)); refine blk_put (cs := #[.int .i64 0, .int .i64 0, .int .i64 0, .slice none 0 0, .int .i64 0, .slice none 0 0, .slice none 0 0]) ?_ 0 _ rfl; (with_reducible repeat (first | refine blk_drewN ?_ _ | refine blk_drew ?_ | refine blk_alloc ?_ _)); exact BK295.out) Try.underlying26 rfl (by kernel_rfl)) rfl ?_
          exact ⟨_, _, _, by first | rfl | (simp [errW_none, errW_some] <;> rfl) | (simp [*, errW_none, errW_some] <;> rfl), by (with_reducible repeat (first | apply Kd.R_alloc | apply Kd.R_drewN | apply Kd.R_drew)); exact Kd.R_mono (Kd.R_far (p := ⟨gb295, 6, none⟩) (Kd.R_far (p := ⟨gb295, 5, none⟩) (Kd.R_far (p := ⟨gb295, 4, none⟩) (Kd.R_far (p := ⟨gb295, 3, none⟩) (Kd.R_far (p := ⟨gb295, 2, none⟩) (Kd.R_far (p := ⟨gb295, 1, none⟩) (Kd.R_far (p := ⟨gb295, 0, none⟩) (Kd.R_types HO_310003.out BK295.out (by decide)) (fun _ hk => hk.2) (.int .i64 t296)) (fun _ hk => hk.2) (.int .i64 t298)) (fun _ hk => hk.2) (.int .i64 t305)) (fun _ hk => hk.2) (.slice Ao101 x310003_1.length co101)) (fun _ hk => hk.2) (.int .i64 t307)) (fun _ hk => hk.2) (.slice Ao102 x310005_2.length co102)) (fun _ hk => hk.2) (.slice Ao103 x310006_3.length co103)) (fun _ hk => trivial), by (with_reducible repeat (first | apply Kd.S_alloc | apply Kd.S_drewN | apply Kd.S_drew)); exact Kd.S_mono (Kd.S_far (p := ⟨gb295, 6, none⟩) (Kd.S_far (p := ⟨gb295, 5, none⟩) (Kd.S_far (p := ⟨gb295, 4, none⟩) (Kd.S_far (p := ⟨gb295, 3, none⟩) (Kd.S_far (p := ⟨gb295, 2, none⟩) (Kd.S_far (p := ⟨gb295, 1, none⟩) (Kd.S_far (p := ⟨gb295, 0, none⟩) (Kd.S_types HO_310005.out BK295.out (by decide)) (fun _ hk => hk.2) (.int .i64 t296)) (fun _ hk => hk.2) (.int .i64 t298)) (fun _ hk => hk.2) (.int .i64 t305)) (fun _ hk => hk.2) (.slice Ao101 x310003_1.length co101)) (fun _ hk => hk.2) (.int .i64 t307)) (fun _ hk => hk.2) (.slice Ao102 x310005_2.length co102)) (fun _ hk => hk.2) (.slice Ao103 x310006_3.length co103)) (fun _ hk => trivial), by (with_reducible repeat (first | apply Kd.R_alloc | apply Kd.R_drewN | apply Kd.R_drew)); exact Kd.R_mono (Kd.R_far (p := ⟨gb295, 6, none⟩) (Kd.R_far (p := ⟨gb295, 5, none⟩) (Kd.R_far (p := ⟨gb295, 4, none⟩) (Kd.R_far (p := ⟨gb295, 3, none⟩) (Kd.R_far (p := ⟨gb295, 2, none⟩) (Kd.R_far (p := ⟨gb295, 1, none⟩) (Kd.R_far (p := ⟨gb295, 0, none⟩) (Kd.R_types HO_310006.out BK295.out (by decide)) (fun _ hk => hk.2) (.int .i64 t296)) (fun _ hk => hk.2) (.int .i64 t298)) (fun _ hk => hk.2) (.int .i64 t305)) (fun _ hk => hk.2) (.slice Ao101 x310003_1.length co101)) (fun _ hk => hk.2) (.int .i64 t307)) (fun _ hk => hk.2) (.slice Ao102 x310005_2.length co102)) (fun _ hk => hk.2) (.slice Ao103 x310006_3.length co103)) (fun _ hk => trivial), by exact IsS90.up HI0.out, by exact below_y HB.out, by exact keep_y HK.out⟩
end Go.Proofs.Ytodmemndaaiolaa.PC7
namespace Go.Proofs.Ytodmemndaaiolaa.PC7
set_option linter.unusedVariables false
set_option linter.unusedSimpArgs false
open Go.RowKit Go.Proofs.YtodmemndaaiolaaW.PrintWords Go.Proofs.YtodmemndaaiolaaW.PrintLast Go.Proofs.YtodmemndaaiolaaW.PrintMore
theorem wrap64_id {n : Int} (h0 : -9223372036854775808 ≤ n) (h : n ≤ 9223372036854775807) : wrap64 n = n := IntWalk.wrap64_in n ⟨h0, h⟩
theorem wrapS {i : Nat} (h : i < 4611686018427387904) : wrap64 ((i : Int) + 1) = ((i + 1 : Nat) : Int) := by rw [wrap64_id (by omega) (by omega)]; omega
theorem wrapP {i : Nat} (h0 : 0 < i) (h : i < 4611686018427387904) : wrap64 ((i : Int) - 1) = ((i - 1 : Nat) : Int) := by rw [wrap64_id (by omega) (by omega)]; omega
theorem getD_mem {α : Type} (l : List α) (k : Nat) (d : α) (h : k < l.length) : l.getD k d ∈ l := by
  rw [List.getD, List.getElem?_eq_getElem h]; exact List.getElem_mem h
theorem getD_get {α : Type} (l : List α) (k : Nat) (d : α) (h : k < l.length) : l.getD k d = l[k] := by
  rw [List.getD, List.getElem?_eq_getElem h]; rfl
theorem getD_snoc_lt {α : Type} (l : List α) (x d : α) {i : Nat} (h : i < l.length) : (l ++ [x]).getD i d = l.getD i d := by
  rw [List.getD, List.getD, List.getElem?_append_left h]
theorem getD_snoc_eq {α : Type} (l : List α) (x d : α) : (l ++ [x]).getD l.length d = x := by
  rw [List.getD, List.getElem?_append_right (Nat.le_refl _)]; simp
def Res {α : Type} (g : Nat → Option α) (P : α → Prop) : Prop := ∃ r, Ev g r ∧ P r
theorem Ev.succ {α : Type} {g : Nat → Option α} {r : α} (h : Ev (fun k => g (k + 1)) r) : Ev g r := Ev.step (fun _ => rfl) h
theorem Res.step {α : Type} {g f : Nat → Option α} {P : α → Prop} (h : ∀ k, g (k + 1) = f k) (k : Res f P) : Res g P := by
  obtain ⟨r, h1, h2⟩ := k
  exact ⟨r, Ev.step h h1, h2⟩
theorem Res.succ {α : Type} {g : Nat → Option α} {P : α → Prop} (h : Res (fun k => g (k + 1)) P) : Res g P := Res.step (fun _ => rfl) h
theorem Res.now {α : Type} {P : α → Prop} {r : α} (hp : P r) : Res (fun _ => some r) P := ⟨r, Ev.now r, hp⟩
theorem Res.mono {α : Type} {g : Nat → Option α} {P Q : α → Prop} (h : Res g P) (k : ∀ r, P r → Q r) : Res g Q := by
  obtain ⟨r, h1, h2⟩ := h
  exact ⟨r, h1, k r h2⟩
theorem Res.bind {α β : Type} {g : Nat → Option α} {f : Nat → α → Option β} {P : β → Prop} {a : α} (h : Ev g a) (k : Res (fun n => f n a) P) : Res (fun n => (g n).bind (f n)) P := by
  obtain ⟨r, h1, h2⟩ := k
  exact ⟨r, Ev.bind h h1, h2⟩
theorem Ev.tail {α : Type} {g : Nat → Option α} {r : α} (h : Ev g r) : Ev (fun k => (g k).bind fun t => some t) r := Ev.bind h (Ev.now r)
theorem Ev.take {α β : Type} {o : Option α} {a : α} {f : Nat → α → Option β} {r : β} (h : o = some a) (k : Ev (fun n => f n a) r) : Ev (fun n => o.bind (f n)) r := by subst h; exact k
theorem Res.take {α β : Type} {o : Option α} {a : α} {f : Nat → α → Option β} {P : β → Prop} (h : o = some a) (k : Res (fun n => f n a) P) : Res (fun n => o.bind (f n)) P := by subst h; exact k
theorem u64_bd (n : Int) : 0 ≤ IntKind.u64.wrap n ∧ IntKind.u64.wrap n < 18446744073709551616 := by
  have : IntKind.u64.wrap n = n % 18446744073709551616 := by simp [IntKind.wrap, IntKind.bits, IntKind.signed]
  omega
theorem u64_id {n : Int} (h0 : 0 ≤ n) (h : n < 18446744073709551616) : IntKind.u64.wrap n = n := by
  have : IntKind.u64.wrap n = n % 18446744073709551616 := by simp [IntKind.wrap, IntKind.bits, IntKind.signed]
  omega
theorem below_ok (s n : Int) (h1 : 1 ≤ n) (h : n ≤ 1000000000) : ∃ r s', swarfkit_Feed_Below.f s n = some (r, s') ∧ 0 ≤ r ∧ r < n := by
  unfold swarfkit_Feed_Below.f
  by_cases h2 : n < 2
  · rw [if_pos h2]
    exact ⟨0, s, rfl, by omega, by omega⟩
  · rw [if_neg h2]
    unfold swarfkit_Feed_next.f
    simp only [Option.bind_some]
    rw [u64_id (by omega) (by omega), if_neg (by omega)]
    refine ⟨_, _, rfl, ?_⟩
    obtain ⟨ha, hb⟩ := u64_bd (feedN s * 2685821657736338717)
    have hm : feedM (feedN s) = IntKind.u64.wrap (feedN s * 2685821657736338717) := rfl
    rw [hm]
    generalize IntKind.u64.wrap (feedN s * 2685821657736338717) = x at *
    have hx : 0 ≤ x / 256 := by omega
    rw [Int.tmod_eq_emod_of_nonneg hx]
    have h3 := Int.emod_nonneg (x / 256) (show n ≠ 0 by omega)
    have h4 := Int.emod_lt_of_pos (x / 256) (show 0 < n by omega)
    rw [wrap64_id (by omega) (by omega)]
    exact ⟨h3, h4⟩
theorem between_ok (s lo hi : Int) (h : lo ≤ hi) (h0 : -1000 ≤ lo) (h1 : hi ≤ 1000000) : ∃ r s', swarfkit_Feed_Between.f s lo hi = some (r, s') ∧ lo ≤ r ∧ r ≤ hi := by
  obtain ⟨r, s', h2, h3, h4⟩ := below_ok s (hi - lo + 1) (by omega) (by omega)
  refine ⟨lo + r, s', ?_, by omega, by omega⟩
  unfold swarfkit_Feed_Between.f
  rw [wrap64_id (n := hi - lo) (by omega) (by omega), wrap64_id (by omega) (by omega), h2]
  simp only [Option.bind_some]
  rw [wrap64_id (by omega) (by omega)]
theorem either_ok (s : Int) (l : List Int) (h0 : l ≠ []) (h : l.length ≤ 1000) : ∃ r s', swarfkit_Feed_Either.f s l = some (r, s') ∧ r ∈ l := by
  have hl : 0 < l.length := List.length_pos_iff.2 h0
  obtain ⟨r, s', h2, h3, h4⟩ := below_ok s l.length (by omega) (by omega)
  refine ⟨rd l r, s', ?_, ?_⟩
  · unfold swarfkit_Feed_Either.f
    rw [if_neg (by omega), h2]
    simp only [Option.bind_some]
    rw [if_pos h3, if_pos h4]
  · obtain ⟨k, rfl⟩ : ∃ k : Nat, r = k := ⟨r.toNat, by omega⟩
    have hk : k < l.length := by omega
    have e : rd l (k : Int) = l.getD k 0 := by simp [rd]
    rw [e]
    exact getD_mem _ _ _ hk
theorem mn_cases (a b : Int) : (mn a b = a ∧ a ≤ b) ∨ (mn a b = b ∧ b ≤ a) := by
  unfold mn
  by_cases h : b < a
  · rw [if_pos h]; exact .inr ⟨rfl, by omega⟩
  · rw [if_neg h]; exact .inl ⟨rfl, by omega⟩
theorem range_ok (s lo hi : Int) (h : lo ≤ hi) (h0 : 0 ≤ lo) (h1 : hi ≤ 1000000) : ∃ a b s', swarfkit_Feed_Range.f s lo hi = some (a, b, s') ∧ lo ≤ a ∧ a ≤ b ∧ b ≤ hi := by
  obtain ⟨x, s1, e1, x1, x2⟩ := between_ok s lo hi h (by omega) h1
  obtain ⟨d, s2, e2, d1, d2⟩ := below_ok s1 4 (by decide) (by decide)
  obtain ⟨y, s3, e3, y1, y2⟩ := between_ok s2 x hi x2 (by omega) h1
  obtain ⟨u, hu⟩ : ∃ u, u = mn hi (wrap64 (x + d)) := ⟨_, rfl⟩
  have hw : wrap64 (x + d) = x + d := wrap64_id (by omega) (by omega)
  have hub : x ≤ u ∧ u ≤ hi := by
    rw [hu, hw]
    rcases mn_cases hi (x + d) with ⟨e, h⟩ | ⟨e, h⟩ <;> omega
  obtain ⟨z, s4, e4, hz⟩ := either_ok s3 [x, u, y] (by simp) (show 3 ≤ 1000 by decide)
  rw [hu] at e4
  refine ⟨x, z, s4, ?_, x1, ?_⟩
  · unfold swarfkit_Feed_Range.f
    refine Option.bind_eq_some_iff.2 ⟨_, e1, ?_⟩
    refine Option.bind_eq_some_iff.2 ⟨_, e2, ?_⟩
    refine Option.bind_eq_some_iff.2 ⟨_, e3, ?_⟩
    exact Option.bind_eq_some_iff.2 ⟨_, e4, rfl⟩
  · rcases List.mem_cons.1 hz with e | hz
    · omega
    rcases List.mem_cons.1 hz with e | hz
    · omega
    rcases List.mem_cons.1 hz with e | hz
    · omega
    · cases hz
structure LevsOK (T fr : Int) (l : List S62) : Prop where
  bd : ∀ i, i < l.length → 0 ≤ (l.getD i z62).f0 ∧ (l.getD i z62).f0 < fr ∧ 0 ≤ (l.getD i z62).f1.f0 ∧ (l.getD i z62).f1.f0 ≤ (l.getD i z62).f1.f1 ∧ (l.getD i z62).f1.f1 ≤ 12 + 2 * T
  up : ∀ i, i + 1 < l.length → (l.getD i z62).f0 < (l.getD (i + 1) z62).f0
  zero : 0 < l.length → (l.getD 0 z62).f0 = 0
  first : l.length = 0 → fr = 0
  lim : 0 ≤ fr ∧ fr ≤ 9 * l.length
theorem LevsOK.nil (T : Int) : LevsOK T 0 [] := ⟨fun i h => by simp at h, fun i h => by simp at h, fun h => by simp at h, fun _ => rfl, by simp⟩
theorem LevsOK.snoc {T fr : Int} {l : List S62} (h : LevsOK T fr l) {a b st : Int} (ha : 0 ≤ a) (hab : a ≤ b) (hb : b ≤ 12 + 2 * T) (h1 : 1 ≤ st) (h9 : st ≤ 9) : LevsOK T (fr + st) (l ++ [⟨fr, ⟨a, b⟩⟩]) := by
  have hl := h.lim
  refine ⟨fun i hi => ?_, fun i hi => ?_, fun _ => ?_, fun hh => by simp at hh, ?_⟩
  · rw [List.length_append, List.length_singleton] at hi
    by_cases e : i = l.length
    · subst e; rw [getD_snoc_eq]; exact ⟨hl.1, by show fr < fr + st; omega, ha, hab, hb⟩
    · rw [getD_snoc_lt _ _ _ (by omega)]
      obtain ⟨a1, a2, a3⟩ := h.bd i (by omega)
      exact ⟨a1, by omega, a3⟩
  · rw [List.length_append, List.length_singleton] at hi
    rw [getD_snoc_lt _ _ _ (by omega)]
    by_cases e : i + 1 = l.length
    · rw [e, getD_snoc_eq]; exact (h.bd i (by omega)).2.1
    · rw [getD_snoc_lt _ _ _ (by omega)]; exact h.up i (by omega)
  · by_cases e : l.length = 0
    · have e2 := getD_snoc_eq l (⟨fr, ⟨a, b⟩⟩ : S62) z62
      rw [e] at e2
      rw [e2]
      exact h.first e
    · rw [getD_snoc_lt _ _ _ (by omega)]; exact h.zero (by omega)
  · rw [List.length_append, List.length_singleton]; omega
def SillV (T : Int) (s : S59) : Prop := 0 ≤ s.f0.f0 ∧ s.f0.f0 ≤ s.f0.f1 ∧ s.f0.f1 ≤ 12 ∧ 1 ≤ s.f1.length ∧ s.f1.length ≤ 4 ∧ ∃ fr, LevsOK T fr s.f1
def HoldV (T : Int) (h : S85) : Prop := 0 ≤ h.f0 ∧ h.f0 ≤ 3 * T ∧ 0 ≤ h.f1 ∧ h.f1 < 1500 ∧ 0 ≤ h.f2 ∧ h.f2 < 1500
def LotV (T : Int) (c : S79) : Prop := 0 ≤ c.f0.f0 ∧ c.f0.f0 ≤ c.f0.f1 ∧ c.f0.f1 ≤ T ∧ 0 ≤ c.f1 ∧ c.f1 < 30
structure VoyOK (H S L : Nat) (T : Int) (light under trim : Int) (holds : List S85) (leaves : Int) (sills : List S59) (lots : List S79) : Prop where
  light : 0 ≤ light ∧ light < 9
  under : 0 ≤ under ∧ under < 4
  trim : 0 ≤ trim ∧ trim ≤ 40
  leaves : 0 ≤ leaves ∧ leaves < 9
  hn : 1 ≤ holds.length ∧ holds.length ≤ H
  ho : ∀ h, h ∈ holds → HoldV T h
  sn : sills.length ≤ S
  si : ∀ s, s ∈ sills → SillV T s
  ln : lots.length ≤ L
  lo : ∀ c, c ∈ lots → LotV T c
theorem mem_snoc {α : Type} {P : α → Prop} {l : List α} {x : α} (h : ∀ y, y ∈ l → P y) (hx : P x) : ∀ y, y ∈ l ++ [x] → P y := by
  intro y hy
  rcases List.mem_append.1 hy with hy | hy
  · exact h y hy
  · rw [List.mem_singleton.1 hy]; exact hx
abbrev VoyT := Int × Int × Int × (List (S85)) × Int × (List (S59)) × (List (S79)) × Int
theorem voy_l3 (T L U R V : Int) (holds : List S85) (sills : List S59) (hT : 0 ≤ T) (hT2 : T ≤ 1000) (P : VoyT → Prop) (M : Nat) (hM : M ≤ 1000)
    (hP : ∀ lots s, (∀ c, c ∈ lots → LotV T c) → lots.length = M → P (L, U, R, holds, V, sills, lots, s)) :
    ∀ (d : Nat) (s : Int) (lots : List S79), (∀ c, c ∈ lots → LotV T c) → lots.length + d = M → Res (fun k => swarfkit_VoyageOf.l3 k T (d : Int) s L U R holds V sills lots) P := by
  intro d
  induction d with
  | zero =>
    intro s lots hl hm
    refine Res.succ ?_
    simp (disch := omega) only [swarfkit_VoyageOf.l3, if_neg]
    exact Res.now (hP lots s hl (by omega))
  | succ d ih =>
    intro s lots hl hm
    refine Res.succ ?_
    simp (disch := omega) only [swarfkit_VoyageOf.l3, if_pos]
    obtain ⟨a, b, s1, e1, a1, a2, a3⟩ := range_ok s 0 T (by omega) (by omega) (by omega)
    obtain ⟨c, s2, e2, c1, c2⟩ := below_ok s1 30 (by decide) (by decide)
    refine Res.take e1 (Res.take e2 ?_)
    rw [wrapP (by omega) (by omega)]
    exact ih s2 _ (mem_snoc hl ⟨a1, a2, a3, c1, c2⟩) (by simp; omega)
theorem voy_l2 (T L U R V : Int) (H : Nat) (x3 : Int) (holds : List S85) (sills : List S59) (hT : 0 ≤ T) (hT2 : T ≤ 1000) (hs : sills.length ≤ 1000) (a b x13 : Int) (P : VoyT → Prop) (N : Nat) (hN : N ≤ 4)
    (hP : ∀ lv s fr, LevsOK T fr lv → lv.length = N → Res (fun k => swarfkit_VoyageOf.l1 k x3 T (wrap64 (x13 - 1)) s L U R holds V (sills ++ [⟨⟨a, b⟩, lv⟩])) P) :
    ∀ (d : Nat) (fr s : Int) (lv : List S62), LevsOK T fr lv → lv.length + d = N → Res (fun k => swarfkit_VoyageOf.l2 k x3 T x13 fr (d : Int) s L U R holds V sills a b lv) P := by
  intro d
  induction d with
  | zero =>
    intro fr s lv hl hm
    refine Res.succ ?_
    simp (disch := omega) only [swarfkit_VoyageOf.l2, if_neg, if_pos]
    exact hP lv s fr hl (by omega)
  | succ d ih =>
    intro fr s lv hl hm
    refine Res.succ ?_
    have hlim := hl.lim
    obtain ⟨c, s1, e1, c1, c2⟩ := below_ok s 12 (by decide) (by decide)
    obtain ⟨p, q, s2, e2, p1, p2, p3⟩ := range_ok s1 c (12 + 2 * T) (by omega) (by omega) (by omega)
    obtain ⟨st, s3, e3, t1, t2⟩ := between_ok s2 1 9 (by decide) (by decide) (by decide)
    have hw : wrap64 (12 + wrap64 (2 * T)) = 12 + 2 * T := by rw [wrap64_id (n := 2 * T) (by omega) (by omega)]; exact wrap64_id (by omega) (by omega)
    have hw2 : wrap64 (fr + st) = fr + st := wrap64_id (by omega) (by omega)
    simp (disch := omega) only [swarfkit_VoyageOf.l2, if_pos]
    refine Res.take e1 ?_
    dsimp only
    rw [hw]
    refine Res.take e2 (Res.take e3 ?_)
    dsimp only
    rw [wrapP (by omega) (by omega), hw2]
    exact ih (fr + st) s3 _ (hl.snoc (by omega) p2 p3 t1 t2) (by simp; omega)
theorem voy_l1 (T L U R V : Int) (holds : List S85) (x3 : Nat) (hx3 : x3 ≤ 100) (hT : 0 ≤ T) (hT2 : T ≤ 1000) (P : VoyT → Prop) (M : Nat) (hM : M ≤ 1000)
    (hP : ∀ sills lots s, (∀ c, c ∈ sills → SillV T c) → sills.length = M → (∀ c, c ∈ lots → LotV T c) → lots.length ≤ x3 → P (L, U, R, holds, V, sills, lots, s)) :
    ∀ (d : Nat) (s : Int) (sills : List S59), (∀ c, c ∈ sills → SillV T c) → sills.length + d = M → Res (fun k => swarfkit_VoyageOf.l1 k x3 T (d : Int) s L U R holds V sills) P := by
  intro d
  induction d with
  | zero =>
    intro s sills hs hm
    refine Res.succ ?_
    obtain ⟨r, s1, e1, r1, r2⟩ := below_ok s ((x3 : Int) + 1) (by omega) (by omega)
    simp (disch := omega) only [swarfkit_VoyageOf.l1, if_neg]
    rw [wrapS (by omega), show ((x3 + 1 : Nat) : Int) = (x3 : Int) + 1 by omega]
    refine Res.take e1 ?_
    obtain ⟨n, rfl⟩ := Int.eq_ofNat_of_zero_le r1
    exact voy_l3 T L U R V holds sills hT hT2 P n (by omega) (fun lots s2 hl hn => hP sills lots s2 hs (by omega) hl (by omega)) n s1 [] (fun _ h => by cases h) (by simp)
  | succ d ih =>
    intro s sills hs hm
    refine Res.succ ?_
    obtain ⟨c, s1, e1, hc⟩ := either_ok s [3, 12] (by simp) (show 2 ≤ 1000 by decide)
    have hcb : 3 ≤ c ∧ c ≤ 12 := by
      rcases List.mem_cons.1 hc with rfl | hc
      · omega
      · rw [List.mem_singleton.1 hc]; omega
    obtain ⟨a, b, s2, e2, a1, a2, a3⟩ := range_ok s1 0 c (by omega) (by omega) (by omega)
    obtain ⟨n, s3, e3, n1, n2⟩ := between_ok s2 1 4 (by decide) (by decide) (by decide)
    simp (disch := omega) only [swarfkit_VoyageOf.l1, if_pos]
    refine Res.take e1 (Res.take e2 (Res.take e3 ?_))
    dsimp only
    obtain ⟨m, rfl⟩ := Int.eq_ofNat_of_zero_le (show 0 ≤ n by omega)
    refine voy_l2 T L U R V 0 x3 holds sills hT hT2 (by omega) a b _ P m (by omega) (fun lv s4 fr hl hn => ?_) m 0 s3 [] (LevsOK.nil T) (by simp)
    rw [wrapP (by omega) (by omega)]
    exact ih s4 _ (mem_snoc hs ⟨a1, a2, by show b ≤ 12; omega, by show 1 ≤ lv.length; omega, by show lv.length ≤ 4; omega, fr, hl⟩) (by simp; omega)
theorem voy_l0 (T L U R V : Int) (x2 x3 : Nat) (hx2 : x2 ≤ 100) (hx3 : x3 ≤ 100) (hT : 1 ≤ T) (hT2 : T ≤ 1000) (P : VoyT → Prop) (M : Nat) (hM : M ≤ 1000)
    (hP : ∀ holds sills lots s, (∀ h, h ∈ holds → HoldV T h) → holds.length = M → (∀ c, c ∈ sills → SillV T c) → sills.length ≤ x2 → (∀ c, c ∈ lots → LotV T c) → lots.length ≤ x3 → P (L, U, R, holds, V, sills, lots, s)) :
    ∀ (d : Nat) (s : Int) (holds : List S85), (∀ h, h ∈ holds → HoldV T h) → holds.length + d = M → Res (fun k => swarfkit_VoyageOf.l0 k x2 x3 T (d : Int) s L U R holds V) P := by
  intro d
  induction d with
  | zero =>
    intro s holds hh hm
    refine Res.succ ?_
    obtain ⟨r, s1, e1, r1, r2⟩ := below_ok s ((x2 : Int) + 1) (by omega) (by omega)
    simp (disch := omega) only [swarfkit_VoyageOf.l0, if_neg]
    rw [wrapS (by omega), show ((x2 + 1 : Nat) : Int) = (x2 : Int) + 1 by omega]
    refine Res.take e1 ?_
    obtain ⟨n, rfl⟩ := Int.eq_ofNat_of_zero_le r1
    exact voy_l1 T L U R V holds x3 hx3 (by omega) hT2 P n (by omega) (fun sills lots s2 hs hn hl hln => hP holds sills lots s2 hh (by omega) hs (by omega) hl hln) n s1 [] (fun _ h => by cases h) (by simp)
  | succ d ih =>
    intro s holds hh hm
    refine Res.succ ?_
    have hw : wrap64 (3 * T) = 3 * T := wrap64_id (by omega) (by omega)
    obtain ⟨c, s1, e1, c1, c2⟩ := below_ok s (3 * T) (by omega) (by omega)
    obtain ⟨r, s2, e2, hr⟩ := either_ok s1 [T, 3 * T, c] (by simp) (show 3 ≤ 1000 by decide)
    have hrb : 0 ≤ r ∧ r ≤ 3 * T := by
      rcases List.mem_cons.1 hr with rfl | hr
      · omega
      rcases List.mem_cons.1 hr with rfl | hr
      · omega
      · rw [List.mem_singleton.1 hr]; omega
    obtain ⟨p, s3, e3, p1, p2⟩ := below_ok s2 1500 (by decide) (by decide)
    obtain ⟨q, s4, e4, q1, q2⟩ := below_ok s3 1500 (by decide) (by decide)
    simp (disch := omega) only [swarfkit_VoyageOf.l0, if_pos, hw]
    refine Res.take e1 (Res.take e2 (Res.take e3 (Res.take e4 ?_)))
    dsimp only
    rw [wrapP (by omega) (by omega)]
    exact ih s4 _ (mem_snoc hh ⟨hrb.1, hrb.2, p1, p2, q1, q2⟩) (by simp; omega)
theorem voyageOf_res (s : Int) (H S L : Nat) (T : Int) (hH : 1 ≤ H) (hH2 : H ≤ 100) (hS : S ≤ 100) (hL : L ≤ 100) (hT : 1 ≤ T) (hT2 : T ≤ 1000) :
    Res (fun k => swarfkit_VoyageOf.f k s H S L T) (fun r => VoyOK H S L T r.1 r.2.1 r.2.2.1 r.2.2.2.1 r.2.2.2.2.1 r.2.2.2.2.2.1 r.2.2.2.2.2.2.1) := by
  obtain ⟨a, s1, e1, a1, a2⟩ := below_ok s 9 (by decide) (by decide)
  obtain ⟨b, s2, e2, b1, b2⟩ := below_ok s1 4 (by decide) (by decide)
  obtain ⟨c, s3, e3, c1, c2⟩ := below_ok s2 9 (by decide) (by decide)
  obtain ⟨d, s4, e4, hd⟩ := either_ok s3 [c, 40] (by simp) (show 2 ≤ 1000 by decide)
  have hdb : 0 ≤ d ∧ d ≤ 40 := by
    rcases List.mem_cons.1 hd with rfl | hd
    · omega
    · rw [List.mem_singleton.1 hd]; omega
  obtain ⟨e, s5, e5, l1, l2⟩ := below_ok s4 9 (by decide) (by decide)
  obtain ⟨n, s6, e6, n1, n2⟩ := between_ok s5 1 (H : Int) (by omega) (by decide) (by omega)
  unfold swarfkit_VoyageOf.f
  refine Res.take e1 (Res.take e2 (Res.take e3 (Res.take e4 (Res.take e5 (Res.take e6 ?_)))))
  dsimp only
  obtain ⟨m, rfl⟩ := Int.eq_ofNat_of_zero_le (show 0 ≤ n by omega)
  exact voy_l0 T a b d e S L hS hL hT hT2 _ m (by omega) (fun holds sills lots s7 h1 h2 h3 h4 h5 h6 => ⟨⟨a1, a2⟩, ⟨b1, b2⟩, hdb, ⟨l1, l2⟩, ⟨by show 1 ≤ holds.length; omega, by show holds.length ≤ H; omega⟩, h1, h4, h3, h6, h5⟩) m s6 [] (fun _ h => by cases h) (by simp)
theorem rd62 (l : List S62) (k : Nat) : rd_T62 l (k : Int) = l.getD k z62 := by simp [rd_T62]
theorem rd59 (l : List S59) (k : Nat) : rd_T59 l (k : Int) = l.getD k z59 := by simp [rd_T59]
theorem rd85 (l : List S85) (k : Nat) : rd_T85 l (k : Int) = l.getD k z85 := by simp [rd_T85]
theorem rd79 (l : List S79) (k : Nat) : rd_T79 l (k : Int) = l.getD k z79 := by simp [rd_T79]
theorem rdI (l : List Int) (k : Nat) : rd l (k : Int) = l.getD k 0 := by simp [rd]
theorem in_t {a lo hi : Int} (h1 : lo ≤ a) (h2 : a ≤ hi) : ship_in.f a lo hi = some true := by
  unfold ship_in.f; rw [if_pos h1, decide_eq_true h2]
theorem many_ok {n : Nat} {m : Int} (h1 : 1 ≤ n) (h2 : (n : Int) ≤ m) : ship_many.f (n : Int) m = some 0 := by
  unfold ship_many.f; rw [if_neg (by omega), if_neg (by omega)]
theorem checkRange_ev {a b hi : Int} (h0 : 0 ≤ a) (h1 : a ≤ b) (h2 : b ≤ hi) : Ev (fun k => ship_checkRange.f k a b hi) 0 := by
  unfold ship_checkRange.f
  refine Ev.take (in_t h0 (by omega)) ?_
  simp only [if_true]
  refine Ev.take (in_t (by omega) h2) ?_
  refine Ev.succ ?_
  simp (disch := omega) only [ship_checkRange.j0, Bool.not_true, Bool.false_eq_true, if_false, if_neg]
  exact Ev.now _
theorem checkSill_l0 (l : List S62) (p q : Int) (hl : l.length ≤ 1000) (hb : ∀ i, i < l.length → 0 ≤ (l.getD i z62).f0 ∧ (l.getD i z62).f0 ≤ 2880 ∧ 0 ≤ (l.getD i z62).f1.f0 ∧ (l.getD i z62).f1.f0 ≤ (l.getD i z62).f1.f1 ∧ (l.getD i z62).f1.f1 ≤ 10000)
    (hu : ∀ i, i + 1 < l.length → (l.getD i z62).f0 < (l.getD (i + 1) z62).f0) (hz : 0 < l.length → (l.getD 0 z62).f0 = 0) (d : Nat) :
    ∀ i : Nat, i + d = l.length → Ev (fun k => ship_checkSill.l0 k l (l.length : Int) (i : Int) p q l) 0 := by
  induction d with
  | zero =>
    intro i hi
    refine Ev.succ ?_
    simp (disch := omega) only [ship_checkSill.l0, if_neg]
    exact Ev.now _
  | succ d ih =>
    intro i hi
    obtain ⟨b1, b2, b3, b4, b5⟩ := hb i (by omega)
    have ihk := ih (i + 1) (by omega)
    have hend : ∀ {b : Bool}, b = false → Ev (fun k => ship_checkSill.j2 k l (l.length : Int) (i : Int) b p q l (l.getD i z62).f0 (l.getD i z62).f1.f0 (l.getD i z62).f1.f1) 0 := by
      rintro b rfl
      refine Ev.succ ?_
      simp only [ship_checkSill.j2, Bool.false_eq_true, if_false]
      refine Ev.bind (checkRange_ev b3 b4 b5) ?_
      simp only [if_true]
      rw [wrapS (by omega)]
      exact ihk
    have hj1 : ∀ {b : Bool}, b = false → Ev (fun k => ship_checkSill.j1 k (i : Int) l (l.length : Int) (i : Int) b p q l (l.getD i z62).f0 (l.getD i z62).f1.f0 (l.getD i z62).f1.f1) 0 := by
      rintro b rfl
      refine Ev.succ ?_
      simp only [ship_checkSill.j1, Bool.false_eq_true, if_false]
      cases i with
      | zero =>
        simp (disch := omega) only [if_neg]
        exact hend rfl
      | succ i =>
        have hup := hu i (by omega)
        simp (disch := omega) only [if_pos, wrapP, Nat.add_sub_cancel, rd62]
        exact hend (decide_eq_false (by omega))
    refine Ev.succ ?_
    simp (disch := omega) only [ship_checkSill.l0, if_pos, rd62]
    refine Ev.take (in_t b1 b2) ?_
    simp only [if_true]
    cases i with
    | zero =>
      simp (disch := omega) only [if_pos]
      refine hj1 ?_
      rw [hz (by omega)]; rfl
    | succ i =>
      simp (disch := omega) only [if_neg]
      exact hj1 rfl
theorem checkSill_ev {T : Int} {s : S59} (h : SillV T s) (hT : T ≤ 1000) : Ev (fun k => ship_checkSill.f k s.f0.f0 s.f0.f1 s.f1) 0 := by
  obtain ⟨h1, h2, h3, h4, h5, fr, hl⟩ := h
  unfold ship_checkSill.f
  refine Ev.bind (checkRange_ev h1 h2 (by omega)) ?_
  simp only [if_true]
  refine Ev.take (many_ok h4 (by omega)) ?_
  simp only [if_true]
  have hlim := hl.lim
  exact checkSill_l0 s.f1 _ _ (by omega) (fun i hi => by obtain ⟨a, b, c, d, e⟩ := hl.bd i hi; exact ⟨a, by omega, c, d, by omega⟩) hl.up hl.zero s.f1.length 0 (by omega)
theorem check_l2 {T : Int} (lots : List S79) (hl : lots.length ≤ 1000) (ho : ∀ c, c ∈ lots → LotV T c) (hT : T ≤ 1000) (d : Nat) : ∀ i : Nat, i + d = lots.length → Ev (fun k => ship_Check.l2 k lots (lots.length : Int) (i : Int)) 0 := by
  induction d with
  | zero =>
    intro i hi
    refine Ev.succ ?_
    simp (disch := omega) only [ship_Check.l2, if_neg]
    exact Ev.now _
  | succ d ih =>
    intro i hi
    obtain ⟨b1, b2, b3, b4, b5⟩ := ho _ (getD_mem lots i z79 (by omega))
    refine Ev.succ ?_
    simp (disch := omega) only [ship_Check.l2, if_pos, rd79]
    refine Ev.bind (checkRange_ev b1 b2 (by omega)) ?_
    simp only [if_true]
    refine Ev.take (in_t b4 (by omega)) ?_
    simp only [if_true]
    rw [wrapS (by omega)]
    exact ih (i + 1) (by omega)
theorem check_l1 {T : Int} (L U R V : Int) (holds : List S85) (sills : List S59) (lots : List S79) (hs : sills.length ≤ 1000) (si : ∀ s, s ∈ sills → SillV T s) (hl : lots.length ≤ 6) (ho : ∀ c, c ∈ lots → LotV T c) (hT : T ≤ 1000) (d : Nat) :
    ∀ i : Nat, i + d = sills.length → Ev (fun k => ship_Check.l1 k sills (sills.length : Int) (i : Int) L U R holds V sills lots) 0 := by
  induction d with
  | zero =>
    intro i hi
    refine Ev.succ ?_
    simp (disch := omega) only [ship_Check.l1, if_neg]
    exact check_l2 lots (by omega) ho hT lots.length 0 (by omega)
  | succ d ih =>
    intro i hi
    refine Ev.succ ?_
    simp (disch := omega) only [ship_Check.l1, if_pos, rd59]
    refine Ev.bind (checkSill_ev (si _ (getD_mem sills i z59 (by omega))) hT) ?_
    simp only [if_true]
    rw [wrapS (by omega)]
    exact ih (i + 1) (by omega)
theorem check_l0 {T : Int} (L U R V : Int) (holds : List S85) (sills : List S59) (lots : List S79) (hh : holds.length ≤ 1000) (hd : ∀ h, h ∈ holds → HoldV T h) (hV : 0 ≤ V ∧ V ≤ 2880) (hs : sills.length ≤ 4) (si : ∀ s, s ∈ sills → SillV T s) (hl : lots.length ≤ 6) (ho : ∀ c, c ∈ lots → LotV T c) (hT : T ≤ 1000) (d : Nat) :
    ∀ i : Nat, i + d = holds.length → Ev (fun k => ship_Check.l0 k holds (holds.length : Int) (i : Int) L U R holds V sills lots) 0 := by
  induction d with
  | zero =>
    intro i hi
    refine Ev.succ ?_
    simp (disch := omega) only [ship_Check.l0, if_neg]
    refine Ev.take (in_t hV.1 hV.2) ?_
    simp only [if_true]
    exact check_l1 L U R V holds sills lots (by omega) si hl ho hT sills.length 0 (by omega)
  | succ d ih =>
    intro i hi
    obtain ⟨b1, b2, b3, b4, b5, b6⟩ := hd _ (getD_mem holds i z85 (by omega))
    refine Ev.succ ?_
    simp (disch := omega) only [ship_Check.l0, if_pos, rd85]
    refine Ev.take (in_t b1 (by omega)) ?_
    simp only [if_true]
    refine Ev.take (in_t b3 (by omega)) ?_
    simp only [if_true]
    refine Ev.take (in_t b5 (by omega)) ?_
    simp only [if_true]
    rw [wrapS (by omega)]
    exact ih (i + 1) (by omega)
theorem check_ev {H S L' : Nat} {T L U R V : Int} {holds : List S85} {sills : List S59} {lots : List S79} (h : VoyOK H S L' T L U R holds V sills lots) (hH : H ≤ 3) (hS : S ≤ 4) (hL : L' ≤ 6) (hT : T ≤ 1000) :
    Ev (fun k => ship_Check.f k L U R holds V sills lots) 0 := by
  have h1 := h.light; have h2 := h.under; have h3 := h.trim; have h4 := h.leaves; have h5 := h.hn; have h6 := h.sn; have h7 := h.ln
  unfold ship_Check.f
  refine Ev.take (in_t h1.1 (by omega)) ?_
  simp only [if_true]
  refine Ev.take (in_t h2.1 (by omega)) ?_
  simp only [if_true]
  refine Ev.take (in_t h3.1 (by omega)) ?_
  refine Ev.succ ?_
  simp only [ship_Check.j0, Bool.not_true, Bool.false_eq_true, if_false]
  refine Ev.take (many_ok h5.1 (by omega)) ?_
  simp only [if_true]
  exact check_l0 L U R V holds sills lots (by omega) h.ho ⟨h4.1, by omega⟩ (by omega) h.si (by omega) h.lo hT holds.length 0 (by omega)
def used (lots : List S79) (h : Int) : Nat → List Int → Int
  | _, [] => 0
  | i, a :: t => (if a = h then (lots.getD i z79).f0.f1 else 0) + used lots h (i + 1) t
theorem used_snoc (lots : List S79) (h a : Int) : ∀ (l : List Int) (i : Nat), used lots h i (l ++ [a]) = used lots h i l + if a = h then (lots.getD (i + l.length) z79).f0.f1 else 0
  | [], i => by simp [used]
  | x :: l, i => by
    simp only [List.cons_append, used, used_snoc lots h a l (i + 1), List.length_cons]
    rw [show i + 1 + l.length = i + (l.length + 1) by omega]
    omega
structure StowOK (holds : List S85) (lots : List S79) (s : List Int) : Prop where
  len : s.length = lots.length
  rg : ∀ y, y ∈ s → -1 ≤ y ∧ y < (holds.length : Int)
  room : ∀ h : Nat, h < holds.length → used lots h 0 s ≤ (holds.getD h z85).f0
end Go.Proofs.Ytodmemndaaiolaa.PC7
namespace Go.Proofs.Ytodmemndaaiolaa.PC7
set_option linter.unusedVariables false
set_option linter.unusedSimpArgs false
def dep : List (Int × Int) → Int → Int
  | [], _ => 0
  | [(_, d)], _ => d
  | (_, d) :: (f2, d2) :: r, t => if f2 ≤ t then dep ((f2, d2) :: r) t else d
def pass : List (Int × Int) → Int → Int → Option Int
  | [], _, _ => none
  | [(f, d)], now, needs => if max now f ≤ 2880 ∧ needs ≤ 1000 * d then some (max now f) else none
  | (f, d) :: (f2, d2) :: r, now, needs => if f2 ≤ now then pass ((f2, d2) :: r) now needs else if max now f ≤ 2880 ∧ needs ≤ 1000 * d then some (max now f) else pass ((f2, d2) :: r) (max now f) needs
def rises : List (Int × Int) → Prop
  | [] => True
  | [_] => True
  | (f, _) :: (f2, d2) :: r => f < f2 ∧ rises ((f2, d2) :: r)
def First (l : List (Int × Int)) (needs a : Int) : Option Int → Prop
  | some t => a ≤ t ∧ t ≤ 2880 ∧ needs ≤ 1000 * dep l t ∧ ∀ u, a ≤ u → u < t → ¬ needs ≤ 1000 * dep l u
  | none => ∀ u, a ≤ u → u ≤ 2880 → ¬ needs ≤ 1000 * dep l u
def from0 : List (Int × Int) → Int
  | [] => 0
  | (f, _) :: _ => f
theorem pass_first (l : List (Int × Int)) : ∀ (now needs : Int), l ≠ [] → rises l → First l needs (max now (from0 l)) (pass l now needs) := by
  induction l with
  | nil => intro now needs h; exact absurd rfl h
  | cons p l ih =>
    intro now needs _ hr
    obtain ⟨f, d⟩ := p
    cases l with
    | nil =>
      simp only [pass, from0]
      by_cases h : max now f ≤ 2880 ∧ needs ≤ 1000 * d
      · rw [if_pos h]
        refine ⟨Int.le_refl _, h.1, h.2, fun u h1 h2 => by omega⟩
      · rw [if_neg h]
        intro u h1 h2 h3
        exact h ⟨by omega, h3⟩
    | cons p2 l =>
      obtain ⟨f2, d2⟩ := p2
      obtain ⟨hlt, hr2⟩ := hr
      simp only [pass, from0]
      by_cases h1 : f2 ≤ now
      · rw [if_pos h1]
        have hi := ih now needs (by simp) hr2
        simp only [from0] at hi
        have e1 : max now f = now := by omega
        have e2 : max now f2 = now := by omega
        rw [e1]
        rw [e2] at hi
        have hd : ∀ u, now ≤ u → dep ((f, d) :: (f2, d2) :: l) u = dep ((f2, d2) :: l) u := fun u hu => by simp only [dep]; rw [if_pos (by omega)]
        cases hp : pass ((f2, d2) :: l) now needs with
        | none =>
          rw [hp] at hi
          intro u a b
          rw [hd u a]
          exact hi u a b
        | some t =>
          rw [hp] at hi
          obtain ⟨a, b, c, e⟩ := hi
          refine ⟨a, b, by rw [hd t a]; exact c, fun u x y => by rw [hd u x]; exact e u x y⟩
      · rw [if_neg h1]
        have hlow : ∀ u, u < f2 → dep ((f, d) :: (f2, d2) :: l) u = d := fun u hu => by simp only [dep]; rw [if_neg (by omega)]
        have hup : ∀ u, f2 ≤ u → dep ((f, d) :: (f2, d2) :: l) u = dep ((f2, d2) :: l) u := fun u hu => by simp only [dep]; rw [if_pos hu]
        by_cases h : max now f ≤ 2880 ∧ needs ≤ 1000 * d
        · rw [if_pos h]
          exact ⟨Int.le_refl _, h.1, by rw [hlow _ (by omega)]; exact h.2, fun u a b => by omega⟩
        · rw [if_neg h]
          have hi := ih (max now f) needs (by simp) hr2
          simp only [from0] at hi
          have e2 : max (max now f) f2 = f2 := by omega
          rw [e2] at hi
          have hno : ∀ u, max now f ≤ u → u < f2 → u ≤ 2880 → ¬ needs ≤ 1000 * dep ((f, d) :: (f2, d2) :: l) u := fun u a b c e => by
            rw [hlow u b] at e
            exact h ⟨by omega, e⟩
          cases hp : pass ((f2, d2) :: l) (max now f) needs with
          | none =>
            rw [hp] at hi
            intro u a b
            by_cases hu : u < f2
            · exact hno u a hu b
            · rw [hup u (by omega)]; exact hi u (by omega) b
          | some t =>
            rw [hp] at hi
            obtain ⟨a, b, c, e⟩ := hi
            refine ⟨by omega, b, by rw [hup t a]; exact c, fun u x y => ?_⟩
            by_cases hu : u < f2
            · exact hno u x hu (by omega)
            · rw [hup u (by omega)]; exact e u (by omega) y
theorem first_le {l l2 : List (Int × Int)} {needs needs2 a a2 : Int} {x y : Option Int} (h : First l needs a x) (h2 : First l2 needs2 a2 y) (ha : a2 ≤ a) (hn : needs2 ≤ needs) (hd : ∀ t, dep l t ≤ dep l2 t) :
    ∀ t, x = some t → ∃ t2, y = some t2 ∧ t2 ≤ t := by
  rintro t rfl
  obtain ⟨h1, h3, h4, _⟩ := h
  have hg : needs2 ≤ 1000 * dep l2 t := by have := hd t; omega
  cases y with
  | none => exact absurd hg (h2 t (by omega) h3)
  | some t2 =>
    refine ⟨t2, rfl, ?_⟩
    obtain ⟨_, _, _, h5⟩ := h2
    by_cases hlt : t < t2
    · exact absurd hg (h5 t (by omega) hlt)
    · omega
def sailL : List (Int × List (Int × Int)) → Int → Int → List Int
  | [], _, _ => []
  | (w, l) :: r, now, needs => match pass l (now + w) needs with
    | some t => t :: sailL r t needs
    | none => []
structure SillOK (s : Int × List (Int × Int)) : Prop where
  ne : s.2 ≠ []
  ri : rises s.2
  zero : from0 s.2 = 0
  way : 0 ≤ s.1
def Better : List (Int × List (Int × Int)) → List (Int × List (Int × Int)) → Prop
  | [], [] => True
  | (w, l) :: r, (w2, l2) :: r2 => (w2 ≤ w ∧ ∀ t, dep l t ≤ dep l2 t) ∧ Better r r2
  | _, _ => False
theorem sailL_le (ss : List (Int × List (Int × Int))) : ∀ (ss2 : List (Int × List (Int × Int))) (now now2 needs needs2 : Int), Better ss ss2 → (∀ s, s ∈ ss → SillOK s) → (∀ s, s ∈ ss2 → SillOK s) → 0 ≤ now2 → now2 ≤ now → needs2 ≤ needs →
    (sailL ss now needs).length ≤ (sailL ss2 now2 needs2).length ∧ ∀ i, i < (sailL ss now needs).length → (sailL ss2 now2 needs2).getD i 0 ≤ (sailL ss now needs).getD i 0 := by
  induction ss with
  | nil => intro ss2 now now2 needs needs2 _ _ _ _ _ _; exact ⟨Nat.zero_le _, fun i hi => by simp [sailL] at hi⟩
  | cons s ss ih =>
    intro ss2 now now2 needs needs2 hb h1 h2 h0 hn hne
    cases ss2 with
    | nil => exact hb.elim
    | cons s2 ss2 =>
      obtain ⟨w, l⟩ := s
      obtain ⟨w2, l2⟩ := s2
      obtain ⟨⟨hw, hd⟩, hb⟩ := hb
      have k1 := h1 _ (List.mem_cons_self ..)
      have k2 := h2 _ (List.mem_cons_self ..)
      have f1 := pass_first l (now + w) needs k1.ne k1.ri
      have f2 := pass_first l2 (now2 + w2) needs2 k2.ne k2.ri
      rw [show from0 l = 0 from k1.zero] at f1
      rw [show from0 l2 = 0 from k2.zero] at f2
      simp only [sailL]
      cases hp : pass l (now + w) needs with
      | none => exact ⟨Nat.zero_le _, fun i hi => by simp at hi⟩
      | some t =>
        have hw2 : 0 ≤ w2 := k2.way
        rw [hp] at f1
        obtain ⟨t2, e, hle⟩ := first_le f1 f2 (by omega) hne hd t rfl
        rw [e]
        rw [e] at f2
        have ht2 : 0 ≤ t2 := by have := f2.1; omega
        obtain ⟨a, b⟩ := ih ss2 t t2 needs needs2 hb (fun s hs => h1 s (List.mem_cons_of_mem _ hs)) (fun s hs => h2 s (List.mem_cons_of_mem _ hs)) ht2 hle hne
        refine ⟨by simpa using a, fun i hi => ?_⟩
        cases i with
        | zero => simpa using hle
        | succ i => simpa using b i (by simpa using hi)
end Go.Proofs.Ytodmemndaaiolaa.PC7
namespace Go.Proofs.Ytodmemndaaiolaa.PC7
set_option linter.unusedVariables false
set_option linter.unusedSimpArgs false
open Go.RowKit Go.Proofs.YtodmemndaaiolaaW.PrintWords Go.Proofs.YtodmemndaaiolaaW.PrintLast Go.Proofs.YtodmemndaaiolaaW.PrintMore
theorem mx_max (a b : Int) : mx a b = max a b := by
  unfold mx
  by_cases h : a < b
  · rw [if_pos h]; omega
  · rw [if_neg h]; omega
def plainS (soon : Bool) (s : S59) : Int × List (Int × Int) := (travelOf soon s, s.f1.map fun l => (l.f0, waterOf soon l))
theorem water_wrap {l : S62} (soon : Bool) (h1 : 0 ≤ l.f1.f0) (h2 : l.f1.f0 ≤ l.f1.f1) (h3 : l.f1.f1 ≤ 10000) : wrap64 (1000 * waterOf soon l) = 1000 * waterOf soon l := by
  unfold waterOf
  cases soon <;> simp only [if_true, Bool.false_eq_true, if_false] <;> exact wrap64_id (by omega) (by omega)
theorem passW_eq (soon : Bool) (needs : Int) : ∀ (l : List S62), (∀ x, x ∈ l → 0 ≤ x.f1.f0 ∧ x.f1.f0 ≤ x.f1.f1 ∧ x.f1.f1 ≤ 10000) → ∀ now, passW soon l now needs = pass (l.map fun l => (l.f0, waterOf soon l)) now needs
  | [], _, now => rfl
  | [a], h, now => by
    obtain ⟨h1, h2, h3⟩ := h a (by simp)
    simp only [passW, List.map_cons, List.map_nil, pass, water_wrap soon h1 h2 h3, mx_max]
  | a :: b :: r, h, now => by
    obtain ⟨h1, h2, h3⟩ := h a (by simp)
    have ih := passW_eq soon needs (b :: r) (fun x hx => h x (List.mem_cons_of_mem _ hx))
    simp only [List.map_cons] at ih
    simp only [passW, List.map_cons, pass, water_wrap soon h1 h2 h3, mx_max, ih]
theorem levs_mem {T fr : Int} {l : List S62} (h : LevsOK T fr l) (hT : T ≤ 1000) : ∀ x, x ∈ l → 0 ≤ x.f1.f0 ∧ x.f1.f0 ≤ x.f1.f1 ∧ x.f1.f1 ≤ 10000 := by
  intro x hx
  obtain ⟨i, hi, rfl⟩ := List.getElem_of_mem hx
  have := h.bd i hi
  rw [getD_get _ _ _ hi] at this
  exact ⟨this.2.2.1, this.2.2.2.1, by omega⟩
theorem pass_le : ∀ (l : List (Int × Int)) (now needs t : Int), pass l now needs = some t → t ≤ 2880
  | [], _, _, _, h => by simp [pass] at h
  | [(f, d)], now, needs, t, h => by
    simp only [pass] at h
    by_cases hc : max now f ≤ 2880 ∧ needs ≤ 1000 * d
    · rw [if_pos hc] at h; injection h with h; omega
    · rw [if_neg hc] at h; cases h
  | (f, d) :: (f2, d2) :: r, now, needs, t, h => by
    simp only [pass] at h
    by_cases h1 : f2 ≤ now
    · rw [if_pos h1] at h; exact pass_le _ _ _ _ h
    · rw [if_neg h1] at h
      by_cases hc : max now f ≤ 2880 ∧ needs ≤ 1000 * d
      · rw [if_pos hc] at h; injection h with h; omega
      · rw [if_neg hc] at h; exact pass_le _ _ _ _ h
theorem pass_ge : ∀ (l : List (Int × Int)) (now needs t : Int), pass l now needs = some t → now ≤ t
  | [], _, _, _, h => by simp [pass] at h
  | [(f, d)], now, needs, t, h => by
    simp only [pass] at h
    by_cases hc : max now f ≤ 2880 ∧ needs ≤ 1000 * d
    · rw [if_pos hc] at h; injection h with h; omega
    · rw [if_neg hc] at h; cases h
  | (f, d) :: (f2, d2) :: r, now, needs, t, h => by
    simp only [pass] at h
    by_cases h1 : f2 ≤ now
    · rw [if_pos h1] at h; exact pass_ge _ _ _ _ h
    · rw [if_neg h1] at h
      by_cases hc : max now f ≤ 2880 ∧ needs ≤ 1000 * d
      · rw [if_pos hc] at h; injection h with h; omega
      · rw [if_neg hc] at h; have := pass_ge _ _ _ _ h; omega
theorem sailW_eq {T : Int} (hT : T ≤ 1000) (soon : Bool) (needs : Int) : ∀ (ss : List S59), (∀ s, s ∈ ss → SillV T s) → ∀ now, 0 ≤ now → now ≤ 2880 → sailW soon ss now needs = sailL (ss.map (plainS soon)) now needs
  | [], _, _, _, _ => rfl
  | s :: ss, h, now, h0, h1 => by
    obtain ⟨a1, a2, a3, a4, a5, fr, hl⟩ := h s (by simp)
    have hw : wrap64 (now + travelOf soon s) = now + travelOf soon s := by
      unfold travelOf
      cases soon <;> simp only [if_true, Bool.false_eq_true, if_false] <;> exact wrap64_id (by omega) (by omega)
    have htr : 0 ≤ travelOf soon s := by unfold travelOf; cases soon <;> simp <;> omega
    simp only [sailW, List.map_cons, plainS, sailL, hw, passW_eq soon needs s.f1 (levs_mem hl hT)]
    cases hp : pass (s.f1.map fun l => (l.f0, waterOf soon l)) (now + travelOf soon s) needs with
    | none => rfl
    | some t =>
      have t1 := pass_le _ _ _ _ hp
      have t2 := pass_ge _ _ _ _ hp
      simp only
      rw [sailW_eq hT soon needs ss (fun x hx => h x (List.mem_cons_of_mem _ hx)) t (by omega) t1]
theorem rises_of {T fr : Int} (soon : Bool) : ∀ (l : List S62), (∀ i, i + 1 < l.length → (l.getD i z62).f0 < (l.getD (i + 1) z62).f0) → rises (l.map fun l => (l.f0, waterOf soon l))
  | [], _ => trivial
  | [_], _ => trivial
  | a :: b :: r, h => by
    refine ⟨by simpa using h 0 (by simp), ?_⟩
    have := rises_of (T := T) (fr := fr) soon (b :: r) (fun i hi => by simpa using h (i + 1) (by simpa using hi))
    simpa using this
theorem sillOK_of {T : Int} {s : S59} (h : SillV T s) (soon : Bool) : SillOK (plainS soon s) := by
  obtain ⟨a1, a2, a3, a4, a5, fr, hl⟩ := h
  refine ⟨?_, rises_of (T := T) (fr := fr) soon s.f1 hl.up, ?_, ?_⟩
  · intro e
    have : s.f1 = [] := by simpa [plainS] using e
    rw [this] at a4; simp at a4
  · have hz := hl.zero (by omega)
    cases hs : s.f1 with
    | nil => rw [hs] at a4; simp at a4
    | cons b r => rw [hs] at hz; simpa [plainS, hs, from0] using hz
  · show 0 ≤ travelOf soon s
    unfold travelOf; cases soon <;> simp <;> omega
theorem sillsOK_of {T : Int} {ss : List S59} (h : ∀ s, s ∈ ss → SillV T s) (soon : Bool) : ∀ p, p ∈ ss.map (plainS soon) → SillOK p := by
  intro p hp
  obtain ⟨s, hs, rfl⟩ := List.mem_map.1 hp
  exact sillOK_of (h s hs) soon
theorem dep_le {f : S62 → Int} {g : S62 → Int} (t : Int) : ∀ (l : List S62), (∀ x, x ∈ l → f x ≤ g x) → dep (l.map fun l => (l.f0, f l)) t ≤ dep (l.map fun l => (l.f0, g l)) t
  | [], _ => Int.le_refl _
  | [a], h => h a (by simp)
  | a :: b :: r, h => by
    have ih := dep_le t (b :: r) (fun x hx => h x (List.mem_cons_of_mem _ hx))
    simp only [List.map_cons] at ih
    simp only [List.map_cons, dep]
    by_cases hc : b.f0 ≤ t
    · rw [if_pos hc, if_pos hc]; exact ih
    · rw [if_neg hc, if_neg hc]; exact h a (by simp)
theorem better_soon {T : Int} : ∀ (ss : List S59), (∀ s, s ∈ ss → SillV T s) → Better (ss.map (plainS false)) (ss.map (plainS true))
  | [], _ => trivial
  | s :: r, h => by
    obtain ⟨a1, a2, a3, a4, a5, fr, hl⟩ := h s (by simp)
    refine ⟨⟨by simpa [travelOf] using a2, fun t => dep_le t s.f1 fun x hx => ?_⟩, better_soon r (fun x hx => h x (List.mem_cons_of_mem _ hx))⟩
    obtain ⟨i, hi, rfl⟩ := List.getElem_of_mem hx
    have := hl.bd i hi
    rw [getD_get _ _ _ hi] at this
    simpa [waterOf] using this.2.2.2.1
structure QOK (B : Int) (q : Q4) : Prop where
  b0 : 0 ≤ q.b0 ∧ q.b0 ≤ q.h0
  b1 : 0 ≤ q.b1 ∧ q.b1 ≤ q.h1
  h0 : q.h0 ≤ B
  h1 : q.h1 ≤ B
def QLe (p q : Q4) : Prop := p.b0 ≤ q.b0 ∧ p.b1 ≤ q.b1 ∧ p.h0 ≤ q.h0 ∧ p.h1 ≤ q.h1
theorem mul_bd {a b A B : Int} (h0 : 0 ≤ a) (h1 : a ≤ A) (h2 : 0 ≤ b) (h3 : b ≤ B) : 0 ≤ a * b ∧ a * b ≤ A * B :=
  ⟨Int.mul_nonneg h0 h2, Int.mul_le_mul h1 h3 h2 (by omega)⟩
theorem ladS_ok {T B : Int} {h : S85} {c : S79} {q : Q4} (hT : T ≤ 1000) (hh : HoldV T h) (hc : LotV T c) (hB : 0 ≤ B ∧ B ≤ 1000000000000) (hq : QOK B q) : QOK (B + 1500000) (ladS h c.f0 q) ∧ QLe q (ladS h c.f0 q) ∧ ∀ p, QLe p q → QLe p (ladS h c.f0 q) := by
  obtain ⟨a1, a2, a3, a4, a5, a6⟩ := hh
  obtain ⟨c1, c2, c3, c4, c5⟩ := hc
  obtain ⟨⟨q1, q2⟩, ⟨q3, q4⟩, q5, q6⟩ := hq
  have m1 := mul_bd (A := 1000) (B := 1500) c1 (by omega) a3 (by omega)
  have m2 := mul_bd (A := 1000) (B := 1500) c1 (by omega) a5 (by omega)
  have m3 := mul_bd (A := 1000) (B := 1500) (show 0 ≤ c.f0.f1 by omega) (by omega) a3 (by omega)
  have m4 := mul_bd (A := 1000) (B := 1500) (show 0 ≤ c.f0.f1 by omega) (by omega) a5 (by omega)
  have m5 := Int.mul_le_mul_of_nonneg_right c2 a3
  have m6 := Int.mul_le_mul_of_nonneg_right c2 a5
  have e : ladS h c.f0 q = ⟨q.b0 + c.f0.f0 * h.f1, q.b1 + c.f0.f0 * h.f2, q.h0 + c.f0.f1 * h.f1, q.h1 + c.f0.f1 * h.f2⟩ := by
    unfold ladS
    rw [wrap64_id (n := c.f0.f0 * h.f1) (by omega) (by omega), wrap64_id (n := c.f0.f0 * h.f2) (by omega) (by omega), wrap64_id (n := c.f0.f1 * h.f1) (by omega) (by omega), wrap64_id (n := c.f0.f1 * h.f2) (by omega) (by omega),
      wrap64_id (by omega) (by omega), wrap64_id (by omega) (by omega), wrap64_id (by omega) (by omega), wrap64_id (by omega) (by omega)]
  rw [e]
  refine ⟨⟨⟨?_, ?_⟩, ⟨?_, ?_⟩, ?_, ?_⟩, ⟨?_, ?_, ?_, ?_⟩, fun p ⟨p1, p2, p3, p4⟩ => ⟨?_, ?_, ?_, ?_⟩⟩ <;> simp only <;> omega
def Lighter : List Int → List Int → Prop
  | [], [] => True
  | a :: s, b :: t => (b = a ∨ b = -1) ∧ Lighter s t
  | _, _ => False
theorem needsW_eq {q : Q4} (hq : QOK 10000000000 q) {under : Int} (hu : 0 ≤ under ∧ under ≤ 5000) (soon : Bool) : needsW under q soon = max (if soon then q.b0 else q.h0) (if soon then q.b1 else q.h1) + 1000 * under := by
  obtain ⟨⟨q1, q2⟩, ⟨q3, q4⟩, q5, q6⟩ := hq
  unfold needsW
  rw [mx_max, wrap64_id (n := 1000 * under) (by omega) (by omega)]
  cases soon <;> simp only [if_true, Bool.false_eq_true, if_false] <;> exact wrap64_id (by omega) (by omega)
theorem ev_of_mono {α : Type} {g : Nat → Option α} {r : α} (hm : ∀ k, LeO (g k) (g (k + 1))) {K : Nat} (h : g K = some r) : Ev g r := by
  refine ⟨K, fun k hk => ?_⟩
  induction hk with
  | refl => exact h
  | step hk ih => exact hm _ _ ih
def vHolds : List S85 := [⟨400, 2000, 500⟩, ⟨400, 500, 2000⟩]
def vSills : List S59 := [⟨⟨30, 40⟩, [⟨0, ⟨1600, 1650⟩⟩]⟩, ⟨⟨120, 150⟩, [⟨0, ⟨1300, 1350⟩⟩, ⟨240, ⟨1600, 1650⟩⟩, ⟨480, ⟨1200, 1250⟩⟩]⟩]
def vLots : List S79 := [⟨⟨200, 220⟩, 50⟩, ⟨⟨180, 200⟩, 40⟩, ⟨⟨150, 150⟩, 45⟩]
theorem voyage_f : swarflaw07_voyage.f = some (800, 200, 300, vHolds, 60, vSills, vLots) := rfl
theorem v_check : chkE 800 200 300 vHolds 60 vSills vLots = some 0 := limO_of (ev_of_mono (fun k => ship_Check.mono _ _ _ _ _ _ _ k) (K := 60) (by kernel_rfl))
theorem v_stow : stowE 800 200 300 vHolds 60 vSills vLots [0, 1, -1] = some 0 := limO_of (ev_of_mono (fun k => ship_CheckStowage.mono _ _ _ _ _ _ _ _ k) (K := 60) (by kernel_rfl))
theorem v_drafts : ship_Drafts.f 800 200 300 vHolds 60 vSills vLots [0, 1, -1] = some (1290000, 1340000, 1260000, 1310000, 0) := by
  unfold ship_Drafts.f
  rw [v_stow]
  kernel_rfl
theorem v_sail : ship_Sail.f 800 200 300 vHolds 60 vSills vLots [0, 1, -1] = some (1, [⟨90, 100⟩, ⟨240, 250⟩], 0) := by
  unfold ship_Sail.f
  rw [v_stow]
  kernel_rfl
section
variable (K : Nat) (light under trim : Int) (holds : List S85) (leaves : Int) (sills : List S59) (lots : List S79)
def goodK (s : List Int) : Option Bool :=
  (ship_checkStowage.f K light under trim holds leaves sills lots s).bind fun e => if e = 0 then (ship_apart.f K light under trim holds leaves sills lots s).bind fun x => (ship_level.f K light under trim holds leaves sills lots x.1 x.2).bind fun b =>
    if b = true then (ladenO light holds lots s).bind fun q => some (!decide ((sailO under leaves sills q false).length < sills.length)) else some false else some false
end
theorem goodK_good {K : Nat} {light under trim : Int} {holds : List S85} {leaves : Int} {sills : List S59} {lots : List S79} {s : List Int} {b : Bool} (h : goodK K light under trim holds leaves sills lots s = some b) : goodO light under trim holds leaves sills lots s = some b := by
  unfold goodK at h
  obtain ⟨e, he, h⟩ := Option.bind_eq_some_iff.1 h
  unfold goodO
  refine Option.bind_eq_some_iff.2 ⟨e, limO_of (ev_of_mono (fun k => ship_checkStowage.mono _ _ _ _ _ _ _ _ k) he), ?_⟩
  by_cases h0 : e = 0
  · rw [if_pos h0] at h ⊢
    obtain ⟨x, hx, h⟩ := Option.bind_eq_some_iff.1 h
    refine Option.bind_eq_some_iff.2 ⟨x, limO_of (ev_of_mono (fun k => ship_apart.mono _ _ _ _ _ _ _ _ k) hx), ?_⟩
    obtain ⟨c, hc, h⟩ := Option.bind_eq_some_iff.1 h
    exact Option.bind_eq_some_iff.2 ⟨c, limO_of (ev_of_mono (fun k => ship_level.mono _ _ _ _ _ _ _ _ _ k) hc), h⟩
  · rw [if_neg h0] at h ⊢
    exact h
theorem bestOf_congr {g1 g2 : List Int → Bool} (w : List Int → Int) : ∀ (L : List (List Int)) (b : List Int × Int), (∀ t, t ∈ L → g1 t = g2 t) → bestOf g1 w L b = bestOf g2 w L b
  | [], _, _ => rfl
  | t :: L, b, h => by
    show bestOf g1 w L (if g1 t = true then (if b.2 < w t then (t, w t) else b) else b) = bestOf g2 w L (if g2 t = true then (if b.2 < w t then (t, w t) else b) else b)
    rw [h t (by simp)]
    exact bestOf_congr w L _ (fun x hx => h x (List.mem_cons_of_mem _ hx))
theorem v_all : (stowsL 2 3).all (fun t => (goodK 60 800 200 300 vHolds 60 vSills vLots t).isSome) = true := by kernel_rfl
theorem v_best : ship_Best.f 800 200 300 vHolds 60 vSills vLots = some ([0, -1, 1], 95, 0) := by
  have hk : ∀ t, t ∈ stowsL 2 3 → goodO 800 200 300 vHolds 60 vSills vLots t = some ((goodK 60 800 200 300 vHolds 60 vSills vLots t).getD false) := fun t ht => by
    have h1 := List.all_eq_true.1 v_all t ht
    cases hg : goodK 60 800 200 300 vHolds 60 vSills vLots t with
    | none => rw [hg] at h1; cases h1
    | some b => exact goodK_good hg
  have hg : ∀ t, t ∈ stowsL 2 3 → goodB 800 200 300 vHolds 60 vSills vLots t = (goodK 60 800 200 300 vHolds 60 vSills vLots t).getD false := fun t ht => by
    unfold goodB; rw [hk t ht]; rfl
  have hb := bestOf_congr (fun t => worthGo vLots 0 t 0) (stowsL 2 3) ([], -1) hg
  have he : bestOf (fun t => (goodK 60 800 200 300 vHolds 60 vSills vLots t).getD false) (fun t => worthGo vLots 0 t 0) (stowsL 2 3) ([], -1) = ([0, -1, 1], 95) := by kernel_rfl
  rw [he] at hb
  unfold ship_Best.f
  refine Option.bind_eq_some_iff.2 ⟨0, v_check, ?_⟩
  rw [if_pos rfl, if_pos ⟨by decide, by decide, by decide, fun t ht => by rw [hk t ht]; rfl⟩]
  show some ((bestOf (goodB 800 200 300 vHolds 60 vSills vLots) (fun t => worthGo vLots 0 t 0) (stowsL 2 3) ([], -1)).1, (bestOf (goodB 800 200 300 vHolds 60 vSills vLots) (fun t => worthGo vLots 0 t 0) (stowsL 2 3) ([], -1)).2, (0 : Int)) = _
  rw [hb]
theorem awake_ev : Ev (fun k => swarflaw07_awake.f k) true := by
  have h1 : ∀ k, swarflaw07_awake.f k = ((swarfkit_EqualInts.f k [0, -1, 1] [0, -1, 1]).bind fun t267 => if t267 = true then (swarfkit_EqualRanges.f k [⟨90, 100⟩, ⟨240, 250⟩] [⟨90, 100⟩, ⟨240, 250⟩]).bind fun t275 => some t275 else some false) := by
    intro k
    unfold swarflaw07_awake.f
    rw [voyage_f]
    simp only [Option.bind_some]
    rw [v_drafts]
    simp only [Option.bind_some]
    rw [v_sail]
    simp only [Option.bind_some]
    rw [v_best]
    simp only [Option.bind_some, swarflaw07_rng.f, if_true, beq_self_eq_true, Bool.and_self]
  have e1 : Ev (fun k => swarfkit_EqualInts.f k [0, -1, 1] [0, -1, 1]) true := ev_of_mono (fun k => swarfkit_EqualInts.mono _ _ k) (K := 10) (by kernel_rfl)
  have e2 : Ev (fun k => swarfkit_EqualRanges.f k [⟨90, 100⟩, ⟨240, 250⟩] [⟨90, 100⟩, ⟨240, 250⟩]) true := ev_of_mono (fun k => swarfkit_EqualRanges.mono _ _ k) (K := 10) (by kernel_rfl)
  have e3 : Ev (fun k => (swarfkit_EqualInts.f k [0, -1, 1] [0, -1, 1]).bind fun t267 => if t267 = true then (swarfkit_EqualRanges.f k [⟨90, 100⟩, ⟨240, 250⟩] [⟨90, 100⟩, ⟨240, 250⟩]).bind fun t275 => some t275 else some false) true := by
    refine Ev.bind e1 ?_
    simp only [if_true]
    exact Ev.tail e2
  obtain ⟨K, hK⟩ := e3
  exact ⟨K, fun k hk => (h1 k).trans (hK k hk)⟩
theorem leO_up {α : Type} {g : Nat → Option α} (hm : ∀ k, LeO (g k) (g (k + 1))) {k K : Nat} (hk : k ≤ K) {r : α} (h : g k = some r) : g K = some r := by
  induction hk with
  | refl => exact h
  | step _ ih => exact hm _ _ ih
theorem awake_true {k : Nat} {r : Bool} (h : swarflaw07_awake.f k = some r) : r = true := by
  obtain ⟨K, hK⟩ := awake_ev
  have h1 := leO_up (g := fun k => swarflaw07_awake.f k) swarflaw07_awake.mono (Nat.le_max_left k K) h
  have h2 := hK (max k K) (Nat.le_max_right k K)
  exact Option.some.inj (h1.symm.trans h2)
end Go.Proofs.Ytodmemndaaiolaa.PC7
namespace Go.Proofs.Ytodmemndaaiolaa.PC7
open Go.RowKit Go.Proofs.YtodmemndaaiolaaW.PrintWords Go.Proofs.YtodmemndaaiolaaW.PrintLast Go.Proofs.YtodmemndaaiolaaW.PrintMore
attribute [local go_sem] max2_int min2_int max_two min_two max_three min_three max_four min_four
set_option linter.unusedVariables false
set_option linter.unusedSimpArgs false
attribute [local go_sem high] eqA56
set_option maxHeartbeats 8000000 in
set_option maxRecDepth 100000 in
theorem swarflaw07_awake.calls (k : Nat)  (r : Bool) (w : World) (h : swarflaw07_awake.f k  = some r) :
  Calls Try.prog 15 #[] w fun e w' => e = .returned (.bool r) ∧ Below w.heap.size w w' := by
 have hrt := Aside0.mk (awake_true h)
 have hu56 := Try.underlying56
 have HB := Aside0.mk (Below.refl w.heap.size w)
 have H : ((swarflaw07_voyage.f).bind fun bt198 => ((ship_Drafts.f bt198.1 bt198.2.1 bt198.2.2.1 bt198.2.2.2.1 bt198.2.2.2.2.1 bt198.2.2.2.2.2.1 bt198.2.2.2.2.2.2 (([0, 1, (-1)] : List Int))).bind fun bt214 => ((swarflaw07_voyage.f).bind fun bt221 => ((ship_Sail.f bt221.1 bt221.2.1 bt221.2.2.1 bt221.2.2.2.1 bt221.2.2.2.2.1 bt221.2.2.2.2.2.1 bt221.2.2.2.2.2.2 (([0, 1, (-1)] : List Int))).bind fun bt237 => ((swarflaw07_voyage.f).bind fun bt242 => ((ship_Best.f bt242.1 bt242.2.1 bt242.2.2.1 bt242.2.2.2.1 bt242.2.2.2.2.1 bt242.2.2.2.2.2.1 bt242.2.2.2.2.2.2).bind fun bt255 => (if bt214.2.2.2.2 = 0 then (if bt237.2.2 = 0 then (if bt255.2.2 = 0 then ((swarflaw07_rng.f 1290000 1340000).bind fun bt260 => (if (bt214.1 == bt260.1 && (bt214.2.1 == bt260.2)) = true then ((swarflaw07_rng.f 1260000 1310000).bind fun bt262 => (if (bt214.2.2.1 == bt262.1 && (bt214.2.2.2.1 == bt262.2)) = true then (if bt237.1 = 1 then (if bt255.2.1 = 95 then ((swarfkit_EqualInts.f k bt255.1 (([0, (-1), 1] : List Int))).bind fun t267 => (if t267 = true then ((swarflaw07_rng.f 90 100).bind fun bt268 => ((swarflaw07_rng.f 240 250).bind fun bt270 => ((swarfkit_EqualRanges.f k bt237.2.1 (([(⟨bt268.1, bt268.2⟩ : S56), (⟨bt270.1, bt270.2⟩ : S56)] : List (S56)))).bind fun t275 => (some t275)))) else (some false))) else (some false)) else (some false)) else (some false))) else (some false))) else (some false)) else (some false)) else (some false)))))))) = some r := h
 clear h
 replace H := Option.bind_eq_some_iff.mp H
 obtain ⟨⟨t198, t199, t200, t201, t204, t205, t208⟩, A10, H⟩ := H
 try dsimp only at H
 have A1 := Aside0.mk A10
 clear A10
 obtain ⟨y211, hy211⟩ : ∃ y_ : List Int, y_ = (([0, 1, (-1)] : List Int)) := ⟨_, rfl⟩
 replace H : ((ship_Drafts.f t198 t199 t200 t201 t204 t205 t208 y211).bind fun bt214 => ((swarflaw07_voyage.f).bind fun bt221 => ((ship_Sail.f bt221.1 bt221.2.1 bt221.2.2.1 bt221.2.2.2.1 bt221.2.2.2.2.1 bt221.2.2.2.2.2.1 bt221.2.2.2.2.2.2 (([0, 1, (-1)] : List Int))).bind fun bt237 => ((swarflaw07_voyage.f).bind fun bt242 => ((ship_Best.f bt242.1 bt242.2.1 bt242.2.2.1 bt242.2.2.2.1 bt242.2.2.2.2.1 bt242.2.2.2.2.2.1 bt242.2.2.2.2.2.2).bind fun bt255 => (if bt214.2.2.2.2 = 0 then (if bt237.2.2 = 0 then (if bt255.2.2 = 0 then ((swarflaw07_rng.f 1290000 1340000).bind fun bt260 => (if (bt214.1 == bt260.1 && (bt214.2.1 == bt260.2)) = true then ((swarflaw07_rng.f 1260000 1310000).bind fun bt262 => (if (bt214.2.2.1 == bt262.1 && (bt214.2.2.2.1 == bt262.2)) = true then (if bt237.1 = 1 then (if bt255.2.1 = 95 then ((swarfkit_EqualInts.f k bt255.1 (([0, (-1), 1] : List Int))).bind fun t267 => (if t267 = true then ((swarflaw07_rng.f 90 100).bind fun bt268 => ((swarflaw07_rng.f 240 250).bind fun bt270 => ((swarfkit_EqualRanges.f k bt237.2.1 (([(⟨bt268.1, bt268.2⟩ : S56), (⟨bt270.1, bt270.2⟩ : S56)] : List (S56)))).bind fun t275 => (some t275)))) else (some false))) else (some false)) else (some false)) else (some false))) else (some false))) else (some false)) else (some false)) else (some false))))))) = some r := by first | (rw [hy211]; with_reducible exact H) | (have H2_ := (Option.bind_some _ _).symm.trans H; rw [hy211]; with_reducible exact H2_) | (have H2_ := (Option.bind_some _ _).symm.trans H; with_reducible exact H2_) | with_reducible exact H | (rw [hy211]; exact H) | exact H
 have Ny211 := Aside0.mk hy211
 clear hy211
 replace H := Option.bind_eq_some_iff.mp H
 obtain ⟨⟨t214, t215, t216, t217, t218⟩, A20, H⟩ := H
 try dsimp only at H
 have A2 := Aside0.mk A20
 clear A20
 replace H := Option.bind_eq_some_iff.mp H
 obtain ⟨⟨t221, t222, t223, t224, t227, t228, t231⟩, A30, H⟩ := H
 try dsimp only at H
 have A3 := Aside0.mk A30
 clear A30
 obtain ⟨y234, hy234⟩ : ∃ y_ : List Int, y_ = (([0, 1, (-1)] : List Int)) := ⟨_, rfl⟩
 replace H : ((ship_Sail.f t221 t222 t223 t224 t227 t228 t231 y234).bind fun bt237 => ((swarflaw07_voyage.f).bind fun bt242 => ((ship_Best.f bt242.1 bt242.2.1 bt242.2.2.1 bt242.2.2.2.1 bt242.2.2.2.2.1 bt242.2.2.2.2.2.1 bt242.2.2.2.2.2.2).bind fun bt255 => (if t218 = 0 then (if bt237.2.2 = 0 then (if bt255.2.2 = 0 then ((swarflaw07_rng.f 1290000 1340000).bind fun bt260 => (if (t214 == bt260.1 && (t215 == bt260.2)) = true then ((swarflaw07_rng.f 1260000 1310000).bind fun bt262 => (if (t216 == bt262.1 && (t217 == bt262.2)) = true then (if bt237.1 = 1 then (if bt255.2.1 = 95 then ((swarfkit_EqualInts.f k bt255.1 (([0, (-1), 1] : List Int))).bind fun t267 => (if t267 = true then ((swarflaw07_rng.f 90 100).bind fun bt268 => ((swarflaw07_rng.f 240 250).bind fun bt270 => ((swarfkit_EqualRanges.f k bt237.2.1 (([(⟨bt268.1, bt268.2⟩ : S56), (⟨bt270.1, bt270.2⟩ : S56)] : List (S56)))).bind fun t275 => (some t275)))) else (some false))) else (some false)) else (some false)) else (some false))) else (some false))) else (some false)) else (some false)) else (some false))))) = some r := by first | (rw [hy234]; with_reducible exact H) | (have H2_ := (Option.bind_some _ _).symm.trans H; rw [hy234]; with_reducible exact H2_) | (have H2_ := (Option.bind_some _ _).symm.trans H; with_reducible exact H2_) | with_reducible exact H | (rw [hy234]; exact H) | exact H
 have Ny234 := Aside0.mk hy234
 clear hy234
 replace H := Option.bind_eq_some_iff.mp H
 obtain ⟨⟨t237, t238, t241⟩, A40, H⟩ := H
 try dsimp only at H
 have A4 := Aside0.mk A40
 clear A40
 replace H := Option.bind_eq_some_iff.mp H
 obtain ⟨⟨t242, t243, t244, t245, t248, t249, t252⟩, A50, H⟩ := H
 try dsimp only at H
 have A5 := Aside0.mk A50
 clear A50
 replace H := Option.bind_eq_some_iff.mp H
 obtain ⟨⟨t255, t258, t259⟩, A60, H⟩ := H
 try dsimp only at H
 have A6 := Aside0.mk A60
 clear A60
 by_cases c7 : t218 = 0
 ·
  rw [if_pos c7] at H
  have c7b0 : (t218 == 0) = true := beq_iff_eq.mpr c7
  have c7b1 : (t218 != 0) = false := bne_eq_false_iff_eq.mpr c7
  clear c7
  by_cases c8 : t241 = 0
  ·
   rw [if_pos c8] at H
   have c8b0 : (t241 == 0) = true := beq_iff_eq.mpr c8
   have c8b1 : (t241 != 0) = false := bne_eq_false_iff_eq.mpr c8
   clear c8
   by_cases c9 : t259 = 0
   ·
    rw [if_pos c9] at H
    have c9b0 : (t259 == 0) = true := beq_iff_eq.mpr c9
    have c9b1 : (t259 != 0) = false := bne_eq_false_iff_eq.mpr c9
    clear c9
    replace H := Option.bind_eq_some_iff.mp H
    obtain ⟨⟨t260, t261⟩, A100, H⟩ := H
    try dsimp only at H
    have A10 := Aside0.mk A100
    clear A100
    by_cases c11 : (t214 == t260 && (t215 == t261)) = true
    ·
     rw [if_pos c11] at H
     have c11b0 : (t214 == t260 && (t215 == t261)) = true := c11
     (try (have c11b1 : decide (t214 = t260 && (t215 == t261)) = true := by simpa using c11))
     (try (have c11b2 : (t214 == t260 && (t215 == t261)) = true := by simpa using c11))
     clear c11
     replace H := Option.bind_eq_some_iff.mp H
     obtain ⟨⟨t262, t263⟩, A120, H⟩ := H
     try dsimp only at H
     have A12 := Aside0.mk A120
     clear A120
     by_cases c13 : (t216 == t262 && (t217 == t263)) = true
     ·
      rw [if_pos c13] at H
      have c13b0 : (t216 == t262 && (t217 == t263)) = true := c13
      (try (have c13b1 : decide (t216 = t262 && (t217 == t263)) = true := by simpa using c13))
      (try (have c13b2 : (t216 == t262 && (t217 == t263)) = true := by simpa using c13))
      clear c13
      by_cases c14 : t237 = 1
      ·
       rw [if_pos c14] at H
       have c14b0 : (t237 == 1) = true := beq_iff_eq.mpr c14
       have c14b1 : (t237 != 1) = false := bne_eq_false_iff_eq.mpr c14
       clear c14
       by_cases c15 : t258 = 95
       ·
        rw [if_pos c15] at H
        have c15b0 : (t258 == 95) = true := beq_iff_eq.mpr c15
        have c15b1 : (t258 != 95) = false := bne_eq_false_iff_eq.mpr c15
        clear c15
        obtain ⟨y264, hy264⟩ : ∃ y_ : List Int, y_ = (([0, (-1), 1] : List Int)) := ⟨_, rfl⟩
        replace H : ((swarfkit_EqualInts.f k t255 y264).bind fun t267 => (if t267 = true then ((swarflaw07_rng.f 90 100).bind fun bt268 => ((swarflaw07_rng.f 240 250).bind fun bt270 => ((swarfkit_EqualRanges.f k t238 (([(⟨bt268.1, bt268.2⟩ : S56), (⟨bt270.1, bt270.2⟩ : S56)] : List (S56)))).bind fun t275 => (some t275)))) else (some false))) = some r := by first | (rw [hy264]; with_reducible exact H) | (have H2_ := (Option.bind_some _ _).symm.trans H; rw [hy264]; with_reducible exact H2_) | (have H2_ := (Option.bind_some _ _).symm.trans H; with_reducible exact H2_) | with_reducible exact H | (rw [hy264]; exact H) | exact H
        have Ny264 := Aside0.mk hy264
        clear hy264
        replace H := Option.bind_eq_some_iff.mp H
        obtain ⟨t267, A160, H⟩ := H
        try dsimp only at H
        have A16 := Aside0.mk A160
        clear A160
        by_cases c17 : t267 = true
        ·
         subst c17
         have H1 : ((swarflaw07_rng.f 90 100).bind fun bt268 => ((swarflaw07_rng.f 240 250).bind fun bt270 => ((swarfkit_EqualRanges.f k t238 (([(⟨bt268.1, bt268.2⟩ : S56), (⟨bt270.1, bt270.2⟩ : S56)] : List (S56)))).bind fun t275 => (some t275)))) = some r := by rw [if_pos rfl] at H; exact H
         clear H
         have H := H1
         clear H1
         replace H := Option.bind_eq_some_iff.mp H
         obtain ⟨⟨t268, t269⟩, A180, H⟩ := H
         try dsimp only at H
         have A18 := Aside0.mk A180
         clear A180
         replace H := Option.bind_eq_some_iff.mp H
         obtain ⟨⟨t270, t271⟩, A190, H⟩ := H
         try dsimp only at H
         have A19 := Aside0.mk A190
         clear A190
         obtain ⟨y272, hy272⟩ : ∃ y_ : List (S56), y_ = (([(⟨t268, t269⟩ : S56), (⟨t270, t271⟩ : S56)] : List (S56))) := ⟨_, rfl⟩
         replace H : ((swarfkit_EqualRanges.f k t238 y272).bind fun t275 => (some t275)) = some r := by first | (rw [hy272]; with_reducible exact H) | (have H2_ := (Option.bind_some _ _).symm.trans H; rw [hy272]; with_reducible exact H2_) | (have H2_ := (Option.bind_some _ _).symm.trans H; with_reducible exact H2_) | with_reducible exact H | (rw [hy272]; exact H) | exact H
         have Ny272 := Aside0.mk hy272
         clear hy272
         replace H := Option.bind_eq_some_iff.mp H
         obtain ⟨t275, A200, H⟩ := H
         replace H : (some t275) = some r := H
         have A20 := Aside0.mk A200
         clear A200
         obtain rfl := Option.some.inj H
         go_enter Try.func15, Try.ntmps15
         try go_wp2_with (first | ((with_reducible refine gate_callee (f := 52) rfl ?_); refine goesL_ (some 11) rfl rfl Try.func52 (by kernel_rfl) rfl #[] rfl (by (try simp only [List.map_toArray, List.map_cons, List.map_nil]); first | done | rfl | (simp only [List.length_drop, List.length_take]; rfl)) ?_; (with_reducible refine (swarflaw07_voyage.calls  t198 t199 t200 t201 t204 t205 t208 _ A1.out).mono ?_); rintro e w21 ⟨v202, v206, v209, rfl, ho0, ho1, ho2, hb⟩; refine ⟨_, rfl, ?_⟩; have HO203 := Aside0.mk (Kd.R_lower (Kd.R_mono (ok' := fun k_ => True) ho0 (fun _ hk_ => trivial)) (below_size (below_x HB.out))); have HO207 := Aside0.mk (Kd.N_lower (Kd.N_mono (ok' := fun k_ => some k_ ≠ (v202 : Value).ownBlock ∧ some k_ ≠ (v209 : Value).ownBlock) ho1 (fun k_ hk_ => ⟨hk_.2.1, hk_.2.2⟩)) (below_size (below_x HB.out))); have HO210 := Aside0.mk (Kd.R_lower (Kd.R_mono (ok' := fun k_ => True) ho2 (fun _ hk_ => trivial)) (below_size (below_x HB.out))); replace HB := Aside0.mk (below_step (below_x HB.out) hb); (try clear hb); (try clear hk); (try clear hi); (try clear ho0); (try clear ho1); (try clear ho2)) | ((with_reducible refine gate_dst (N := 12) rfl ?_); (try (refine gate_guard (by rfl) ?_; dsimp only)); refine Kd.R_lit (Kd.int .i64) _ 3 ?hg (N := 12) ?hd (xs := ([0, 1, (-1)] : List Int)) (inner := [.int .i64 0, .int .i64 1, .int .i64 (-1)]) (ok := fun _ => True) (okp := fun _ => True) ?hr ?hp (fun _ hk => hk) trivial (Below.refl _ _) (Nat.le_refl _) (by simp) ?_; (case hd => rfl); (case hg => rfl); (case hr => first | (go_simp; done) | (go_simp; rfl)); (case hp => exact (Reps.one (show Kd.M (Kd.int .i64) _ _ _ 0 [.int .i64 0] from rfl) (Reps.one (show Kd.M (Kd.int .i64) _ _ _ 1 [.int .i64 1] from rfl) (Reps.one (show Kd.M (Kd.int .i64) _ _ _ (-1) [.int .i64 (-1)] from rfl) (Reps.none _ _))))); intro v212 w22 ho23 hb hg_ hnew_; clear hg_ hnew_; (first | rw [← Ny211.out] at ho23 | (simp only [Int.reduceToNat] at ho23; rw [← Ny211.out] at ho23)); replace HO203 := Aside0.mk (Kd.R_below (Kd.R_x HO203.out) hb); replace HO207 := Aside0.mk (Kd.N_elder' (Kd.N_x HO207.out) (Kd.R_base ho23) hb); replace HO210 := Aside0.mk (Kd.R_below (Kd.R_x HO210.out) hb); have HO213 := Aside0.mk (Kd.R_lower ho23 (below_size (below_x HB.out))); replace HB := Aside0.mk (below_step (below_x HB.out) hb); clear hb ho23; obtain ⟨Ao24, co24, eo24⟩ := Kd.R_slice HO203.out; subst eo24; obtain ⟨Ao25, co25, eo25⟩ := Kd.N_slice HO207.out; subst eo25; obtain ⟨Ao26, co26, eo26⟩ := Kd.R_slice HO210.out; subst eo26; obtain ⟨Ao27, co27, eo27⟩ := Kd.R_slice HO213.out; subst eo27) | ((with_reducible refine gate_callee (f := 35) rfl ?_); refine goesL_ (some 13) rfl rfl Try.func35 (by kernel_rfl) rfl #[.agg #[.int .i64 t198, .int .i64 t199, .int .i64 t200, .slice Ao24 t201.length co24, .int .i64 t204, .slice Ao25 t205.length co25, .slice Ao26 t208.length co26], .slice Ao27 y211.length co27] rfl (by (try simp only [List.map_toArray, List.map_cons, List.map_nil]); first | done | rfl | (simp only [List.length_drop, List.length_take]; rfl)) ?_; (with_reducible refine (ship_Drafts.calls t198 t199 t200 _ _ t201 t204 _ _ t205 _ _ t208 _ _ y211 t214 t215 t216 t217 t218 _ ?side1 ?side2 ?side3 ?side4 ?side5 ?side6 ?side7 ?side8 A2.out).mono ?_); (case side1 => exact Kd.C_y (Kd.R_reads' HO203.out).2.2); (case side2 => exact (Kd.R_reads' HO203.out).2.1); (case side3 => exact Kd.C_y (Kd.N_reads' HO207.out).2.2); (case side4 => exact (Kd.N_reads' HO207.out).2.1); (case side5 => exact Kd.C_y (Kd.R_reads' HO210.out).2.2); (case side6 => exact (Kd.R_reads' HO210.out).2.1); (case side7 => exact Kd.C_y (Kd.R_reads' HO213.out).2.2); (case side8 => exact (Kd.R_reads' HO213.out).2.1); rintro e w28 ⟨rfl, hb⟩; refine ⟨_, rfl, ?_⟩; replace HO203 := Aside0.mk (Kd.R_below (Kd.R_x HO203.out) hb); replace HO207 := Aside0.mk (Kd.N_below (Kd.N_x HO207.out) hb); replace HO210 := Aside0.mk (Kd.R_below (Kd.R_x HO210.out) hb); replace HO213 := Aside0.mk (Kd.R_below (Kd.R_x HO213.out) hb); replace HB := Aside0.mk (below_step (below_x HB.out) hb); (try clear hb); (try clear hk); (try clear hi)) | ((with_reducible refine gate_dst (N := 1) rfl ?_); (try (refine gate_guard (by rfl) ?_; dsimp only)); refine box_event ?hg (N := 1) ?hd (cs := #[.int .i64 0, .int .i64 0]) (t := 56) ?hr ?_; (case hd => rfl); (case hg => rfl); (case hr => first | (go_simp; done) | (go_simp; rfl)); intro gb219 hg w29 hbox hb; replace HO203 := Aside0.mk (Kd.R_below (Kd.R_x HO203.out) hb); replace HO207 := Aside0.mk (Kd.N_below (Kd.N_elderB (Kd.N_x HO207.out) gb219 (Nat.le_of_eq hg.symm)) hb); replace HO210 := Aside0.mk (Kd.R_below (Kd.R_x HO210.out) hb); replace HO213 := Aside0.mk (Kd.R_below (Kd.R_x HO213.out) hb); have BK219 := Aside0.mk (hbox); have GW219 := Aside0.mk ((by rw [hg]; exact (below_size (below_x HB.out)) : w.heap.size ≤ gb219)); have GE219 := Aside0.mk ((by rw [hg]; exact (below_size (below_x HB.out)) : w.heap.size ≤ gb219)); replace HB := Aside0.mk (below_step (below_x HB.out) hb); clear hb hbox hg) | ((with_reducible refine gate_dst (N := 2) rfl ?_); (try (refine gate_guard (by rfl) ?_; dsimp only)); refine box_event ?hg (N := 2) ?hd (cs := #[.int .i64 0, .int .i64 0]) (t := 56) ?hr ?_; (case hd => rfl); (case hg => rfl); (case hr => first | (go_simp; done) | (go_simp; rfl)); intro gb220 hg w30 hbox hb; replace HO203 := Aside0.mk (Kd.R_below (Kd.R_x HO203.out) hb); replace HO207 := Aside0.mk (Kd.N_below (Kd.N_elderB (Kd.N_x HO207.out) gb220 (Nat.le_of_eq hg.symm)) hb); replace HO210 := Aside0.mk (Kd.R_below (Kd.R_x HO210.out) hb); replace HO213 := Aside0.mk (Kd.R_below (Kd.R_x HO213.out) hb); have BK220 := Aside0.mk (hbox); have GW220 := Aside0.mk ((by rw [hg]; exact (below_size (by exact below_y HB.out)) : w.heap.size ≤ gb220)); have GE220 := Aside0.mk ((by rw [hg]; exact (below_size (by exact below_y HB.out)) : w.heap.size ≤ gb220)); replace HB := bl_x HB hb; have NB219_220 := Aside0.mk ((by rw [hg]; exact Nat.ne_of_lt (blk_lt (g := gb219) (o := .cells #[.int .i64 0, .int .i64 0] 56 (0, 0)) (blk_x BK219.out)) : gb219 ≠ gb220)); have NB220_219 := Aside0.mk ((by rw [hg]; exact Nat.ne_of_gt (blk_lt (g := gb219) (o := .cells #[.int .i64 0, .int .i64 0] 56 (0, 0)) (blk_x BK219.out)) : gb220 ≠ gb219)); replace BK219 := Aside0.mk (blk_below (blk_x BK219.out) hb); clear hb hbox hg; have hnb31 := NB219_220.out; have hnc31 := NB220_219.out; obtain ⟨_, _⟩ := cz2 BK219; have hfz32_0 := blk_frozen BK219.out; obtain ⟨_, _⟩ := cz2 BK220; have hfz33_0 := blk_frozen BK220.out) | ((with_reducible refine gate_callee (f := 52) rfl ?_); refine goesL_ (some 18) rfl rfl Try.func52 (by kernel_rfl) rfl #[] rfl (by (try simp only [List.map_toArray, List.map_cons, List.map_nil]); first | done | rfl | (simp only [List.length_drop, List.length_take]; rfl)) ?_; (with_reducible refine (swarflaw07_voyage.calls  t221 t222 t223 t224 t227 t228 t231 _ A3.out).mono ?_); rintro e w34 ⟨v225, v229, v232, rfl, ho0, ho1, ho2, hb⟩; refine ⟨_, rfl, ?_⟩; have HO226 := Aside0.mk (Kd.R_lower (Kd.R_new' (Kd.R_mono (ok' := fun k_ => True) ho0 (fun _ hk_ => trivial)) (Kd.R_lt (by (with_reducible repeat (first | apply Kd.R_alloc | apply Kd.R_drewN | apply Kd.R_drew)); exact (Kd.R_mono (Kd.R_mono (Kd.R_far (p := ⟨gb220, 1, none⟩) (Kd.R_far (p := ⟨gb220, 0, none⟩) (Kd.R_far (p := ⟨gb219, 1, none⟩) (Kd.R_far (p := ⟨gb219, 0, none⟩) (Kd.R_types (Kd.R_types HO203.out BK219.out (by decide)) BK220.out (by decide)) (fun _ hk => hk.1.2) (.int .i64 t214)) (fun _ hk => hk.1.2) (.int .i64 t215)) (fun _ hk => hk.2) (.int .i64 t216)) (fun _ hk => hk.2) (.int .i64 t217)) (fun _ h_ => h_.1)) (fun _ h_ => h_.1))))) (below_size (by exact below_y HB.out))); have HO230 := Aside0.mk (Kd.N_lower (Kd.N_mono (ok' := fun k_ => some k_ ≠ (v225 : Value).ownBlock ∧ some k_ ≠ (v232 : Value).ownBlock ∧ some k_ ≠ (.slice Ao24 t201.length co24 : Value).ownBlock ∧ some k_ ≠ (.slice Ao25 t205.length co25 : Value).ownBlock ∧ some k_ ≠ (.slice Ao26 t208.length co26 : Value).ownBlock ∧ some k_ ≠ (.slice Ao27 y211.length co27 : Value).ownBlock ∧ k_ ≠ gb219 ∧ k_ ≠ gb220) ho1 (fun k_ hk_ => ⟨hk_.2.1, hk_.2.2, (Kd.fresh' (Kd.R_lt (by (with_reducible repeat (first | apply Kd.R_alloc | apply Kd.R_drewN | apply Kd.R_drew)); exact (Kd.R_mono (Kd.R_mono (Kd.R_far (p := ⟨gb220, 1, none⟩) (Kd.R_far (p := ⟨gb220, 0, none⟩) (Kd.R_far (p := ⟨gb219, 1, none⟩) (Kd.R_far (p := ⟨gb219, 0, none⟩) (Kd.R_types (Kd.R_types HO203.out BK219.out (by decide)) BK220.out (by decide)) (fun _ hk => hk.1.2) (.int .i64 t214)) (fun _ hk => hk.1.2) (.int .i64 t215)) (fun _ hk => hk.2) (.int .i64 t216)) (fun _ hk => hk.2) (.int .i64 t217)) (fun _ h_ => h_.1)) (fun _ h_ => h_.1)))) k_ hk_.1), (Kd.fresh' (Kd.N_lt (by (with_reducible repeat (first | apply Kd.N_alloc | apply Kd.N_drewN | apply Kd.N_drew)); exact (Kd.N_mono (Kd.N_mono (Kd.N_far (p := ⟨gb220, 1, none⟩) (Kd.N_far (p := ⟨gb220, 0, none⟩) (Kd.N_far (p := ⟨gb219, 1, none⟩) (Kd.N_far (p := ⟨gb219, 0, none⟩) (Kd.N_mono (Kd.N_mono HO207.out (fun k_ hk => (⟨hk, hk.1.2⟩ : _ ∧ k_ ≠ gb219))) (fun k_ hk => (⟨hk, hk.1.2⟩ : _ ∧ k_ ≠ gb220))) (fun _ hk => hk.1.2) (.int .i64 t214)) (fun _ hk => hk.1.2) (.int .i64 t215)) (fun _ hk => hk.2) (.int .i64 t216)) (fun _ hk => hk.2) (.int .i64 t217)) (fun _ h_ => h_.1)) (fun _ h_ => h_.1)))) k_ hk_.1), (Kd.fresh' (Kd.R_lt (by (with_reducible repeat (first | apply Kd.R_alloc | apply Kd.R_drewN | apply Kd.R_drew)); exact (Kd.R_mono (Kd.R_mono (Kd.R_far (p := ⟨gb220, 1, none⟩) (Kd.R_far (p := ⟨gb220, 0, none⟩) (Kd.R_far (p := ⟨gb219, 1, none⟩) (Kd.R_far (p := ⟨gb219, 0, none⟩) (Kd.R_types (Kd.R_types HO210.out BK219.out (by decide)) BK220.out (by decide)) (fun _ hk => hk.1.2) (.int .i64 t214)) (fun _ hk => hk.1.2) (.int .i64 t215)) (fun _ hk => hk.2) (.int .i64 t216)) (fun _ hk => hk.2) (.int .i64 t217)) (fun _ h_ => h_.1)) (fun _ h_ => h_.1)))) k_ hk_.1), (Kd.fresh' (Kd.R_lt (by (with_reducible repeat (first | apply Kd.R_alloc | apply Kd.R_drewN | apply Kd.R_drew)); exact (Kd.R_mono (Kd.R_mono (Kd.R_far (p := ⟨gb220, 1, none⟩) (Kd.R_far (p := ⟨gb220, 0, none⟩) (Kd.R_far (p := ⟨gb219, 1, none⟩) (Kd.R_far (p := ⟨gb219, 0, none⟩) (Kd.R_types (Kd.R_types HO213.out BK219.out (by decide)) BK220.out (by decide)) (fun _ hk => hk.1.2) (.int .i64 t214)) (fun _ hk => hk.1.2) (.int .i64 t215)) (fun _ hk => hk.2) (.int .i64 t216)) (fun _ hk => hk.2) (.int .i64 t217)) (fun _ h_ => h_.1)) (fun _ h_ => h_.1)))) k_ hk_.1), (Kd.freshB (g := gb219) (o := .cells #[.int .i64 t214, .int .i64 t215] 56 (0, 0)) (by (with_reducible repeat (first | refine blk_drewN ?_ _ | refine blk_drew ?_ | refine blk_alloc ?_ _)); refine blk_far ?_ NB219_220.out _; (with_reducible repeat (first | refine blk_drewN ?_ _ | refine blk_drew ?_ | refine blk_alloc ?_ _)); refine blk_far ?_ NB219_220.out _; (with_reducible repeat (first | refine blk_drewN ?_ _ | refine blk_drew ?_ | refine blk_alloc ?_ _)); refine blk_put (cs := #[.int .i64 t214, .int .i64 0]) ?_ 1 _ rfl; (with_reducible repeat (first | refine blk_drewN ?_ _ | refine blk_drew ?_ | refine blk_alloc ?_ _)); refine blk_put (cs := #[.int .i64 0, .int .i64 0]) ?_ 0 _ rfl; (with_reducible repeat (first | refine blk_drewN ?_ _ | refine blk_drew ?_ | refine blk_alloc ?_ _)); exact BK219.out) k_ hk_.1), (Kd.freshB (g := gb220) (o := .cells #[.int .i64 t216, .int .i64 t217] 56 (0, 0)) (by (with_reducible repeat (first | refine blk_drewN ?_ _ | refine blk_drew ?_ | refine blk_alloc ?_ _)); refine blk_put (cs := #[.int .i64 t216, .int .i64 0]) ?_ 1 _ rfl; (with_reducible repeat (first | refine blk_drewN ?_ _ | refine blk_drew ?_ | refine blk_alloc ?_ _)); refine blk_put (cs := #[.int .i64 0, .int .i64 0]) ?_ 0 _ rfl; exact blk_w BK220.out) k_ hk_.1)⟩)) (below_size (by exact below_y HB.out))); replace HO203 := Aside0.mk (Kd.R_elder' (by (with_reducible repeat (first | apply Kd.R_alloc | apply Kd.R_drewN | apply Kd.R_drew)); exact (Kd.R_mono (Kd.R_mono (Kd.R_far (p := ⟨gb220, 1, none⟩) (Kd.R_far (p := ⟨gb220, 0, none⟩) (Kd.R_far (p := ⟨gb219, 1, none⟩) (Kd.R_far (p := ⟨gb219, 0, none⟩) (Kd.R_types (Kd.R_types HO203.out BK219.out (by decide)) BK220.out (by decide)) (fun _ hk => hk.1.2) (.int .i64 t214)) (fun _ hk => hk.1.2) (.int .i64 t215)) (fun _ hk => hk.2) (.int .i64 t216)) (fun _ hk => hk.2) (.int .i64 t217)) (fun _ h_ => h_.1)) (fun _ h_ => h_.1))) (Kd.R_base ho0) hb); replace HO207 := Aside0.mk (Kd.N_mono (Kd.N_told (Kd.N_told (Kd.N_told (Kd.N_old (by (with_reducible repeat (first | apply Kd.N_alloc | apply Kd.N_drewN | apply Kd.N_drew)); exact (Kd.N_mono (Kd.N_mono (Kd.N_far (p := ⟨gb220, 1, none⟩) (Kd.N_far (p := ⟨gb220, 0, none⟩) (Kd.N_far (p := ⟨gb219, 1, none⟩) (Kd.N_far (p := ⟨gb219, 0, none⟩) (Kd.N_mono (Kd.N_mono HO207.out (fun k_ hk => (⟨hk, hk.1.2⟩ : _ ∧ k_ ≠ gb219))) (fun k_ hk => (⟨hk, hk.1.2⟩ : _ ∧ k_ ≠ gb220))) (fun _ hk => hk.1.2) (.int .i64 t214)) (fun _ hk => hk.1.2) (.int .i64 t215)) (fun _ hk => hk.2) (.int .i64 t216)) (fun _ hk => hk.2) (.int .i64 t217)) (fun _ h_ => h_.1)) (fun _ h_ => h_.1))) hb) (Kd.R_base ho0)) (Kd.N_base ho1)) (Kd.R_base ho2)) (fun _ h_ => h_.1)); replace HO213 := Aside0.mk (Kd.R_below (by (with_reducible repeat (first | apply Kd.R_alloc | apply Kd.R_drewN | apply Kd.R_drew)); exact (Kd.R_mono (Kd.R_mono (Kd.R_far (p := ⟨gb220, 1, none⟩) (Kd.R_far (p := ⟨gb220, 0, none⟩) (Kd.R_far (p := ⟨gb219, 1, none⟩) (Kd.R_far (p := ⟨gb219, 0, none⟩) (Kd.R_types (Kd.R_types HO213.out BK219.out (by decide)) BK220.out (by decide)) (fun _ hk => hk.1.2) (.int .i64 t214)) (fun _ hk => hk.1.2) (.int .i64 t215)) (fun _ hk => hk.2) (.int .i64 t216)) (fun _ hk => hk.2) (.int .i64 t217)) (fun _ h_ => h_.1)) (fun _ h_ => h_.1))) hb); have HO233 := Aside0.mk (Kd.R_lower (Kd.R_new' (Kd.R_mono (ok' := fun k_ => True) ho2 (fun _ hk_ => trivial)) (Kd.R_lt (by (with_reducible repeat (first | apply Kd.R_alloc | apply Kd.R_drewN | apply Kd.R_drew)); exact (Kd.R_mono (Kd.R_mono (Kd.R_far (p := ⟨gb220, 1, none⟩) (Kd.R_far (p := ⟨gb220, 0, none⟩) (Kd.R_far (p := ⟨gb219, 1, none⟩) (Kd.R_far (p := ⟨gb219, 0, none⟩) (Kd.R_types (Kd.R_types HO210.out BK219.out (by decide)) BK220.out (by decide)) (fun _ hk => hk.1.2) (.int .i64 t214)) (fun _ hk => hk.1.2) (.int .i64 t215)) (fun _ hk => hk.2) (.int .i64 t216)) (fun _ hk => hk.2) (.int .i64 t217)) (fun _ h_ => h_.1)) (fun _ h_ => h_.1))))) (below_size (by exact below_y HB.out))); replace HO210 := Aside0.mk (Kd.R_elder' (by (with_reducible repeat (first | apply Kd.R_alloc | apply Kd.R_drewN | apply Kd.R_drew)); exact (Kd.R_mono (Kd.R_mono (Kd.R_far (p := ⟨gb220, 1, none⟩) (Kd.R_far (p := ⟨gb220, 0, none⟩) (Kd.R_far (p := ⟨gb219, 1, none⟩) (Kd.R_far (p := ⟨gb219, 0, none⟩) (Kd.R_types (Kd.R_types HO210.out BK219.out (by decide)) BK220.out (by decide)) (fun _ hk => hk.1.2) (.int .i64 t214)) (fun _ hk => hk.1.2) (.int .i64 t215)) (fun _ hk => hk.2) (.int .i64 t216)) (fun _ hk => hk.2) (.int .i64 t217)) (fun _ h_ => h_.1)) (fun _ h_ => h_.1))) (Kd.R_base ho2) hb); replace BK219 := Aside0.mk (blk_below (g := gb219) (o := .cells #[.int .i64 t214, .int .i64 t215] 56 (0, 0)) (by (with_reducible repeat (first | refine blk_drewN ?_ _ | refine blk_drew ?_ | refine blk_alloc ?_ _)); refine blk_far ?_ NB219_220.out _; (with_reducible repeat (first | refine blk_drewN ?_ _ | refine blk_drew ?_ | refine blk_alloc ?_ _)); refine blk_far ?_ NB219_220.out _; (with_reducible repeat (first | refine blk_drewN ?_ _ | refine blk_drew ?_ | refine blk_alloc ?_ _)); refine blk_put (cs := #[.int .i64 t214, .int .i64 0]) ?_ 1 _ rfl; (with_reducible repeat (first | refine blk_drewN ?_ _ | refine blk_drew ?_ | refine blk_alloc ?_ _)); refine blk_put (cs := #[.int .i64 0, .int .i64 0]) ?_ 0 _ rfl; (with_reducible repeat (first | refine blk_drewN ?_ _ | refine blk_drew ?_ | refine blk_alloc ?_ _)); exact BK219.out) hb); replace BK220 := Aside0.mk (blk_below (g := gb220) (o := .cells #[.int .i64 t216, .int .i64 t217] 56 (0, 0)) (by (with_reducible repeat (first | refine blk_drewN ?_ _ | refine blk_drew ?_ | refine blk_alloc ?_ _)); refine blk_put (cs := #[.int .i64 t216, .int .i64 0]) ?_ 1 _ rfl; (with_reducible repeat (first | refine blk_drewN ?_ _ | refine blk_drew ?_ | refine blk_alloc ?_ _)); refine blk_put (cs := #[.int .i64 0, .int .i64 0]) ?_ 0 _ rfl; exact blk_w BK220.out) hb); replace HB := bl_x HB hb; (try clear hb); (try clear hk); (try clear hi); (try clear ho0); (try clear ho1); (try clear ho2)) | ((with_reducible refine gate_dst (N := 19) rfl ?_); (try (refine gate_guard (by rfl) ?_; dsimp only)); refine Kd.R_lit (Kd.int .i64) _ 3 ?hg (N := 19) ?hd (xs := ([0, 1, (-1)] : List Int)) (inner := [.int .i64 0, .int .i64 1, .int .i64 (-1)]) (ok := fun _ => True) (okp := fun _ => True) ?hr ?hp (fun _ hk => hk) trivial (Below.refl _ _) (Nat.le_refl _) (by simp) ?_; (case hd => rfl); (case hg => rfl); (case hr => first | (go_simp; done) | (go_simp; rfl)); (case hp => exact (Reps.one (show Kd.M (Kd.int .i64) _ _ _ 0 [.int .i64 0] from rfl) (Reps.one (show Kd.M (Kd.int .i64) _ _ _ 1 [.int .i64 1] from rfl) (Reps.one (show Kd.M (Kd.int .i64) _ _ _ (-1) [.int .i64 (-1)] from rfl) (Reps.none _ _))))); intro v235 w35 ho36 hb hg_ hnew_; clear hg_ hnew_; (first | rw [← Ny234.out] at ho36 | (simp only [Int.reduceToNat] at ho36; rw [← Ny234.out] at ho36)); replace HO203 := Aside0.mk (Kd.R_below (Kd.R_x HO203.out) hb); replace HO207 := Aside0.mk (Kd.N_elder' (Kd.N_x HO207.out) (Kd.R_base ho36) hb); replace HO210 := Aside0.mk (Kd.R_below (Kd.R_x HO210.out) hb); replace HO226 := Aside0.mk (Kd.R_below (Kd.R_x HO226.out) hb); replace HO230 := Aside0.mk (Kd.N_elder' (Kd.N_x HO230.out) (Kd.R_base ho36) hb); replace HO233 := Aside0.mk (Kd.R_below (Kd.R_x HO233.out) hb); have HO236 := Aside0.mk (Kd.R_lower (Kd.R_new' ho36 (Kd.R_lt (Kd.R_x HO213.out))) (below_size (by exact below_y HB.out))); replace HO213 := Aside0.mk (Kd.R_elder' (Kd.R_x HO213.out) (Kd.R_base ho36) hb); replace BK219 := Aside0.mk (blk_below (blk_x BK219.out) hb); replace BK220 := Aside0.mk (blk_below (blk_x BK220.out) hb); replace HB := bl_x HB hb; clear hb ho36; obtain ⟨Ao37, co37, eo37⟩ := Kd.R_slice HO226.out; subst eo37; obtain ⟨Ao38, co38, eo38⟩ := Kd.N_slice HO230.out; subst eo38; obtain ⟨Ao39, co39, eo39⟩ := Kd.R_slice HO233.out; subst eo39; obtain ⟨Ao40, co40, eo40⟩ := Kd.R_slice HO236.out; subst eo40) | ((with_reducible refine gate_callee (f := 22) rfl ?_); refine goesL_ (some 20) rfl rfl Try.func22 (by kernel_rfl) rfl #[.agg #[.int .i64 t221, .int .i64 t222, .int .i64 t223, .slice Ao37 t224.length co37, .int .i64 t227, .slice Ao38 t228.length co38, .slice Ao39 t231.length co39], .slice Ao40 y234.length co40] rfl (by (try simp only [List.map_toArray, List.map_cons, List.map_nil]); first | done | rfl | (simp only [List.length_drop, List.length_take]; rfl)) ?_; (with_reducible refine (ship_Sail.calls t221 t222 t223 _ _ t224 t227 _ _ t228 _ _ t231 _ _ y234 t237 t238 t241 _ ?side1 ?side2 ?side3 ?side4 ?side5 ?side6 ?side7 ?side8 A4.out).mono ?_); (case side1 => exact Kd.C_y (Kd.R_reads' HO226.out).2.2); (case side2 => exact (Kd.R_reads' HO226.out).2.1); (case side3 => exact Kd.C_y (Kd.N_reads' HO230.out).2.2); (case side4 => exact (Kd.N_reads' HO230.out).2.1); (case side5 => exact Kd.C_y (Kd.R_reads' HO233.out).2.2); (case side6 => exact (Kd.R_reads' HO233.out).2.1); (case side7 => exact Kd.C_y (Kd.R_reads' HO236.out).2.2); (case side8 => exact (Kd.R_reads' HO236.out).2.1); rintro e w41 ⟨v239, rfl, ho0, hb⟩; refine ⟨_, rfl, ?_⟩; replace HO203 := Aside0.mk (Kd.R_below (Kd.R_x HO203.out) hb); replace HO207 := Aside0.mk (Kd.N_elder' (Kd.N_x HO207.out) (Kd.R_base ho0) hb); replace HO210 := Aside0.mk (Kd.R_below (Kd.R_x HO210.out) hb); replace HO213 := Aside0.mk (Kd.R_below (Kd.R_x HO213.out) hb); replace HO226 := Aside0.mk (Kd.R_below (Kd.R_x HO226.out) hb); replace HO230 := Aside0.mk (Kd.N_elder' (Kd.N_x HO230.out) (Kd.R_base ho0) hb); replace HO233 := Aside0.mk (Kd.R_below (Kd.R_x HO233.out) hb); replace HO236 := Aside0.mk (Kd.R_below (Kd.R_x HO236.out) hb); have HO240 := Aside0.mk (Kd.R_lower (Kd.R_newB (Kd.R_newB ho0 (g := gb219) (o := .cells #[.int .i64 t214, .int .i64 t215] 56 (0, 0)) (blk_x BK219.out)) (g := gb220) (o := .cells #[.int .i64 t216, .int .i64 t217] 56 (0, 0)) (blk_x BK220.out)) (below_size (by exact below_y HB.out))); replace BK219 := Aside0.mk (blk_below (blk_x BK219.out) hb); replace BK220 := Aside0.mk (blk_below (blk_x BK220.out) hb); replace HB := bl_x HB hb; (try clear hb); (try clear hk); (try clear hi); (try clear ho0)) | ((with_reducible refine gate_callee (f := 52) rfl ?_); refine goesL_ (some 25) rfl rfl Try.func52 (by kernel_rfl) rfl #[] rfl (by (try simp only [List.map_toArray, List.map_cons, List.map_nil]); first | done | rfl | (simp only [List.length_drop, List.length_take]; rfl)) ?_; (with_reducible refine (swarflaw07_voyage.calls  t242 t243 t244 t245 t248 t249 t252 _ A5.out).mono ?_); rintro e w42 ⟨v246, v250, v253, rfl, ho0, ho1, ho2, hb⟩; refine ⟨_, rfl, ?_⟩; have HO247 := Aside0.mk (Kd.R_lower (Kd.R_new' (Kd.R_new' (Kd.R_mono (ok' := fun k_ => True) ho0 (fun _ hk_ => trivial)) (Kd.R_lt (Kd.R_x HO203.out))) (Kd.R_lt (Kd.R_x HO226.out))) (below_size (by exact below_y HB.out))); have HO251 := Aside0.mk (Kd.N_lower (Kd.N_mono (ok' := fun k_ => some k_ ≠ (v246 : Value).ownBlock ∧ some k_ ≠ (v253 : Value).ownBlock ∧ some k_ ≠ (.slice Ao24 t201.length co24 : Value).ownBlock ∧ some k_ ≠ (.slice Ao25 t205.length co25 : Value).ownBlock ∧ some k_ ≠ (.slice Ao26 t208.length co26 : Value).ownBlock ∧ some k_ ≠ (.slice Ao27 y211.length co27 : Value).ownBlock ∧ some k_ ≠ (.slice Ao37 t224.length co37 : Value).ownBlock ∧ some k_ ≠ (.slice Ao38 t228.length co38 : Value).ownBlock ∧ some k_ ≠ (.slice Ao39 t231.length co39 : Value).ownBlock ∧ some k_ ≠ (.slice Ao40 y234.length co40 : Value).ownBlock ∧ some k_ ≠ (v239 : Value).ownBlock ∧ k_ ≠ gb219 ∧ k_ ≠ gb220) ho1 (fun k_ hk_ => ⟨hk_.2.1, hk_.2.2, (Kd.fresh' (Kd.R_lt (Kd.R_x HO203.out)) k_ hk_.1), (Kd.fresh' (Kd.N_lt (Kd.N_x HO207.out)) k_ hk_.1), (Kd.fresh' (Kd.R_lt (Kd.R_x HO210.out)) k_ hk_.1), (Kd.fresh' (Kd.R_lt (Kd.R_x HO213.out)) k_ hk_.1), (Kd.fresh' (Kd.R_lt (Kd.R_x HO226.out)) k_ hk_.1), (Kd.fresh' (Kd.N_lt (Kd.N_x HO230.out)) k_ hk_.1), (Kd.fresh' (Kd.R_lt (Kd.R_x HO233.out)) k_ hk_.1), (Kd.fresh' (Kd.R_lt (Kd.R_x HO236.out)) k_ hk_.1), (Kd.fresh' (Kd.R_lt (Kd.R_x HO240.out)) k_ hk_.1), (Kd.freshB (g := gb219) (o := .cells #[.int .i64 t214, .int .i64 t215] 56 (0, 0)) (blk_x BK219.out) k_ hk_.1), (Kd.freshB (g := gb220) (o := .cells #[.int .i64 t216, .int .i64 t217] 56 (0, 0)) (blk_x BK220.out) k_ hk_.1)⟩)) (below_size (by exact below_y HB.out))); replace HO203 := Aside0.mk (Kd.R_elder' (Kd.R_x HO203.out) (Kd.R_base ho0) hb); replace HO207 := Aside0.mk (Kd.N_mono (Kd.N_told (Kd.N_told (Kd.N_told (Kd.N_old (Kd.N_x HO207.out) hb) (Kd.R_base ho0)) (Kd.N_base ho1)) (Kd.R_base ho2)) (fun _ h_ => h_.1)); replace HO213 := Aside0.mk (Kd.R_below (Kd.R_x HO213.out) hb); replace HO226 := Aside0.mk (Kd.R_elder' (Kd.R_x HO226.out) (Kd.R_base ho0) hb); replace HO230 := Aside0.mk (Kd.N_mono (Kd.N_told (Kd.N_told (Kd.N_told (Kd.N_old (Kd.N_x HO230.out) hb) (Kd.R_base ho0)) (Kd.N_base ho1)) (Kd.R_base ho2)) (fun _ h_ => h_.1)); replace HO236 := Aside0.mk (Kd.R_below (Kd.R_x HO236.out) hb); replace HO240 := Aside0.mk (Kd.R_below (Kd.R_x HO240.out) hb); have HO254 := Aside0.mk (Kd.R_lower (Kd.R_new' (Kd.R_new' (Kd.R_mono (ok' := fun k_ => True) ho2 (fun _ hk_ => trivial)) (Kd.R_lt (Kd.R_x HO210.out))) (Kd.R_lt (Kd.R_x HO233.out))) (below_size (by exact below_y HB.out))); replace HO210 := Aside0.mk (Kd.R_elder' (Kd.R_x HO210.out) (Kd.R_base ho2) hb); replace HO233 := Aside0.mk (Kd.R_elder' (Kd.R_x HO233.out) (Kd.R_base ho2) hb); replace BK219 := Aside0.mk (blk_below (blk_x BK219.out) hb); replace BK220 := Aside0.mk (blk_below (blk_x BK220.out) hb); replace HB := bl_x HB hb; (try clear hb); (try clear hk); (try clear hi); (try clear ho0); (try clear ho1); (try clear ho2); obtain ⟨Ao43, co43, eo43⟩ := Kd.R_slice HO247.out; subst eo43; obtain ⟨Ao44, co44, eo44⟩ := Kd.N_slice HO251.out; subst eo44; obtain ⟨Ao45, co45, eo45⟩ := Kd.R_slice HO254.out; subst eo45) | ((with_reducible refine gate_callee (f := 28) rfl ?_); refine goesL_ (some 26) rfl rfl Try.func28 (by kernel_rfl) rfl #[.agg #[.int .i64 t242, .int .i64 t243, .int .i64 t244, .slice Ao43 t245.length co43, .int .i64 t248, .slice Ao44 t249.length co44, .slice Ao45 t252.length co45]] rfl (by (try simp only [List.map_toArray, List.map_cons, List.map_nil]); first | done | rfl | (simp only [List.length_drop, List.length_take]; rfl)) ?_; (with_reducible refine (ship_Best.calls t242 t243 t244 _ _ t245 t248 _ _ t249 _ _ t252 t255 t258 t259 _ ?side1 ?side2 ?side3 ?side4 ?side5 ?side6 A6.out).mono ?_); (case side1 => exact Kd.C_y (Kd.R_reads' HO247.out).2.2); (case side2 => exact (Kd.R_reads' HO247.out).2.1); (case side3 => exact Kd.C_y (Kd.N_reads' HO251.out).2.2); (case side4 => exact (Kd.N_reads' HO251.out).2.1); (case side5 => exact Kd.C_y (Kd.R_reads' HO254.out).2.2); (case side6 => exact (Kd.R_reads' HO254.out).2.1); rintro e w46 ⟨v256, rfl, ho0, hb⟩; refine ⟨_, rfl, ?_⟩; replace HO203 := Aside0.mk (Kd.R_below (Kd.R_x HO203.out) hb); replace HO207 := Aside0.mk (Kd.N_elder' (Kd.N_x HO207.out) (Kd.R_base ho0) hb); replace HO210 := Aside0.mk (Kd.R_below (Kd.R_x HO210.out) hb); replace HO226 := Aside0.mk (Kd.R_below (Kd.R_x HO226.out) hb); replace HO230 := Aside0.mk (Kd.N_elder' (Kd.N_x HO230.out) (Kd.R_base ho0) hb); replace HO233 := Aside0.mk (Kd.R_below (Kd.R_x HO233.out) hb); replace HO240 := Aside0.mk (Kd.R_below (Kd.R_x HO240.out) hb); replace HO247 := Aside0.mk (Kd.R_below (Kd.R_x HO247.out) hb); replace HO251 := Aside0.mk (Kd.N_elder' (Kd.N_x HO251.out) (Kd.R_base ho0) hb); replace HO254 := Aside0.mk (Kd.R_below (Kd.R_x HO254.out) hb); have HO257 := Aside0.mk (Kd.R_lower (Kd.R_new' (Kd.R_new' ho0 (Kd.R_lt (Kd.R_x HO213.out))) (Kd.R_lt (Kd.R_x HO236.out))) (below_size (by exact below_y HB.out))); replace HO213 := Aside0.mk (Kd.R_elder' (Kd.R_x HO213.out) (Kd.R_base ho0) hb); replace HO236 := Aside0.mk (Kd.R_elder' (Kd.R_x HO236.out) (Kd.R_base ho0) hb); replace BK219 := Aside0.mk (blk_below (blk_x BK219.out) hb); replace BK220 := Aside0.mk (blk_below (blk_x BK220.out) hb); replace HB := bl_x HB hb; (try clear hb); (try clear hk); (try clear hi); (try clear ho0)))
         replace HO203 := Aside0.mk (Kd.R_drew HO203.out)
         replace HO207 := Aside0.mk (Kd.N_drew HO207.out)
         replace HO210 := Aside0.mk (Kd.R_drew HO210.out)
         replace HO213 := Aside0.mk (Kd.R_drew HO213.out)
         replace HO226 := Aside0.mk (Kd.R_drew HO226.out)
         replace HO230 := Aside0.mk (Kd.N_drew HO230.out)
         replace HO233 := Aside0.mk (Kd.R_drew HO233.out)
         replace HO236 := Aside0.mk (Kd.R_drew HO236.out)
         replace HO240 := Aside0.mk (Kd.R_drew HO240.out)
         replace HO247 := Aside0.mk (Kd.R_drew HO247.out)
         replace HO251 := Aside0.mk (Kd.N_drew HO251.out)
         replace HO254 := Aside0.mk (Kd.R_drew HO254.out)
         replace HO257 := Aside0.mk (Kd.R_drew HO257.out)
         replace BK219 := Aside0.mk (blk_drew BK219.out)
         replace BK220 := Aside0.mk (blk_drew BK220.out)
         replace HB := Aside0.mk (below_drew1 HB.out)
         refine start_ (n := 41) (S := fun w' => w'.cell? ⟨gb219, 0, none⟩ = some (.int .i64 t214) ∧ w'.cell? ⟨gb219, 1, none⟩ = some (.int .i64 t215) ∧ w'.cell? ⟨gb220, 0, none⟩ = some (.int .i64 t216) ∧ w'.cell? ⟨gb220, 1, none⟩ = some (.int .i64 t217)) (ds := []) #[false, false, false, false, false, false, false, false, false, false, false, false, false, false, false, false, false, false, false, false, false, false, false, false, false, false, false, false, false, false, false, false, false, false, false, false, false, false, false, false, false] (by kernel_rfl) rfl rfl ⟨(blk_cell BK219.out 0).trans rfl, (blk_cell BK219.out 1).trans rfl, (blk_cell BK220.out 0).trans rfl, (blk_cell BK220.out 1).trans rfl⟩ (fun hHeld => ?_); refine with_tabW swarflaw07_awake.tab4 swarflaw07_awake.bits4 (fun HT_ HW_ => ?_)
         generalize w46.drew = w47 at HO203 HO207 HO210 HO213 HO226 HO230 HO233 HO236 HO240 HO247 HO251 HO254 HO257 BK219 BK220 HB hHeld ⊢
         refine pure_t 0 (some 30) (bz 41 1) HT_ ?_
         refine pure_t 1 (some 31) (bz 41 3) HT_ ?_
         refine pure_t 2 (some 32) (bz 41 7) HT_ ?_
         refine pure_t 3 (some 33) (bz 41 15) HT_ ?_
         refine pure_t 4 (some 34) (bz 41 31) HT_ ?_
         refine pure_t 5 (some 35) (bz 41 63) HT_ ?_
         refine pure_t 6 (some 36) (bz 41 127) HT_ ?_
         refine pure_t 7 (some 37) (bz 41 255) HT_ ?_
         refine pure_t 8 (some 38) (bz 41 511) HT_ ?_
         refine pure_t 9 (some 39) (bz 41 1023) HT_ ?_
         refine pure_t 10 (some 40) (bz 41 2047) HT_ ?_
         refine take_ (i := 11) (N := some 41) (v := ?_) (a' := ?_) (bz 41 4095) rfl rfl (take_ofW HT_.out HW_.out (by kernel_rfl)) (fun _ _ _ h => h) (Or.inl ⟨by rfl, ?_⟩) hHeld ?_ ?_
         rotate_left; (rintro w' ⟨s0, s1, s2, s3⟩; go_simp; with_reducible rfl); rotate_left; (simp only [Act.put, put_x, i64_w, i32_w]; rfl)
         refine one_ (i := 12) (N := some 42) (bz 41 8191) rfl rfl (one_of HT_.out (by kernel_rfl)) (by decide) (fun K hK => ?_)
         refine goes_ Try.func32 (by kernel_rfl) rfl #[.int .i64 1290000, .int .i64 1340000] (by rfl) rfl rfl (by (try simp only [List.map_toArray, List.map_cons, List.map_nil]); first | done | rfl | (simp only [List.length_drop, List.length_take]; rfl)) ?_
         with_reducible refine (swarflaw07_rng.calls 1290000 1340000 t260 t261 _ A10.out).mono ?_
         rintro e w48 ⟨rfl, hb⟩
         refine ⟨_, rfl, ?_⟩
         replace HO203 := Aside0.mk (Kd.R_below (Kd.R_x HO203.out) hb)
         replace HO207 := Aside0.mk (Kd.N_below (Kd.N_x HO207.out) hb)
         replace HO210 := Aside0.mk (Kd.R_below (Kd.R_x HO210.out) hb)
         replace HO213 := Aside0.mk (Kd.R_below (Kd.R_x HO213.out) hb)
         replace HO226 := Aside0.mk (Kd.R_below (Kd.R_x HO226.out) hb)
         replace HO230 := Aside0.mk (Kd.N_below (Kd.N_x HO230.out) hb)
         replace HO233 := Aside0.mk (Kd.R_below (Kd.R_x HO233.out) hb)
         replace HO236 := Aside0.mk (Kd.R_below (Kd.R_x HO236.out) hb)
         replace HO240 := Aside0.mk (Kd.R_below (Kd.R_x HO240.out) hb)
         replace HO247 := Aside0.mk (Kd.R_below (Kd.R_x HO247.out) hb)
         replace HO251 := Aside0.mk (Kd.N_below (Kd.N_x HO251.out) hb)
         replace HO254 := Aside0.mk (Kd.R_below (Kd.R_x HO254.out) hb)
         replace HO257 := Aside0.mk (Kd.R_below (Kd.R_x HO257.out) hb)
         replace BK219 := Aside0.mk (blk_below (blk_x BK219.out) hb)
         replace BK220 := Aside0.mk (blk_below (blk_x BK220.out) hb)
         replace HB := bl_x HB hb
         (try clear hb)
         (try clear hb2)
         (try clear hk)
         (try clear hi)
         refine hK.out _ _ ⟨(blk_cell BK219.out 0).trans rfl, (blk_cell BK219.out 1).trans rfl, (blk_cell BK220.out 0).trans rfl, (blk_cell BK220.out 1).trans rfl⟩ (fun hHeld => ?_)
         clear hK K
         refine norm_ (a' := ?_) ?_ ?_; rotate_left; (show Act.put _ (some 42) _ = _; simp only [Act.put, put_x, i64_w, i32_w]; rfl)
         refine pure_t 13 (some 43) (bz 41 16383) HT_ ?_
         refine pure_t 14 (some 44) (bz 41 32767) HT_ ?_
         refine pure_t 15 (some 45) (bz 41 65535) HT_ ?_
         refine take_ (i := 16) (N := some 46) (v := ?_) (a' := ?_) (bz 41 131071) rfl rfl (take_ofW HT_.out HW_.out (by kernel_rfl)) (fun _ _ _ h => h) (Or.inl ⟨by rfl, ?_⟩) hHeld ?_ ?_
         rotate_left; (rintro w' ⟨s0, s1, s2, s3⟩; go_simp; with_reducible rfl); rotate_left; (simp only [Act.put, put_x, i64_w, i32_w]; rfl)
         refine one_ (i := 17) (N := some 47) (bz 41 262143) rfl rfl (one_of HT_.out (by kernel_rfl)) (by decide) (fun K hK => ?_)
         refine goes_ Try.func32 (by kernel_rfl) rfl #[.int .i64 1260000, .int .i64 1310000] (by rfl) rfl rfl (by (try simp only [List.map_toArray, List.map_cons, List.map_nil]); first | done | rfl | (simp only [List.length_drop, List.length_take]; rfl)) ?_
         with_reducible refine (swarflaw07_rng.calls 1260000 1310000 t262 t263 _ A12.out).mono ?_
         rintro e w49 ⟨rfl, hb⟩
         refine ⟨_, rfl, ?_⟩
         replace HO203 := Aside0.mk (Kd.R_below (Kd.R_x HO203.out) hb)
         replace HO207 := Aside0.mk (Kd.N_below (Kd.N_x HO207.out) hb)
         replace HO210 := Aside0.mk (Kd.R_below (Kd.R_x HO210.out) hb)
         replace HO213 := Aside0.mk (Kd.R_below (Kd.R_x HO213.out) hb)
         replace HO226 := Aside0.mk (Kd.R_below (Kd.R_x HO226.out) hb)
         replace HO230 := Aside0.mk (Kd.N_below (Kd.N_x HO230.out) hb)
         replace HO233 := Aside0.mk (Kd.R_below (Kd.R_x HO233.out) hb)
         replace HO236 := Aside0.mk (Kd.R_below (Kd.R_x HO236.out) hb)
         replace HO240 := Aside0.mk (Kd.R_below (Kd.R_x HO240.out) hb)
         replace HO247 := Aside0.mk (Kd.R_below (Kd.R_x HO247.out) hb)
         replace HO251 := Aside0.mk (Kd.N_below (Kd.N_x HO251.out) hb)
         replace HO254 := Aside0.mk (Kd.R_below (Kd.R_x HO254.out) hb)
         replace HO257 := Aside0.mk (Kd.R_below (Kd.R_x HO257.out) hb)
         replace BK219 := Aside0.mk (blk_below (blk_x BK219.out) hb)
         replace BK220 := Aside0.mk (blk_below (blk_x BK220.out) hb)
         replace HB := bl_x HB hb
         (try clear hb)
         (try clear hb2)
         (try clear hk)
         (try clear hi)
         refine hK.out _ _ ⟨(blk_cell BK219.out 0).trans rfl, (blk_cell BK219.out 1).trans rfl, (blk_cell BK220.out 0).trans rfl, (blk_cell BK220.out 1).trans rfl⟩ (fun hHeld => ?_)
         clear hK K
         refine norm_ (a' := ?_) ?_ ?_; rotate_left; (show Act.put _ (some 47) _ = _; simp only [Act.put, put_x, i64_w, i32_w]; rfl)
         refine pure_t 18 (some 48) (bz 41 524287) HT_ ?_
         refine pure_t 19 (some 49) (bz 41 1048575) HT_ ?_
         refine pure_t 20 (some 50) (bz 41 2097151) HT_ ?_
         refine pure_t 21 (some 51) (bz 41 4194303) HT_ ?_
         refine pure_t 22 (some 52) (bz 41 8388607) HT_ ?_
         refine pure_t 23 (some 53) (bz 41 16777215) HT_ ?_
         refine pure_t 24 (some 54) (bz 41 33554431) HT_ ?_
         refine pure_t 25 (some 55) (bz 41 67108863) HT_ ?_
         refine pure_t 26 (some 56) (bz 41 134217727) HT_ ?_
         refine pure_t 27 (some 57) (bz 41 268435455) HT_ ?_
         refine pure_t 28 (some 58) (bz 41 536870911) HT_ ?_
         refine pure_t 29 (some 59) (bz 41 1073741823) HT_ ?_
         refine one_ (i := 30) (N := some 60) (bz 41 2147483647) rfl rfl (one_of HT_.out (by kernel_rfl)) (by decide) (fun K hK => ?_)
         refine Kd.R_lit_step (Kd.int .i64) _ 3 ?hg (N := 60) ?hd (xs := ([0, (-1), 1] : List Int)) (inner := [.int .i64 0, .int .i64 (-1), .int .i64 1]) (ok := fun _ => True) (okp := fun _ => True) ?hr ?hp (fun _ hk => hk) trivial (Below.refl _ _) (Nat.le_refl _) (by simp) ?_; (case hd => rfl); (case hg => rfl); (case hr => first | (go_simp; done) | (go_simp; rfl)); (case hp => exact (Reps.one (show Kd.M (Kd.int .i64) _ _ _ 0 [.int .i64 0] from rfl) (Reps.one (show Kd.M (Kd.int .i64) _ _ _ (-1) [.int .i64 (-1)] from rfl) (Reps.one (show Kd.M (Kd.int .i64) _ _ _ 1 [.int .i64 1] from rfl) (Reps.none _ _)))))
         intro v265 w50 ho51 hb hg_ hnew_
         clear hg_ hnew_
         (first | rw [← Ny264.out] at ho51 | (simp only [Int.reduceToNat] at ho51; rw [← Ny264.out] at ho51))
         replace HO203 := Aside0.mk (Kd.R_below (Kd.R_x HO203.out) hb)
         replace HO207 := Aside0.mk (Kd.N_elder' (Kd.N_x HO207.out) (Kd.R_base ho51) hb)
         replace HO210 := Aside0.mk (Kd.R_below (Kd.R_x HO210.out) hb)
         replace HO226 := Aside0.mk (Kd.R_below (Kd.R_x HO226.out) hb)
         replace HO230 := Aside0.mk (Kd.N_elder' (Kd.N_x HO230.out) (Kd.R_base ho51) hb)
         replace HO233 := Aside0.mk (Kd.R_below (Kd.R_x HO233.out) hb)
         replace HO240 := Aside0.mk (Kd.R_below (Kd.R_x HO240.out) hb)
         replace HO247 := Aside0.mk (Kd.R_below (Kd.R_x HO247.out) hb)
         replace HO251 := Aside0.mk (Kd.N_elder' (Kd.N_x HO251.out) (Kd.R_base ho51) hb)
         replace HO254 := Aside0.mk (Kd.R_below (Kd.R_x HO254.out) hb)
         have HO266 := Aside0.mk (Kd.R_lower (Kd.R_new' (Kd.R_new' (Kd.R_new' ho51 (Kd.R_lt (Kd.R_x HO213.out))) (Kd.R_lt (Kd.R_x HO236.out))) (Kd.R_lt (Kd.R_x HO257.out))) (below_size (by exact below_y HB.out)))
         replace HO213 := Aside0.mk (Kd.R_elder' (Kd.R_x HO213.out) (Kd.R_base ho51) hb)
         replace HO236 := Aside0.mk (Kd.R_elder' (Kd.R_x HO236.out) (Kd.R_base ho51) hb)
         replace HO257 := Aside0.mk (Kd.R_elder' (Kd.R_x HO257.out) (Kd.R_base ho51) hb)
         replace BK219 := Aside0.mk (blk_below (blk_x BK219.out) hb)
         replace BK220 := Aside0.mk (blk_below (blk_x BK220.out) hb)
         replace HB := bl_x HB hb
         clear hb ho51
         obtain ⟨Ao52, co52, eo52⟩ := Kd.R_slice HO257.out
         (first | subst eo52 | (injection eo52 with f1_ f2_ f3_; have f4_ := f1_.symm; have f5_ := f3_.symm; clear f1_ f2_ f3_; subst f4_; subst f5_))
         obtain ⟨Ao53, co53, eo53⟩ := Kd.R_slice HO266.out
         (first | subst eo53 | (injection eo53 with f1_ f2_ f3_; have f4_ := f1_.symm; have f5_ := f3_.symm; clear f1_ f2_ f3_; subst f4_; subst f5_))
         refine hK.out _ _ ⟨(blk_cell BK219.out 0).trans rfl, (blk_cell BK219.out 1).trans rfl, (blk_cell BK220.out 0).trans rfl, (blk_cell BK220.out 1).trans rfl⟩ (fun hHeld => ?_)
         clear hK K
         refine norm_ (a' := ?_) ?_ ?_; rotate_left; (show Act.put _ (some 60) _ = _; simp only [Act.put, put_x, i64_w, i32_w]; rfl)
         refine one_ (i := 31) (N := some 61) (bz 41 4294967295) rfl rfl (one_of HT_.out (by kernel_rfl)) (by decide) (fun K hK => ?_)
         refine goes_ Try.func26 (by kernel_rfl) rfl #[.slice Ao52 t255.length co52, .slice Ao53 y264.length co53] (by rfl) rfl rfl (by (try simp only [List.map_toArray, List.map_cons, List.map_nil]); first | done | rfl | (simp only [List.length_drop, List.length_take]; rfl)) ?_
         with_reducible refine (swarfkit_EqualInts.calls k _ _ t255 _ _ y264 true _ ?side1 ?side2 ?side3 ?side4 A16.out).mono ?_
         (case side1 => exact Kd.C_y (Kd.R_reads' HO257.out).2.2)
         (case side2 => exact (Kd.R_reads' HO257.out).2.1)
         (case side3 => exact Kd.C_y (Kd.R_reads' HO266.out).2.2)
         (case side4 => exact (Kd.R_reads' HO266.out).2.1)
         rintro e w' ⟨rfl, ⟨nd, rfl⟩⟩
         refine ⟨_, rfl, ?_⟩
         refine hK.out _ _ ⟨(blk_cell BK219.out 0).trans rfl, (blk_cell BK219.out 1).trans rfl, (blk_cell BK220.out 0).trans rfl, (blk_cell BK220.out 1).trans rfl⟩ (fun hHeld => ?_)
         clear hK K
         refine norm_ (a' := ?_) ?_ ?_; rotate_left; (show Act.put _ (some 61) _ = _; simp only [Act.put, put_x, i64_w, i32_w]; rfl)
         refine pure_t 32 (some 62) (bz 41 8589934591) HT_ ?_
         refine pure_t 33 (some 63) (bz 41 17179869183) HT_ ?_
         refine pure_t 34 (some 64) (bz 41 34359738367) HT_ ?_
         refine one_ (i := 35) (N := some 65) (bz 41 68719476735) rfl rfl (one_of HT_.out (by kernel_rfl)) (by decide) (fun K hK => ?_)
         refine goes_ Try.func32 (by kernel_rfl) rfl #[.int .i64 90, .int .i64 100] (by rfl) rfl rfl (by (try simp only [List.map_toArray, List.map_cons, List.map_nil]); first | done | rfl | (simp only [List.length_drop, List.length_take]; rfl)) ?_
         with_reducible refine (swarflaw07_rng.calls 90 100 t268 t269 _ A18.out).mono ?_
         rintro e w54 ⟨rfl, hb⟩
         refine ⟨_, rfl, ?_⟩
         replace HO203 := Aside0.mk (Kd.R_below (Kd.R_x HO203.out) hb)
         replace HO207 := Aside0.mk (Kd.N_below (Kd.N_x HO207.out) hb)
         replace HO210 := Aside0.mk (Kd.R_below (Kd.R_x HO210.out) hb)
         replace HO213 := Aside0.mk (Kd.R_below (Kd.R_x HO213.out) hb)
         replace HO226 := Aside0.mk (Kd.R_below (Kd.R_x HO226.out) hb)
         replace HO230 := Aside0.mk (Kd.N_below (Kd.N_x HO230.out) hb)
         replace HO233 := Aside0.mk (Kd.R_below (Kd.R_x HO233.out) hb)
         replace HO236 := Aside0.mk (Kd.R_below (Kd.R_x HO236.out) hb)
         replace HO240 := Aside0.mk (Kd.R_below (Kd.R_x HO240.out) hb)
         replace HO247 := Aside0.mk (Kd.R_below (Kd.R_x HO247.out) hb)
         replace HO251 := Aside0.mk (Kd.N_below (Kd.N_x HO251.out) hb)
         replace HO254 := Aside0.mk (Kd.R_below (Kd.R_x HO254.out) hb)
         replace HO257 := Aside0.mk (Kd.R_below (Kd.R_x HO257.out) hb)
         replace HO266 := Aside0.mk (Kd.R_below (Kd.R_x HO266.out) hb)
         replace BK219 := Aside0.mk (blk_below (blk_x BK219.out) hb)
         replace BK220 := Aside0.mk (blk_below (blk_x BK220.out) hb)
         replace HB := bl_x HB hb
         (try clear hb)
         (try clear hb2)
         (try clear hk)
         (try clear hi)
         refine hK.out _ _ ⟨(blk_cell BK219.out 0).trans rfl, (blk_cell BK219.out 1).trans rfl, (blk_cell BK220.out 0).trans rfl, (blk_cell BK220.out 1).trans rfl⟩ (fun hHeld => ?_)
         clear hK K
         refine norm_ (a' := ?_) ?_ ?_; rotate_left; (show Act.put _ (some 65) _ = _; simp only [Act.put, put_x, i64_w, i32_w]; rfl)
         refine one_ (i := 36) (N := some 66) (bz 41 137438953471) rfl rfl (one_of HT_.out (by kernel_rfl)) (by decide) (fun K hK => ?_)
         refine goes_ Try.func32 (by kernel_rfl) rfl #[.int .i64 240, .int .i64 250] (by rfl) rfl rfl (by (try simp only [List.map_toArray, List.map_cons, List.map_nil]); first | done | rfl | (simp only [List.length_drop, List.length_take]; rfl)) ?_
         with_reducible refine (swarflaw07_rng.calls 240 250 t270 t271 _ A19.out).mono ?_
         rintro e w55 ⟨rfl, hb⟩
         refine ⟨_, rfl, ?_⟩
         replace HO203 := Aside0.mk (Kd.R_below (Kd.R_x HO203.out) hb)
         replace HO207 := Aside0.mk (Kd.N_below (Kd.N_x HO207.out) hb)
         replace HO210 := Aside0.mk (Kd.R_below (Kd.R_x HO210.out) hb)
         replace HO213 := Aside0.mk (Kd.R_below (Kd.R_x HO213.out) hb)
         replace HO226 := Aside0.mk (Kd.R_below (Kd.R_x HO226.out) hb)
         replace HO230 := Aside0.mk (Kd.N_below (Kd.N_x HO230.out) hb)
         replace HO233 := Aside0.mk (Kd.R_below (Kd.R_x HO233.out) hb)
         replace HO236 := Aside0.mk (Kd.R_below (Kd.R_x HO236.out) hb)
         replace HO240 := Aside0.mk (Kd.R_below (Kd.R_x HO240.out) hb)
         replace HO247 := Aside0.mk (Kd.R_below (Kd.R_x HO247.out) hb)
         replace HO251 := Aside0.mk (Kd.N_below (Kd.N_x HO251.out) hb)
         replace HO254 := Aside0.mk (Kd.R_below (Kd.R_x HO254.out) hb)
         replace HO257 := Aside0.mk (Kd.R_below (Kd.R_x HO257.out) hb)
         replace HO266 := Aside0.mk (Kd.R_below (Kd.R_x HO266.out) hb)
         replace BK219 := Aside0.mk (blk_below (blk_x BK219.out) hb)
         replace BK220 := Aside0.mk (blk_below (blk_x BK220.out) hb)
         replace HB := bl_x HB hb
         (try clear hb)
         (try clear hb2)
         (try clear hk)
         (try clear hi)
         refine hK.out _ _ ⟨(blk_cell BK219.out 0).trans rfl, (blk_cell BK219.out 1).trans rfl, (blk_cell BK220.out 0).trans rfl, (blk_cell BK220.out 1).trans rfl⟩ (fun hHeld => ?_)
         clear hK K
         refine norm_ (a' := ?_) ?_ ?_; rotate_left; (show Act.put _ (some 66) _ = _; simp only [Act.put, put_x, i64_w, i32_w]; rfl)
         refine one_ (i := 37) (N := some 67) (bz 41 274877906943) rfl rfl (one_of HT_.out (by kernel_rfl)) (by decide) (fun K hK => ?_)
         refine Kd.R_lit_step k56 _ 56 ?hg (N := 67) ?hd (xs := ([(⟨t268, t269⟩ : S56), (⟨t270, t271⟩ : S56)] : List (S56))) (inner := [.int .i64 t268, .int .i64 t269, .int .i64 t270, .int .i64 t271]) (ok := fun _ => True) (okp := fun _ => True) ?hr ?hp (fun _ hk => hk) trivial (Below.refl _ _) (Nat.le_refl _) (by simp) ?_; (case hd => rfl); (case hg => rfl); (case hr => first | (go_simp; done) | (go_simp; rfl)); (case hp => exact (Reps.c2 (show Kd.M k56 _ _ _ (⟨t268, t269⟩ : S56) [.int .i64 t268, .int .i64 t269] from (k56_mkM _ _ _ (⟨t268, t269⟩ : S56) )) (Reps.c2 (show Kd.M k56 _ _ _ (⟨t270, t271⟩ : S56) [.int .i64 t270, .int .i64 t271] from (k56_mkM _ _ _ (⟨t270, t271⟩ : S56) )) (Reps.none _ _))))
         intro v273 w56 ho57 hb hg_ hnew_
         clear hg_ hnew_
         (first | rw [← Ny272.out] at ho57 | (simp only [Int.reduceToNat] at ho57; rw [← Ny272.out] at ho57))
         replace HO203 := Aside0.mk (Kd.R_below (Kd.R_x HO203.out) hb)
         replace HO207 := Aside0.mk (Kd.N_elder' (Kd.N_x HO207.out) (Kd.R_base ho57) hb)
         replace HO210 := Aside0.mk (Kd.R_below (Kd.R_x HO210.out) hb)
         replace HO213 := Aside0.mk (Kd.R_below (Kd.R_x HO213.out) hb)
         replace HO226 := Aside0.mk (Kd.R_below (Kd.R_x HO226.out) hb)
         replace HO230 := Aside0.mk (Kd.N_elder' (Kd.N_x HO230.out) (Kd.R_base ho57) hb)
         replace HO233 := Aside0.mk (Kd.R_below (Kd.R_x HO233.out) hb)
         replace HO236 := Aside0.mk (Kd.R_below (Kd.R_x HO236.out) hb)
         replace HO247 := Aside0.mk (Kd.R_below (Kd.R_x HO247.out) hb)
         replace HO251 := Aside0.mk (Kd.N_elder' (Kd.N_x HO251.out) (Kd.R_base ho57) hb)
         replace HO254 := Aside0.mk (Kd.R_below (Kd.R_x HO254.out) hb)
         replace HO257 := Aside0.mk (Kd.R_below (Kd.R_x HO257.out) hb)
         replace HO266 := Aside0.mk (Kd.R_below (Kd.R_x HO266.out) hb)
         have HO274 := Aside0.mk (Kd.R_lower (Kd.R_newB (Kd.R_newB (Kd.R_new' ho57 (Kd.R_lt (Kd.R_x HO240.out))) (g := gb219) (o := .cells #[.int .i64 t214, .int .i64 t215] 56 (0, 0)) (blk_x BK219.out)) (g := gb220) (o := .cells #[.int .i64 t216, .int .i64 t217] 56 (0, 0)) (blk_x BK220.out)) (below_size (by exact below_y HB.out)))
         replace HO240 := Aside0.mk (Kd.R_elder' (Kd.R_x HO240.out) (Kd.R_base ho57) hb)
         replace BK219 := Aside0.mk (blk_below (blk_x BK219.out) hb)
         replace BK220 := Aside0.mk (blk_below (blk_x BK220.out) hb)
         replace HB := bl_x HB hb
         clear hb ho57
         obtain ⟨Ao58, co58, eo58⟩ := Kd.R_slice HO240.out
         (first | subst eo58 | (injection eo58 with f1_ f2_ f3_; have f4_ := f1_.symm; have f5_ := f3_.symm; clear f1_ f2_ f3_; subst f4_; subst f5_))
         obtain ⟨Ao59, co59, eo59⟩ := Kd.R_slice HO274.out
         (first | subst eo59 | (injection eo59 with f1_ f2_ f3_; have f4_ := f1_.symm; have f5_ := f3_.symm; clear f1_ f2_ f3_; subst f4_; subst f5_))
         refine hK.out _ _ ⟨(blk_cell BK219.out 0).trans rfl, (blk_cell BK219.out 1).trans rfl, (blk_cell BK220.out 0).trans rfl, (blk_cell BK220.out 1).trans rfl⟩ (fun hHeld => ?_)
         clear hK K
         refine norm_ (a' := ?_) ?_ ?_; rotate_left; (show Act.put _ (some 67) _ = _; simp only [Act.put, put_x, i64_w, i32_w]; rfl)
         refine one_ (i := 38) (N := some 68) (bz 41 549755813887) rfl rfl (one_of HT_.out (by kernel_rfl)) (by decide) (fun K hK => ?_)
         refine goes_ Try.func24 (by kernel_rfl) rfl #[.slice Ao58 t238.length co58, .slice Ao59 y272.length co59] (by rfl) rfl rfl (by (try simp only [List.map_toArray, List.map_cons, List.map_nil]); first | done | rfl | (simp only [List.length_drop, List.length_take]; rfl)) ?_
         with_reducible refine (swarfkit_EqualRanges.calls k _ _ t238 _ _ y272 t275 _ ?side1 ?side2 ?side3 ?side4 A20.out).mono ?_
         (case side1 => exact Kd.C_y (Kd.R_reads' HO240.out).2.2)
         (case side2 => exact (Kd.R_reads' HO240.out).2.1)
         (case side3 => exact Kd.C_y (Kd.R_reads' HO274.out).2.2)
         (case side4 => exact (Kd.R_reads' HO274.out).2.1)
         rintro e w' ⟨rfl, ⟨nd, rfl⟩⟩
         refine ⟨_, rfl, ?_⟩
         refine hK.out _ _ ⟨(blk_cell BK219.out 0).trans rfl, (blk_cell BK219.out 1).trans rfl, (blk_cell BK220.out 0).trans rfl, (blk_cell BK220.out 1).trans rfl⟩ (fun hHeld => ?_)
         clear hK K
         refine norm_ (a' := ?_) ?_ ?_; rotate_left; (show Act.put _ (some 68) _ = _; simp only [Act.put, put_x, i64_w, i32_w]; rfl)
         refine pure_t 39 (some 69) (bz 41 1099511627775) HT_ ?_
         refine pure_t 40 (some 0) (bz 41 2199023255551) HT_ ?_
         refine done_ (done_of HT_.out (by kernel_rfl)) ?_
         try go_wp2
         go_ret
         exact ⟨by first | rfl | (simp [errW_none, errW_some] <;> rfl) | (simp [*, errW_none, errW_some] <;> rfl), by exact below_y HB.out⟩
        ·
         replace c17 := Bool.eq_false_iff.mpr c17
         subst c17
         have H1 : (some false) = some r := by rw [if_neg (show ¬ (false = true) by decide)] at H; exact H
         clear H
         have H := H1
         clear H1
         exact absurd ((Option.some.inj H).trans hrt.out) (by decide)
       ·
        rw [if_neg c15] at H
        have c15b0 : (t258 == 95) = false := beq_eq_false_iff_ne.mpr c15
        have c15b1 : (t258 != 95) = true := bne_iff_ne.mpr c15
        exact absurd ((Option.some.inj H).trans hrt.out) (by decide)
      ·
       rw [if_neg c14] at H
       have c14b0 : (t237 == 1) = false := beq_eq_false_iff_ne.mpr c14
       have c14b1 : (t237 != 1) = true := bne_iff_ne.mpr c14
       exact absurd ((Option.some.inj H).trans hrt.out) (by decide)
     ·
      rw [if_neg c13] at H
      have c13b0 : (t216 == t262 && (t217 == t263)) = false := by simpa using c13
      (try (have c13b1 : decide (t216 = t262 && (t217 == t263)) = false := by simpa using c13))
      (try (have c13b2 : (t216 == t262 && (t217 == t263)) = false := by simpa using c13))
      (try (have c13b3 : ¬ (t216 = t262 && (t217 == t263)) := by simpa using c13))
      clear c13
      exact absurd ((Option.some.inj H).trans hrt.out) (by decide)
    ·
     rw [if_neg c11] at H
     have c11b0 : (t214 == t260 && (t215 == t261)) = false := by simpa using c11
     (try (have c11b1 : decide (t214 = t260 && (t215 == t261)) = false := by simpa using c11))
     (try (have c11b2 : (t214 == t260 && (t215 == t261)) = false := by simpa using c11))
     (try (have c11b3 : ¬ (t214 = t260 && (t215 == t261)) := by simpa using c11))
     clear c11
     exact absurd ((Option.some.inj H).trans hrt.out) (by decide)
   ·
    rw [if_neg c9] at H
    have c9b0 : (t259 == 0) = false := beq_eq_false_iff_ne.mpr c9
    have c9b1 : (t259 != 0) = true := bne_iff_ne.mpr c9
    exact absurd ((Option.some.inj H).trans hrt.out) (by decide)
  ·
   rw [if_neg c8] at H
   have c8b0 : (t241 == 0) = false := beq_eq_false_iff_ne.mpr c8
   have c8b1 : (t241 != 0) = true := bne_iff_ne.mpr c8
   exact absurd ((Option.some.inj H).trans hrt.out) (by decide)
 ·
  rw [if_neg c7] at H
  have c7b0 : (t218 == 0) = false := beq_eq_false_iff_ne.mpr c7
  have c7b1 : (t218 != 0) = true := bne_iff_ne.mpr c7
  exact absurd ((Option.some.inj H).trans hrt.out) (by decide)
end Go.Proofs.Ytodmemndaaiolaa.PC7
