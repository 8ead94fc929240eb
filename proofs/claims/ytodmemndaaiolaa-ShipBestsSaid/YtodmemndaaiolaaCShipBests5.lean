/- Lemmas on the way to this: The stowage with the most worth, or the error, is said alike by the program and by the reference, for any voyage that is not too wide and has at most three lots if it is valid, and for one made of numbers; nothing is changed. -/
import Derived.Test.YtodmemndaaiolaaCShipBests1
import Derived.Test.YtodmemndaaiolaaCShipBests4
import Derived.Test.YtodmemndaaiolaaCShipBests3
import Derived.Test.YtodmemndaaiolaaCShipBests2
import Derived.Outline
import Derived.RegionTactic
import Derived.BigRegion
import Derived.ChangeAlike
import Derived.Deep.DeepCutAuto
import Derived.Deep.CutRange
import Derived.SizedLaws
import Derived.ChangeSlices
namespace Go.Proofs.Ytodmemndaaiolaa.PC7
open Go.RowKit Go.Proofs.YtodmemndaaiolaaW.PrintWords Go.Proofs.YtodmemndaaiolaaW.PrintLast Go.Proofs.YtodmemndaaiolaaW.PrintMore
attribute [local go_sem] max2_int min2_int max_two min_two max_three min_three max_four min_four
set_option linter.unusedVariables false
set_option linter.unusedSimpArgs false
def swarflaw07_voyage.f  : Option (Int × Int × Int × (List (S85)) × Int × (List (S59)) × (List (S79))) := (swarflaw07_rng.f 30 40).bind fun bt168 => ((swarflaw07_rng.f 1600 1650).bind fun bt170 => ((swarflaw07_rng.f 120 150).bind fun bt175 => ((swarflaw07_rng.f 1300 1350).bind fun bt177 => ((swarflaw07_rng.f 1600 1650).bind fun bt179 => ((swarflaw07_rng.f 1200 1250).bind fun bt181 => ((swarflaw07_rng.f 200 220).bind fun bt189 => ((swarflaw07_rng.f 180 200).bind fun bt191 => ((swarflaw07_rng.f 150 150).bind fun bt193 => (some (800, 200, 300, (([(⟨400, 2000, 500⟩ : S85), (⟨400, 500, 2000⟩ : S85)] : List (S85))), 60, (([(⟨(⟨bt168.1, bt168.2⟩ : S56), (([(⟨0, (⟨bt170.1, bt170.2⟩ : S56)⟩ : S62)] : List (S62)))⟩ : S59), (⟨(⟨bt175.1, bt175.2⟩ : S56), (([(⟨0, (⟨bt177.1, bt177.2⟩ : S56)⟩ : S62), (⟨240, (⟨bt179.1, bt179.2⟩ : S56)⟩ : S62), (⟨480, (⟨bt181.1, bt181.2⟩ : S56)⟩ : S62)] : List (S62)))⟩ : S59)] : List (S59))), (([(⟨(⟨bt189.1, bt189.2⟩ : S56), 50⟩ : S79), (⟨(⟨bt191.1, bt191.2⟩ : S56), 40⟩ : S79), (⟨(⟨bt193.1, bt193.2⟩ : S56), 45⟩ : S79)] : List (S79)))))))))))))
set_option maxHeartbeats 8000000 in
set_option maxRecDepth 100000 in
theorem swarflaw07_voyage.calls  (r1 : Int) (r2 : Int) (r3 : Int) (r4 : List (S85)) (r5 : Int) (r6 : List (S59)) (r7 : List (S79)) (w : World) (h : swarflaw07_voyage.f  = some (r1, r2, r3, r4, r5, r6, r7)) :
  Calls Try.prog 52 #[] w fun e w' => ∃ v3_ v5_ v6_ : Value, e = .returned (.agg #[.int .i64 r1, .int .i64 r2, .int .i64 r3, v3_, .int .i64 r5, v5_, v6_]) ∧ Kd.R k85 85 w' w.heap.size (fun k_ => (w.heap.size ≤ k_)) v3_ r4 ∧ Kd.N k59 59 w' w.heap.size (fun k_ => (w.heap.size ≤ k_) ∧ some k_ ≠ (v3_ : Value).ownBlock ∧ some k_ ≠ (v6_ : Value).ownBlock) v5_ r6 ∧ Kd.R k79 79 w' w.heap.size (fun k_ => (w.heap.size ≤ k_)) v6_ r7 ∧ Below w.heap.size w w' := by
 have hu26 := Try.underlying26
 have hu85 := Try.underlying85
 have hu62 := Try.underlying62
 have hu59 := Try.underlying59
 have hu79 := Try.underlying79
 have HB := Aside0.mk (Below.refl w.heap.size w)
 have H : ((swarflaw07_rng.f 30 40).bind fun bt168 => ((swarflaw07_rng.f 1600 1650).bind fun bt170 => ((swarflaw07_rng.f 120 150).bind fun bt175 => ((swarflaw07_rng.f 1300 1350).bind fun bt177 => ((swarflaw07_rng.f 1600 1650).bind fun bt179 => ((swarflaw07_rng.f 1200 1250).bind fun bt181 => ((swarflaw07_rng.f 200 220).bind fun bt189 => ((swarflaw07_rng.f 180 200).bind fun bt191 => ((swarflaw07_rng.f 150 150).bind fun bt193 => (some (800, 200, 300, (([(⟨400, 2000, 500⟩ : S85), (⟨400, 500, 2000⟩ : S85)] : List (S85))), 60, (([(⟨(⟨bt168.1, bt168.2⟩ : S56), (([(⟨0, (⟨bt170.1, bt170.2⟩ : S56)⟩ : S62)] : List (S62)))⟩ : S59), (⟨(⟨bt175.1, bt175.2⟩ : S56), (([(⟨0, (⟨bt177.1, bt177.2⟩ : S56)⟩ : S62), (⟨240, (⟨bt179.1, bt179.2⟩ : S56)⟩ : S62), (⟨480, (⟨bt181.1, bt181.2⟩ : S56)⟩ : S62)] : List (S62)))⟩ : S59)] : List (S59))), (([(⟨(⟨bt189.1, bt189.2⟩ : S56), 50⟩ : S79), (⟨(⟨bt191.1, bt191.2⟩ : S56), 40⟩ : S79), (⟨(⟨bt193.1, bt193.2⟩ : S56), 45⟩ : S79)] : List (S79)))))))))))))) = some (r1, r2, r3, r4, r5, r6, r7) := h
 clear h
 obtain ⟨y165, hy165⟩ : ∃ y_ : List (S85), y_ = (([(⟨400, 2000, 500⟩ : S85), (⟨400, 500, 2000⟩ : S85)] : List (S85))) := ⟨_, rfl⟩
 replace H : ((swarflaw07_rng.f 30 40).bind fun bt168 => ((swarflaw07_rng.f 1600 1650).bind fun bt170 => ((swarflaw07_rng.f 120 150).bind fun bt175 => ((swarflaw07_rng.f 1300 1350).bind fun bt177 => ((swarflaw07_rng.f 1600 1650).bind fun bt179 => ((swarflaw07_rng.f 1200 1250).bind fun bt181 => ((swarflaw07_rng.f 200 220).bind fun bt189 => ((swarflaw07_rng.f 180 200).bind fun bt191 => ((swarflaw07_rng.f 150 150).bind fun bt193 => (some (800, 200, 300, y165, 60, (([(⟨(⟨bt168.1, bt168.2⟩ : S56), (([(⟨0, (⟨bt170.1, bt170.2⟩ : S56)⟩ : S62)] : List (S62)))⟩ : S59), (⟨(⟨bt175.1, bt175.2⟩ : S56), (([(⟨0, (⟨bt177.1, bt177.2⟩ : S56)⟩ : S62), (⟨240, (⟨bt179.1, bt179.2⟩ : S56)⟩ : S62), (⟨480, (⟨bt181.1, bt181.2⟩ : S56)⟩ : S62)] : List (S62)))⟩ : S59)] : List (S59))), (([(⟨(⟨bt189.1, bt189.2⟩ : S56), 50⟩ : S79), (⟨(⟨bt191.1, bt191.2⟩ : S56), 40⟩ : S79), (⟨(⟨bt193.1, bt193.2⟩ : S56), 45⟩ : S79)] : List (S79)))))))))))))) = some (r1, r2, r3, r4, r5, r6, r7) := by first | (rw [hy165]; with_reducible exact H) | (have H2_ := (Option.bind_some _ _).symm.trans H; rw [hy165]; with_reducible exact H2_) | (have H2_ := (Option.bind_some _ _).symm.trans H; with_reducible exact H2_) | with_reducible exact H | (rw [hy165]; exact H) | exact H
 have Ny165 := Aside0.mk hy165
 clear hy165
 replace H := Option.bind_eq_some_iff.mp H
 obtain ⟨⟨t168, t169⟩, A10, H⟩ := H
 try dsimp only at H
 have A1 := Aside0.mk A10
 clear A10
 replace H := Option.bind_eq_some_iff.mp H
 obtain ⟨⟨t170, t171⟩, A20, H⟩ := H
 try dsimp only at H
 have A2 := Aside0.mk A20
 clear A20
 obtain ⟨y172, hy172⟩ : ∃ y_ : List (S62), y_ = (([(⟨0, (⟨t170, t171⟩ : S56)⟩ : S62)] : List (S62))) := ⟨_, rfl⟩
 replace H : ((swarflaw07_rng.f 120 150).bind fun bt175 => ((swarflaw07_rng.f 1300 1350).bind fun bt177 => ((swarflaw07_rng.f 1600 1650).bind fun bt179 => ((swarflaw07_rng.f 1200 1250).bind fun bt181 => ((swarflaw07_rng.f 200 220).bind fun bt189 => ((swarflaw07_rng.f 180 200).bind fun bt191 => ((swarflaw07_rng.f 150 150).bind fun bt193 => (some (800, 200, 300, y165, 60, (([(⟨(⟨t168, t169⟩ : S56), y172⟩ : S59), (⟨(⟨bt175.1, bt175.2⟩ : S56), (([(⟨0, (⟨bt177.1, bt177.2⟩ : S56)⟩ : S62), (⟨240, (⟨bt179.1, bt179.2⟩ : S56)⟩ : S62), (⟨480, (⟨bt181.1, bt181.2⟩ : S56)⟩ : S62)] : List (S62)))⟩ : S59)] : List (S59))), (([(⟨(⟨bt189.1, bt189.2⟩ : S56), 50⟩ : S79), (⟨(⟨bt191.1, bt191.2⟩ : S56), 40⟩ : S79), (⟨(⟨bt193.1, bt193.2⟩ : S56), 45⟩ : S79)] : List (S79)))))))))))) = some (r1, r2, r3, r4, r5, r6, r7) := by first | (rw [hy172]; with_reducible exact H) | (have H2_ := (Option.bind_some _ _).symm.trans H; rw [hy172]; with_reducible exact H2_) | (have H2_ := (Option.bind_some _ _).symm.trans H; with_reducible exact H2_) | with_reducible exact H | (rw [hy172]; exact H) | exact H
 have Ny172 := Aside0.mk hy172
 clear hy172
 replace H := Option.bind_eq_some_iff.mp H
 obtain ⟨⟨t175, t176⟩, A30, H⟩ := H
 try dsimp only at H
 have A3 := Aside0.mk A30
 clear A30
 replace H := Option.bind_eq_some_iff.mp H
 obtain ⟨⟨t177, t178⟩, A40, H⟩ := H
 try dsimp only at H
 have A4 := Aside0.mk A40
 clear A40
 replace H := Option.bind_eq_some_iff.mp H
 obtain ⟨⟨t179, t180⟩, A50, H⟩ := H
 try dsimp only at H
 have A5 := Aside0.mk A50
 clear A50
 replace H := Option.bind_eq_some_iff.mp H
 obtain ⟨⟨t181, t182⟩, A60, H⟩ := H
 try dsimp only at H
 have A6 := Aside0.mk A60
 clear A60
 obtain ⟨y183, hy183⟩ : ∃ y_ : List (S62), y_ = (([(⟨0, (⟨t177, t178⟩ : S56)⟩ : S62), (⟨240, (⟨t179, t180⟩ : S56)⟩ : S62), (⟨480, (⟨t181, t182⟩ : S56)⟩ : S62)] : List (S62))) := ⟨_, rfl⟩
 replace H : ((swarflaw07_rng.f 200 220).bind fun bt189 => ((swarflaw07_rng.f 180 200).bind fun bt191 => ((swarflaw07_rng.f 150 150).bind fun bt193 => (some (800, 200, 300, y165, 60, (([(⟨(⟨t168, t169⟩ : S56), y172⟩ : S59), (⟨(⟨t175, t176⟩ : S56), y183⟩ : S59)] : List (S59))), (([(⟨(⟨bt189.1, bt189.2⟩ : S56), 50⟩ : S79), (⟨(⟨bt191.1, bt191.2⟩ : S56), 40⟩ : S79), (⟨(⟨bt193.1, bt193.2⟩ : S56), 45⟩ : S79)] : List (S79)))))))) = some (r1, r2, r3, r4, r5, r6, r7) := by first | (rw [hy183]; with_reducible exact H) | (have H2_ := (Option.bind_some _ _).symm.trans H; rw [hy183]; with_reducible exact H2_) | (have H2_ := (Option.bind_some _ _).symm.trans H; with_reducible exact H2_) | with_reducible exact H | (rw [hy183]; exact H) | exact H
 have Ny183 := Aside0.mk hy183
 clear hy183
 obtain ⟨y186, hy186⟩ : ∃ y_ : List (S59), y_ = (([(⟨(⟨t168, t169⟩ : S56), y172⟩ : S59), (⟨(⟨t175, t176⟩ : S56), y183⟩ : S59)] : List (S59))) := ⟨_, rfl⟩
 replace H : ((swarflaw07_rng.f 200 220).bind fun bt189 => ((swarflaw07_rng.f 180 200).bind fun bt191 => ((swarflaw07_rng.f 150 150).bind fun bt193 => (some (800, 200, 300, y165, 60, y186, (([(⟨(⟨bt189.1, bt189.2⟩ : S56), 50⟩ : S79), (⟨(⟨bt191.1, bt191.2⟩ : S56), 40⟩ : S79), (⟨(⟨bt193.1, bt193.2⟩ : S56), 45⟩ : S79)] : List (S79)))))))) = some (r1, r2, r3, r4, r5, r6, r7) := by first | (rw [hy186]; with_reducible exact H) | (have H2_ := (Option.bind_some _ _).symm.trans H; rw [hy186]; with_reducible exact H2_) | (have H2_ := (Option.bind_some _ _).symm.trans H; with_reducible exact H2_) | with_reducible exact H | (rw [hy186]; exact H) | exact H
 have Ny186 := Aside0.mk hy186
 clear hy186
 replace H := Option.bind_eq_some_iff.mp H
 obtain ⟨⟨t189, t190⟩, A70, H⟩ := H
 try dsimp only at H
 have A7 := Aside0.mk A70
 clear A70
 replace H := Option.bind_eq_some_iff.mp H
 obtain ⟨⟨t191, t192⟩, A80, H⟩ := H
 try dsimp only at H
 have A8 := Aside0.mk A80
 clear A80
 replace H := Option.bind_eq_some_iff.mp H
 obtain ⟨⟨t193, t194⟩, A90, H⟩ := H
 try dsimp only at H
 have A9 := Aside0.mk A90
 clear A90
 obtain ⟨y195, hy195⟩ : ∃ y_ : List (S79), y_ = (([(⟨(⟨t189, t190⟩ : S56), 50⟩ : S79), (⟨(⟨t191, t192⟩ : S56), 40⟩ : S79), (⟨(⟨t193, t194⟩ : S56), 45⟩ : S79)] : List (S79))) := ⟨_, rfl⟩
 replace H : (some (800, 200, 300, y165, 60, y186, y195)) = some (r1, r2, r3, r4, r5, r6, r7) := by first | (rw [hy195]; with_reducible exact H) | (have H2_ := (Option.bind_some _ _).symm.trans H; rw [hy195]; with_reducible exact H2_) | (have H2_ := (Option.bind_some _ _).symm.trans H; with_reducible exact H2_) | with_reducible exact H | (rw [hy195]; exact H) | exact H
 have Ny195 := Aside0.mk hy195
 clear hy195
 simp only [Option.some.injEq, Prod.mk.injEq] at H
 obtain ⟨rfl, rfl, rfl, rfl, rfl, rfl, rfl⟩ := H
 go_enter Try.func52, Try.ntmps52
 go_wp2_with (first | (refine box_r (N := 0) rfl (cs := #[.int .i64 0, .int .i64 0, .int .i64 0, .slice none 0 0, .int .i64 0, .slice none 0 0, .slice none 0 0]) (t := 26) ?_; intro gb164 hg w10 hbox hb; have BK164 := Aside0.mk (hbox); have GW164 := gw_x hg HB; have GE164 := GW164; replace HB := Aside0.mk (below_step (below_x HB.out) hb); clear hb hbox hg) | ((with_reducible refine gate_dst (N := 3) rfl ?_); refine Kd.R_lit k85 _ 85 ?hg (N := 3) ?hd (xs := ([(⟨400, 2000, 500⟩ : S85), (⟨400, 500, 2000⟩ : S85)] : List (S85))) (inner := [.int .i64 400, .int .i64 2000, .int .i64 500, .int .i64 400, .int .i64 500, .int .i64 2000]) (ok := fun _ => True) (okp := fun _ => True) ?hr ?hp (fun _ hk => hk) trivial (Below.refl _ _) (Nat.le_refl _) (by simp) ?_; (case hd => rfl); (case hg => rfl); (case hr => first | (go_simp; done) | (go_simp; rfl)); (case hp => exact (Reps.c3 (show Kd.M k85 _ _ _ (⟨400, 2000, 500⟩ : S85) [.int .i64 400, .int .i64 2000, .int .i64 500] from (k85_mkM _ _ _ (⟨400, 2000, 500⟩ : S85) )) (Reps.c3 (show Kd.M k85 _ _ _ (⟨400, 500, 2000⟩ : S85) [.int .i64 400, .int .i64 500, .int .i64 2000] from (k85_mkM _ _ _ (⟨400, 500, 2000⟩ : S85) )) (Reps.none _ _)))); intro v166 w11 ho12 hb hg_ hnew_; clear hg_ hnew_; (first | rw [← Ny165.out] at ho12 | (simp only [Int.reduceToNat] at ho12; rw [← Ny165.out] at ho12)); have HO167 := Aside0.mk (Kd.R_lower (Kd.R_newM (M := fun k_ => (w.heap.size ≤ k_)) ho12 (below_size (by exact below_y HB.out)) (fun k_ h_ => h_)) (below_size (by exact below_y HB.out))); replace BK164 := bk_x BK164 hb; replace HB := bl_x HB hb; clear hb ho12) | (refine goesG_x 32 rfl (some 4) Try.func32 #[.int .i64 30, .int .i64 40] ?_; (with_reducible refine (swarflaw07_rng.calls 30 40 t168 t169 _ A1.out).mono ?_); rintro e w13 ⟨rfl, hb⟩; refine ⟨_, rfl, ?_⟩; replace HO167 := Aside0.mk (Kd.R_below (Kd.R_x HO167.out) hb); replace BK164 := bk_x BK164 hb; replace HB := bl_x HB hb; (try clear hb); (try clear hk); (try clear hi)) | (refine goesG_x 32 rfl (some 5) Try.func32 #[.int .i64 1600, .int .i64 1650] ?_; (with_reducible refine (swarflaw07_rng.calls 1600 1650 t170 t171 _ A2.out).mono ?_); rintro e w14 ⟨rfl, hb⟩; refine ⟨_, rfl, ?_⟩; replace HO167 := Aside0.mk (Kd.R_below (Kd.R_x HO167.out) hb); replace BK164 := bk_x BK164 hb; replace HB := bl_x HB hb; (try clear hb); (try clear hk); (try clear hi)) | ((with_reducible refine gate_dst (N := 7) rfl ?_); refine Kd.R_lit k62 _ 62 ?hg (N := 7) ?hd (xs := ([(⟨0, (⟨t170, t171⟩ : S56)⟩ : S62)] : List (S62))) (inner := [.int .i64 0, .int .i64 t170, .int .i64 t171]) (ok := fun _ => True) (okp := fun _ => True) ?hr ?hp (fun _ hk => hk) trivial (Below.refl _ _) (Nat.le_refl _) (by simp) ?_; (case hd => rfl); (case hg => rfl); (case hr => first | (go_simp; done) | (go_simp; rfl)); (case hp => exact (Reps.c3 (show Kd.M k62 _ _ _ (⟨0, (⟨t170, t171⟩ : S56)⟩ : S62) [.int .i64 0, .int .i64 t170, .int .i64 t171] from (k62_mkM _ _ _ (⟨0, (⟨t170, t171⟩ : S56)⟩ : S62) )) (Reps.none _ _))); intro v173 w15 ho16 hb hg_ hnew_; clear hg_ hnew_; (first | rw [← Ny172.out] at ho16 | (simp only [Int.reduceToNat] at ho16; rw [← Ny172.out] at ho16)); replace HO167 := Aside0.mk (Kd.R_below (Kd.R_x HO167.out) hb); have HO174 := Aside0.mk (Kd.R_lower (Kd.R_newM (M := fun k_ => (w.heap.size ≤ k_)) ho16 (below_size (by exact below_y HB.out)) (fun k_ h_ => h_)) (below_size (by exact below_y HB.out))); replace BK164 := bk_x BK164 hb; replace HB := bl_x HB hb; clear hb ho16; obtain ⟨Ao17, co17, eo17⟩ := Kd.R_slice HO174.out; subst eo17) | (refine goesG_x 32 rfl (some 9) Try.func32 #[.int .i64 120, .int .i64 150] ?_; (with_reducible refine (swarflaw07_rng.calls 120 150 t175 t176 _ A3.out).mono ?_); rintro e w18 ⟨rfl, hb⟩; refine ⟨_, rfl, ?_⟩; replace HO167 := Aside0.mk (Kd.R_below (Kd.R_x HO167.out) hb); replace HO174 := Aside0.mk (Kd.R_below (Kd.R_x HO174.out) hb); replace BK164 := bk_x BK164 hb; replace HB := bl_x HB hb; (try clear hb); (try clear hk); (try clear hi)) | (refine goesG_x 32 rfl (some 10) Try.func32 #[.int .i64 1300, .int .i64 1350] ?_; (with_reducible refine (swarflaw07_rng.calls 1300 1350 t177 t178 _ A4.out).mono ?_); rintro e w19 ⟨rfl, hb⟩; refine ⟨_, rfl, ?_⟩; replace HO167 := Aside0.mk (Kd.R_below (Kd.R_x HO167.out) hb); replace HO174 := Aside0.mk (Kd.R_below (Kd.R_x HO174.out) hb); replace BK164 := bk_x BK164 hb; replace HB := bl_x HB hb; (try clear hb); (try clear hk); (try clear hi)) | (refine goesG_x 32 rfl (some 12) Try.func32 #[.int .i64 1600, .int .i64 1650] ?_; (with_reducible refine (swarflaw07_rng.calls 1600 1650 t179 t180 _ A5.out).mono ?_); rintro e w20 ⟨rfl, hb⟩; refine ⟨_, rfl, ?_⟩; replace HO167 := Aside0.mk (Kd.R_below (Kd.R_x HO167.out) hb); replace HO174 := Aside0.mk (Kd.R_below (Kd.R_x HO174.out) hb); replace BK164 := bk_x BK164 hb; replace HB := bl_x HB hb; (try clear hb); (try clear hk); (try clear hi)) | (refine goesG_x 32 rfl (some 14) Try.func32 #[.int .i64 1200, .int .i64 1250] ?_; (with_reducible refine (swarflaw07_rng.calls 1200 1250 t181 t182 _ A6.out).mono ?_); rintro e w21 ⟨rfl, hb⟩; refine ⟨_, rfl, ?_⟩; replace HO167 := Aside0.mk (Kd.R_below (Kd.R_x HO167.out) hb); replace HO174 := Aside0.mk (Kd.R_below (Kd.R_x HO174.out) hb); replace BK164 := bk_x BK164 hb; replace HB := bl_x HB hb; (try clear hb); (try clear hk); (try clear hi)) | ((with_reducible refine gate_dst (N := 16) rfl ?_); refine Kd.R_lit k62 _ 62 ?hg (N := 16) ?hd (xs := ([(⟨0, (⟨t177, t178⟩ : S56)⟩ : S62), (⟨240, (⟨t179, t180⟩ : S56)⟩ : S62), (⟨480, (⟨t181, t182⟩ : S56)⟩ : S62)] : List (S62))) (inner := [.int .i64 0, .int .i64 t177, .int .i64 t178, .int .i64 240, .int .i64 t179, .int .i64 t180, .int .i64 480, .int .i64 t181, .int .i64 t182]) (ok := fun _ => True) (okp := fun _ => True) ?hr ?hp (fun _ hk => hk) trivial (Below.refl _ _) (Nat.le_refl _) (by simp) ?_; (case hd => rfl); (case hg => rfl); (case hr => first | (go_simp; done) | (go_simp; rfl)); (case hp => exact (Reps.c3 (show Kd.M k62 _ _ _ (⟨0, (⟨t177, t178⟩ : S56)⟩ : S62) [.int .i64 0, .int .i64 t177, .int .i64 t178] from (k62_mkM _ _ _ (⟨0, (⟨t177, t178⟩ : S56)⟩ : S62) )) (Reps.c3 (show Kd.M k62 _ _ _ (⟨240, (⟨t179, t180⟩ : S56)⟩ : S62) [.int .i64 240, .int .i64 t179, .int .i64 t180] from (k62_mkM _ _ _ (⟨240, (⟨t179, t180⟩ : S56)⟩ : S62) )) (Reps.c3 (show Kd.M k62 _ _ _ (⟨480, (⟨t181, t182⟩ : S56)⟩ : S62) [.int .i64 480, .int .i64 t181, .int .i64 t182] from (k62_mkM _ _ _ (⟨480, (⟨t181, t182⟩ : S56)⟩ : S62) )) (Reps.none _ _))))); intro v184 w22 ho23 hb hg_ hnew_; clear hg_ hnew_; (first | rw [← Ny183.out] at ho23 | (simp only [Int.reduceToNat] at ho23; rw [← Ny183.out] at ho23)); replace HO167 := Aside0.mk (Kd.R_below (Kd.R_x HO167.out) hb); have HO185 := Aside0.mk (Kd.R_lower (Kd.R_new' (Kd.R_newM (M := fun k_ => (w.heap.size ≤ k_)) ho23 (below_size (by exact below_y HB.out)) (fun k_ h_ => h_)) (Kd.R_lt (Kd.R_x HO174.out))) (below_size (by exact below_y HB.out))); replace HO174 := Aside0.mk (Kd.R_elder' (Kd.R_x HO174.out) (Kd.R_base ho23) hb); replace BK164 := bk_x BK164 hb; replace HB := bl_x HB hb; clear hb ho23; obtain ⟨Ao24, co24, eo24⟩ := Kd.R_slice HO185.out; subst eo24) | ((with_reducible refine gate_dst (N := 18) rfl ?_); refine Kd.N_lit k59 _ 59 ?hg (N' := 18) ?hd (xs := ([(⟨(⟨t168, t169⟩ : S56), y172⟩ : S59), (⟨(⟨t175, t176⟩ : S56), y183⟩ : S59)] : List (S59))) (inner := [.int .i64 t168, .int .i64 t169, .slice Ao17 y172.length co17, .int .i64 t175, .int .i64 t176, .slice Ao24 y183.length co24]) (ok := (fun k_ => (w.heap.size ≤ k_) ∧ some k_ ≠ (v166 : Value).ownBlock ∧ k_ ≠ gb164)) (okp := (fun k_ => (w.heap.size ≤ k_) ∧ some k_ ≠ (v166 : Value).ownBlock ∧ k_ ≠ gb164)) ?hr ?hp (fun _ hk => hk) ((show ∀ k_, w22.heap.size ≤ k_ → (fun k_ => (w.heap.size ≤ k_) ∧ some k_ ≠ (v166 : Value).ownBlock ∧ k_ ≠ gb164) k_ from fun k_ hk => ⟨(Nat.le_trans (below_size (by exact below_y HB.out)) hk), Kd.fresh' (Kd.R_lt (Kd.R_x HO167.out)) k_ hk, Kd.freshB (g := gb164) (o := .cells #[.int .i64 0, .int .i64 0, .int .i64 0, .slice none 0 0, .int .i64 0, .slice none 0 0, .slice none 0 0] 26 (0, 0)) (blk_x BK164.out) k_ hk⟩) _ (Nat.le_refl _)) (Below.refl _ _) (Nat.le_refl _) (by simp) ?_; (case hd => rfl); (case hg => rfl); (case hr => first | (go_simp; done) | (go_simp; rfl)); (case hp => exact (Reps.c3 (show Kd.FK k59 _ _ (⟨(⟨t168, t169⟩ : S56), y172⟩ : S59) [.int .i64 t168, .int .i64 t169, .slice Ao17 y172.length co17] from (k59_mkF _ _ (⟨(⟨t168, t169⟩ : S56), y172⟩ : S59) (Kd.R_reads' (Kd.R_mono (ok' := (fun k_ => (w.heap.size ≤ k_) ∧ some k_ ≠ (v166 : Value).ownBlock ∧ k_ ≠ gb164)) (Kd.R_types (Kd.R_apart' (HO174.out) (Kd.R_typed HO167.out) (by decide)) BK164.out (by decide)) (fun k_ hk => ⟨hk.1.1.1.1, ⟨hk.1.2, hk.2⟩⟩))).2.1 (Kd.R_F (Kd.R_mono (ok' := (fun k_ => (w.heap.size ≤ k_) ∧ some k_ ≠ (v166 : Value).ownBlock ∧ k_ ≠ gb164)) (Kd.R_types (Kd.R_apart' (HO174.out) (Kd.R_typed HO167.out) (by decide)) BK164.out (by decide)) (fun k_ hk => ⟨hk.1.1.1.1, ⟨hk.1.2, hk.2⟩⟩))))) (Reps.c3 (show Kd.FK k59 _ _ (⟨(⟨t175, t176⟩ : S56), y183⟩ : S59) [.int .i64 t175, .int .i64 t176, .slice Ao24 y183.length co24] from (k59_mkF _ _ (⟨(⟨t175, t176⟩ : S56), y183⟩ : S59) (Kd.R_reads' (Kd.R_mono (ok' := (fun k_ => (w.heap.size ≤ k_) ∧ some k_ ≠ (v166 : Value).ownBlock ∧ k_ ≠ gb164)) (Kd.R_types (Kd.R_apart' (HO185.out) (Kd.R_typed HO167.out) (by decide)) BK164.out (by decide)) (fun k_ hk => ⟨hk.1.1.1.1, ⟨hk.1.2, hk.2⟩⟩))).2.1 (Kd.R_F (Kd.R_mono (ok' := (fun k_ => (w.heap.size ≤ k_) ∧ some k_ ≠ (v166 : Value).ownBlock ∧ k_ ≠ gb164)) (Kd.R_types (Kd.R_apart' (HO185.out) (Kd.R_typed HO167.out) (by decide)) BK164.out (by decide)) (fun k_ hk => ⟨hk.1.1.1.1, ⟨hk.1.2, hk.2⟩⟩))))) (Reps.none _ _)))); intro v187 w25 ho26 hb hg_ hnew_; clear hg_ hnew_; (first | rw [← Ny186.out] at ho26 | (simp only [Int.reduceToNat] at ho26; rw [← Ny186.out] at ho26)); replace HO167 := Aside0.mk (Kd.R_below (Kd.R_x HO167.out) hb); have HO188 := Aside0.mk (Kd.N_lower ho26 (below_size (by exact below_y HB.out))); replace BK164 := bk_x BK164 hb; replace HB := bl_x HB hb; clear HO174 HO185; clear hb ho26) | (refine goesG_x 32 rfl (some 19) Try.func32 #[.int .i64 200, .int .i64 220] ?_; (with_reducible refine (swarflaw07_rng.calls 200 220 t189 t190 _ A7.out).mono ?_); rintro e w27 ⟨rfl, hb⟩; refine ⟨_, rfl, ?_⟩; replace HO167 := Aside0.mk (Kd.R_below (Kd.R_x HO167.out) hb); replace HO188 := Aside0.mk (Kd.N_below (Kd.N_x HO188.out) hb); replace BK164 := bk_x BK164 hb; replace HB := bl_x HB hb; (try clear hb); (try clear hk); (try clear hi)) | (refine goesG_x 32 rfl (some 21) Try.func32 #[.int .i64 180, .int .i64 200] ?_; (with_reducible refine (swarflaw07_rng.calls 180 200 t191 t192 _ A8.out).mono ?_); rintro e w28 ⟨rfl, hb⟩; refine ⟨_, rfl, ?_⟩; replace HO167 := Aside0.mk (Kd.R_below (Kd.R_x HO167.out) hb); replace HO188 := Aside0.mk (Kd.N_below (Kd.N_x HO188.out) hb); replace BK164 := bk_x BK164 hb; replace HB := bl_x HB hb; (try clear hb); (try clear hk); (try clear hi)) | (refine goesG_x 32 rfl (some 23) Try.func32 #[.int .i64 150, .int .i64 150] ?_; (with_reducible refine (swarflaw07_rng.calls 150 150 t193 t194 _ A9.out).mono ?_); rintro e w29 ⟨rfl, hb⟩; refine ⟨_, rfl, ?_⟩; replace HO167 := Aside0.mk (Kd.R_below (Kd.R_x HO167.out) hb); replace HO188 := Aside0.mk (Kd.N_below (Kd.N_x HO188.out) hb); replace BK164 := bk_x BK164 hb; replace HB := bl_x HB hb; (try clear hb); (try clear hk); (try clear hi)) | ((with_reducible refine gate_dst (N := 25) rfl ?_); refine Kd.R_lit k79 _ 79 ?hg (N := 25) ?hd (xs := ([(⟨(⟨t189, t190⟩ : S56), 50⟩ : S79), (⟨(⟨t191, t192⟩ : S56), 40⟩ : S79), (⟨(⟨t193, t194⟩ : S56), 45⟩ : S79)] : List (S79))) (inner := [.int .i64 t189, .int .i64 t190, .int .i64 50, .int .i64 t191, .int .i64 t192, .int .i64 40, .int .i64 t193, .int .i64 t194, .int .i64 45]) (ok := fun _ => True) (okp := fun _ => True) ?hr ?hp (fun _ hk => hk) trivial (Below.refl _ _) (Nat.le_refl _) (by simp) ?_; (case hd => rfl); (case hg => rfl); (case hr => first | (go_simp; done) | (go_simp; rfl)); (case hp => exact (Reps.c3 (show Kd.M k79 _ _ _ (⟨(⟨t189, t190⟩ : S56), 50⟩ : S79) [.int .i64 t189, .int .i64 t190, .int .i64 50] from (k79_mkM _ _ _ (⟨(⟨t189, t190⟩ : S56), 50⟩ : S79) )) (Reps.c3 (show Kd.M k79 _ _ _ (⟨(⟨t191, t192⟩ : S56), 40⟩ : S79) [.int .i64 t191, .int .i64 t192, .int .i64 40] from (k79_mkM _ _ _ (⟨(⟨t191, t192⟩ : S56), 40⟩ : S79) )) (Reps.c3 (show Kd.M k79 _ _ _ (⟨(⟨t193, t194⟩ : S56), 45⟩ : S79) [.int .i64 t193, .int .i64 t194, .int .i64 45] from (k79_mkM _ _ _ (⟨(⟨t193, t194⟩ : S56), 45⟩ : S79) )) (Reps.none _ _))))); intro v196 w30 ho31 hb hg_ hnew_; clear hg_ hnew_; (first | rw [← Ny195.out] at ho31 | (simp only [Int.reduceToNat] at ho31; rw [← Ny195.out] at ho31)); replace HO167 := Aside0.mk (Kd.R_below (Kd.R_x HO167.out) hb); replace HO188 := Aside0.mk (Kd.N_elder' (Kd.N_x HO188.out) (Kd.R_base ho31) hb); have HO197 := Aside0.mk (Kd.R_lower (Kd.R_newM (M := fun k_ => (w.heap.size ≤ k_)) ho31 (below_size (by exact below_y HB.out)) (fun k_ h_ => h_)) (below_size (by exact below_y HB.out))); replace BK164 := bk_x BK164 hb; replace HB := bl_x HB hb; clear hb ho31; obtain ⟨Ao32, co32, eo32⟩ := Kd.R_slice HO197.out; subst eo32; obtain ⟨Ao33, co33, eo33⟩ := Kd.N_slice HO188.out; subst eo33; obtain ⟨Ao34, co34, eo34⟩ := Kd.R_slice HO167.out; subst eo34; obtain ⟨hfz35_0, _, _, _, _, _, _, _⟩ := cf7 BK164))
 refine bodyPost_ret (results_cell_row rfl _ _ gb164 26 #[.int .i64 800, .int .i64 200, .int .i64 300, .slice Ao34 y165.length co34, .int .i64 60, .slice Ao33 y186.length co33, .slice Ao32 y195.length co32] (0, 0) _ rfl (blk_z BK164.out) Try.underlying26 rfl (by kernel_rfl)) rfl ?_
 exact ⟨_, _, _, by first | rfl | (simp [errW_none, errW_some] <;> rfl) | (simp [*, errW_none, errW_some] <;> rfl), by (with_reducible repeat (first | apply Kd.R_alloc | apply Kd.R_drewN | apply Kd.R_drew)); exact Kd.R_mono (Kd.R_far (p := ⟨gb164, 6, none⟩) (Kd.R_far (p := ⟨gb164, 5, none⟩) (Kd.R_far (p := ⟨gb164, 4, none⟩) (Kd.R_far (p := ⟨gb164, 3, none⟩) (Kd.R_far (p := ⟨gb164, 2, none⟩) (Kd.R_far (p := ⟨gb164, 1, none⟩) (Kd.R_far (p := ⟨gb164, 0, none⟩) (Kd.R_types HO167.out BK164.out (by decide)) (fun _ hk => hk.2) (.int .i64 800)) (fun _ hk => hk.2) (.int .i64 200)) (fun _ hk => hk.2) (.int .i64 300)) (fun _ hk => hk.2) (.slice Ao34 y165.length co34)) (fun _ hk => hk.2) (.int .i64 60)) (fun _ hk => hk.2) (.slice Ao33 y186.length co33)) (fun _ hk => hk.2) (.slice Ao32 y195.length co32)) (fun _ hk => hk.1.1), by (with_reducible repeat (first | apply Kd.N_alloc | apply Kd.N_drewN | apply Kd.N_drew)); exact Kd.N_mono (Kd.N_far (p := ⟨gb164, 6, none⟩) (Kd.N_far (p := ⟨gb164, 5, none⟩) (Kd.N_far (p := ⟨gb164, 4, none⟩) (Kd.N_far (p := ⟨gb164, 3, none⟩) (Kd.N_far (p := ⟨gb164, 2, none⟩) (Kd.N_far (p := ⟨gb164, 1, none⟩) (Kd.N_far (p := ⟨gb164, 0, none⟩) (Kd.N_mono HO188.out (fun k_ hk => (⟨hk, hk.1.2.2⟩ : _ ∧ k_ ≠ gb164))) (fun _ hk => hk.2) (.int .i64 800)) (fun _ hk => hk.2) (.int .i64 200)) (fun _ hk => hk.2) (.int .i64 300)) (fun _ hk => hk.2) (.slice Ao34 y165.length co34)) (fun _ hk => hk.2) (.int .i64 60)) (fun _ hk => hk.2) (.slice Ao33 y186.length co33)) (fun _ hk => hk.2) (.slice Ao32 y195.length co32)) (fun _ hk => ⟨hk.1.1.1, ⟨hk.1.1.2.1, hk.1.2⟩⟩), by (with_reducible repeat (first | apply Kd.R_alloc | apply Kd.R_drewN | apply Kd.R_drew)); exact Kd.R_mono (Kd.R_far (p := ⟨gb164, 6, none⟩) (Kd.R_far (p := ⟨gb164, 5, none⟩) (Kd.R_far (p := ⟨gb164, 4, none⟩) (Kd.R_far (p := ⟨gb164, 3, none⟩) (Kd.R_far (p := ⟨gb164, 2, none⟩) (Kd.R_far (p := ⟨gb164, 1, none⟩) (Kd.R_far (p := ⟨gb164, 0, none⟩) (Kd.R_types HO197.out BK164.out (by decide)) (fun _ hk => hk.2) (.int .i64 800)) (fun _ hk => hk.2) (.int .i64 200)) (fun _ hk => hk.2) (.int .i64 300)) (fun _ hk => hk.2) (.slice Ao34 y165.length co34)) (fun _ hk => hk.2) (.int .i64 60)) (fun _ hk => hk.2) (.slice Ao33 y186.length co33)) (fun _ hk => hk.2) (.slice Ao32 y195.length co32)) (fun _ hk => hk.1.1), by exact below_y HB.out⟩
end Go.Proofs.Ytodmemndaaiolaa.PC7
namespace Go.Proofs.Ytodmemndaaiolaa.PC7
set_option linter.unusedVariables false
set_option linter.unusedSimpArgs false
open Go.RowKit Go.Proofs.YtodmemndaaiolaaW.PrintWords Go.Proofs.YtodmemndaaiolaaW.PrintLast Go.Proofs.YtodmemndaaiolaaW.PrintMore
theorem ev_of_mono {α : Type} {g : Nat → Option α} {r : α} (hm : ∀ k, LeO (g k) (g (k + 1))) {K : Nat} (h : g K = some r) : Ev g r := by
  refine ⟨K, fun k hk => ?_⟩
  induction hk with
  | refl => exact h
  | step hk ih => exact hm _ _ ih
def vHolds : List S85 := [⟨400, 2000, 500⟩, ⟨400, 500, 2000⟩]
def vSills : List S59 := [⟨⟨30, 40⟩, [⟨0, ⟨1600, 1650⟩⟩]⟩, ⟨⟨120, 150⟩, [⟨0, ⟨1300, 1350⟩⟩, ⟨240, ⟨1600, 1650⟩⟩, ⟨480, ⟨1200, 1250⟩⟩]⟩]
def vLots : List S79 := [⟨⟨200, 220⟩, 50⟩, ⟨⟨180, 200⟩, 40⟩, ⟨⟨150, 150⟩, 45⟩]
theorem voyage_f : swarflaw07_voyage.f = some (800, 200, 300, vHolds, 60, vSills, vLots) := rfl
theorem v_check : chkE 800 200 300 vHolds 60 vSills vLots = some 0 := limO_of (ev_of_mono (fun k => ship_Check.mono _ _ _ _ _ _ _ k) (K := 60) (by kernel_rfl))
theorem v_stow : stowE 800 200 300 vHolds 60 vSills vLots [0, 1, -1] = some 0 := limO_of (ev_of_mono (fun k => ship_CheckStowage.mono _ _ _ _ _ _ _ _ k) (K := 60) (by kernel_rfl))
theorem v_drafts : ship_Drafts.f 800 200 300 vHolds 60 vSills vLots [0, 1, -1] = some (1290000, 1340000, 1260000, 1310000, 0) := by
  unfold ship_Drafts.f
  rw [v_stow]
  kernel_rfl
theorem v_sail : ship_Sail.f 800 200 300 vHolds 60 vSills vLots [0, 1, -1] = some (1, [⟨90, 100⟩, ⟨240, 250⟩], 0) := by
  unfold ship_Sail.f
  rw [v_stow]
  kernel_rfl
section
variable (K : Nat) (light under trim : Int) (holds : List S85) (leaves : Int) (sills : List S59) (lots : List S79)
def goodK (s : List Int) : Option Bool :=
  (ship_checkStowage.f K light under trim holds leaves sills lots s).bind fun e => if e = 0 then (ship_apart.f K light under trim holds leaves sills lots s).bind fun x => (ship_level.f K light under trim holds leaves sills lots x.1 x.2).bind fun b =>
    if b = true then (ladenO light holds lots s).bind fun q => some (!decide ((sailO under leaves sills q false).length < sills.length)) else some false else some false
end
theorem goodK_good {K : Nat} {light under trim : Int} {holds : List S85} {leaves : Int} {sills : List S59} {lots : List S79} {s : List Int} {b : Bool} (h : goodK K light under trim holds leaves sills lots s = some b) : goodO light under trim holds leaves sills lots s = some b := by
  unfold goodK at h
  obtain ⟨e, he, h⟩ := Option.bind_eq_some_iff.1 h
  unfold goodO
  refine Option.bind_eq_some_iff.2 ⟨e, limO_of (ev_of_mono (fun k => ship_checkStowage.mono _ _ _ _ _ _ _ _ k) he), ?_⟩
  by_cases h0 : e = 0
  · rw [if_pos h0] at h ⊢
    obtain ⟨x, hx, h⟩ := Option.bind_eq_some_iff.1 h
    refine Option.bind_eq_some_iff.2 ⟨x, limO_of (ev_of_mono (fun k => ship_apart.mono _ _ _ _ _ _ _ _ k) hx), ?_⟩
    obtain ⟨c, hc, h⟩ := Option.bind_eq_some_iff.1 h
    exact Option.bind_eq_some_iff.2 ⟨c, limO_of (ev_of_mono (fun k => ship_level.mono _ _ _ _ _ _ _ _ _ k) hc), h⟩
  · rw [if_neg h0] at h ⊢
    exact h
theorem bestOf_congr {g1 g2 : List Int → Bool} (w : List Int → Int) : ∀ (L : List (List Int)) (b : List Int × Int), (∀ t, t ∈ L → g1 t = g2 t) → bestOf g1 w L b = bestOf g2 w L b
  | [], _, _ => rfl
  | t :: L, b, h => by
    show bestOf g1 w L (if g1 t = true then (if b.2 < w t then (t, w t) else b) else b) = bestOf g2 w L (if g2 t = true then (if b.2 < w t then (t, w t) else b) else b)
    rw [h t (by simp)]
    exact bestOf_congr w L _ (fun x hx => h x (List.mem_cons_of_mem _ hx))
theorem v_all : (stowsL 2 3).all (fun t => (goodK 60 800 200 300 vHolds 60 vSills vLots t).isSome) = true := by kernel_rfl
theorem v_best : ship_Best.f 800 200 300 vHolds 60 vSills vLots = some ([0, -1, 1], 95, 0) := by
  have hk : ∀ t, t ∈ stowsL 2 3 → goodO 800 200 300 vHolds 60 vSills vLots t = some ((goodK 60 800 200 300 vHolds 60 vSills vLots t).getD false) := fun t ht => by
    have h1 := List.all_eq_true.1 v_all t ht
    cases hg : goodK 60 800 200 300 vHolds 60 vSills vLots t with
    | none => rw [hg] at h1; cases h1
    | some b => exact goodK_good hg
  have hg : ∀ t, t ∈ stowsL 2 3 → goodB 800 200 300 vHolds 60 vSills vLots t = (goodK 60 800 200 300 vHolds 60 vSills vLots t).getD false := fun t ht => by
    unfold goodB; rw [hk t ht]; rfl
  have hb := bestOf_congr (fun t => worthGo vLots 0 t 0) (stowsL 2 3) ([], -1) hg
  have he : bestOf (fun t => (goodK 60 800 200 300 vHolds 60 vSills vLots t).getD false) (fun t => worthGo vLots 0 t 0) (stowsL 2 3) ([], -1) = ([0, -1, 1], 95) := by kernel_rfl
  rw [he] at hb
  unfold ship_Best.f
  refine Option.bind_eq_some_iff.2 ⟨0, v_check, ?_⟩
  rw [if_pos rfl, if_pos ⟨by decide, by decide, by decide, fun t ht => by rw [hk t ht]; rfl⟩]
  show some ((bestOf (goodB 800 200 300 vHolds 60 vSills vLots) (fun t => worthGo vLots 0 t 0) (stowsL 2 3) ([], -1)).1, (bestOf (goodB 800 200 300 vHolds 60 vSills vLots) (fun t => worthGo vLots 0 t 0) (stowsL 2 3) ([], -1)).2, (0 : Int)) = _
  rw [hb]
end Go.Proofs.Ytodmemndaaiolaa.PC7
namespace Go.Proofs.Ytodmemndaaiolaa.PC7
open Go.RowKit Go.Proofs.YtodmemndaaiolaaW.PrintWords Go.Proofs.YtodmemndaaiolaaW.PrintLast Go.Proofs.YtodmemndaaiolaaW.PrintMore
attribute [local go_sem] max2_int min2_int max_two min_two max_three min_three max_four min_four
set_option linter.unusedVariables false
set_option linter.unusedSimpArgs false
def ship_Level.f (k : Nat) (a0_0 : Int) (a0_1 : Int) (a0_2 : Int) (l0_3 : List (S85)) (a0_4 : Int) (l0_5 : List (S59)) (l0_6 : List (S79)) (l1 : List Int) : Option (Bool × Int × Int × Int) := (ship_CheckStowage.f k a0_0 a0_1 a0_2 l0_3 a0_4 l0_5 l0_6 l1).bind fun t737 => (if t737 = 0 then ((ship_apart.f k a0_0 a0_1 a0_2 l0_3 a0_4 l0_5 l0_6 l1).bind fun bt738 => ((ship_level.f k a0_0 a0_1 a0_2 l0_3 a0_4 l0_5 l0_6 bt738.1 bt738.2).bind fun t741 => (some (t741, bt738.1, bt738.2, 0)))) else (some (false, 0, 0, t737)))
mutual
def swarfref07_Stowages.l0 : Nat → List Int → List (List Int) → Int → Int → Int → Int → List (S85) → Int → List (S59) → List (S79) → Option ((List (List Int)))
 | 0, _, _, _, _, _, _, _, _, _, _ => none
 | k + 1, x1, x5, x6, x549000, x549001, x549002, x549003, x549004, x549005, x549006 => if x6 < (x549003.length : Int) then ((some (([] : List Int) : List Int)).bind fun y552 => (if y552.length + x1.length < 17592186044416 then ((some (y552 ++ x1 : List Int)).bind fun y555 => ((some (([x6] : List Int) : List Int)).bind fun y558 => (if y555.length + y558.length < 17592186044416 then ((swarfref07_Stowages.f k x549000 x549001 x549002 x549003 x549004 x549005 x549006 (y555 ++ y558)).bind fun t564 => (if x5.length + t564.length < 5864062014805 then (swarfref07_Stowages.l0 k x1 (x5 ++ t564) (wrap64 (x6 + 1)) x549000 x549001 x549002 x549003 x549004 x549005 x549006) else (none))) else (none)))) else (none))) else (some x5)
def swarfref07_Stowages.f : Nat → Int → Int → Int → List (S85) → Int → List (S59) → List (S79) → List Int → Option ((List (List Int)))
 | 0, _, _, _, _, _, _, _, _ => none
 | k + 1, a0_0, a0_1, a0_2, l0_3, a0_4, l0_5, l0_6, l1 => if (l1.length : Int) = (l0_6.length : Int) then (some (([l1] : List (List Int)))) else (swarfref07_Stowages.l0 k l1 ([] : List (List Int)) (-1) a0_0 a0_1 a0_2 l0_3 a0_4 l0_5 l0_6)
end
def swarfref07_Stowages.T7 : Bool × List (List Nat × List Nat) := (true, [([], []), ([], []), ([], []), ([], []), ([2, 3], [2, 3]), ([], []), ([5], [5]), ([4, 6, 4], [4, 6]), ([1, 7, 7], [1, 7]), ([0, 8, 8], [0, 8]), ([9, 9, 0, 1, 2, 3, 4, 5, 6, 7, 8, 9], [0, 9])])
def swarfref07_Stowages.B7 : List Nat := [0, 0, 0, 0, 12, 0, 32, 124, 254, 511, 1023]
theorem swarfref07_Stowages.tab7 : rtab .any (opsOf Try.f50 7) = swarfref07_Stowages.T7 := by kernel_rfl
theorem swarfref07_Stowages.bits7 : waitsOk swarfref07_Stowages.T7.2 swarfref07_Stowages.B7 = true := by kernel_rfl
set_option maxHeartbeats 8000000 in
set_option maxRecDepth 100000 in
theorem swarfref07_Stowages.calls (k : Nat) : ∀ (a0_0 : Int) (a0_1 : Int) (a0_2 : Int) (A0_3 : Option Addr) (c0_3 : Nat) (l0_3 : List (S85)) (a0_4 : Int) (A0_5 : Option Addr) (c0_5 : Nat) (l0_5 : List (S59)) (A0_6 : Option Addr) (c0_6 : Nat) (l0_6 : List (S79)) (P1_ : Nat → Prop) (A1 : Option Addr) (c1 : Nat) (l1 : List Int) (r : List (List Int)) (w : World) (hr0_3 : Kd.C k85 w A0_3 l0_3.length l0_3) (hc0_3 : l0_3.length ≤ c0_3) (hr0_5 : Kd.C k59 w A0_5 l0_5.length l0_5) (hc0_5 : l0_5.length ≤ c0_5) (hr0_6 : Kd.C k79 w A0_6 l0_6.length l0_6) (hc0_6 : l0_6.length ≤ c0_6) (hs1 : Kd.V (Kd.int .i64) 3 w w.heap.size (fun k_ => P1_ k_) (.slice A1 l1.length c1) l1) (h : swarfref07_Stowages.f k a0_0 a0_1 a0_2 l0_3 a0_4 l0_5 l0_6 l1 = some r),
  Calls Try.prog 50 #[.agg #[.int .i64 a0_0, .int .i64 a0_1, .int .i64 a0_2, .slice A0_3 l0_3.length c0_3, .int .i64 a0_4, .slice A0_5 l0_5.length c0_5, .slice A0_6 l0_6.length c0_6], .slice A1 l1.length c1] w fun e w' => ∃ v0_ : Value, e = .returned (v0_) ∧ Kd.N (Kd.slice 3 (Kd.int .i64)) 27 w' w.heap.size (fun k_ => (P1_ k_ ∨ w.heap.size ≤ k_)) v0_ r ∧ Below w.heap.size w w' := by
 induction k using Nat.strongRecOn with
 | _ k ih =>
 intro a0_0 a0_1 a0_2 A0_3 c0_3 l0_3 a0_4 A0_5 c0_5 l0_5 A0_6 c0_6 l0_6 P1_ A1 c1 l1 r w hr0_3 hc0_3 hr0_5 hc0_5 hr0_6 hc0_6 hs1 h
 cases k with
 | zero => exact absurd h (by simp [swarfref07_Stowages.f])
 | succ k =>
 simp only [swarfref07_Stowages.f] at h
 have hu26 := Try.underlying26
 have HR0_3 := Aside0.mk hr0_3
 have HC0_3 := Aside0.mk hc0_3
 clear hr0_3 hc0_3
 have HR0_5 := Aside0.mk hr0_5
 have HC0_5 := Aside0.mk hc0_5
 clear hr0_5 hc0_5
 have HR0_6 := Aside0.mk hr0_6
 have HC0_6 := Aside0.mk hc0_6
 clear hr0_6 hc0_6
 have HO1 := Aside0.mk (show Kd.V (Kd.int .i64) 3 w w.heap.size (fun k_ => (P1_ k_ ∨ w.heap.size ≤ k_)) (.slice A1 l1.length c1) l1 from Kd.V_mono hs1 (fun k_ hk => .inl hk))
 have HB := Aside0.mk (Below.refl w.heap.size w)
 have H : (if (l1.length : Int) = (l0_6.length : Int) then (some (([l1] : List (List Int)))) else (swarfref07_Stowages.l0 k l1 ([] : List (List Int)) (-1) a0_0 a0_1 a0_2 l0_3 a0_4 l0_5 l0_6)) = some r := h
 clear h
 by_cases c3 : (l1.length : Int) = (l0_6.length : Int)
 ·
  rw [if_pos c3] at H; have c3b0 : ((l1.length : Int) == (l0_6.length : Int)) = true := beq_iff_eq.mpr c3; have c3b1 : ((l1.length : Int) != (l0_6.length : Int)) = false := bne_eq_false_iff_eq.mpr c3; (have c3b2 : (l1.length == l0_6.length) = true := by first | simpa using c3 | (simp at c3 ⊢; omega)); clear c3; obtain ⟨y549, hy549⟩ : ∃ y_ : List (List Int), y_ = (([l1] : List (List Int))) := ⟨_, rfl⟩; (replace H : (some y549) = some r := by first | (rw [hy549]; with_reducible exact H) | (have H2_ := (Option.bind_some _ _).symm.trans H; rw [hy549]; with_reducible exact H2_) | (have H2_ := (Option.bind_some _ _).symm.trans H; with_reducible exact H2_) | with_reducible exact H | (rw [hy549]; exact H) | exact H); have Ny549 := Aside0.mk hy549; clear hy549; obtain rfl := Option.some.inj H; go_enter Try.func50, Try.ntmps50
  go_wp2_with (first | (refine box_r (N := 2) rfl (cs := #[.int .i64 a0_0, .int .i64 a0_1, .int .i64 a0_2, .slice A0_3 l0_3.length c0_3, .int .i64 a0_4, .slice A0_5 l0_5.length c0_5, .slice A0_6 l0_6.length c0_6]) (t := 26) ?_; intro gb548 hg w4 hbox hb; replace HO1 := Aside0.mk (Kd.V_below (Kd.V_elderB (Kd.V_x HO1.out) gb548 (Nat.le_of_eq hg.symm)) hb); have BK548 := Aside0.mk (hbox); have GW548 := gw_x hg HB; have GE548 := GW548; replace HB := Aside0.mk (below_step (below_x HB.out) hb); clear hb hbox hg; obtain ⟨hfz5_0, _, _, _, _, _, _, _⟩ := cf7 BK548) | ((with_reducible refine gate_dst (N := 14) rfl ?_); refine Kd.N_lit (Kd.slice 3 (Kd.int .i64)) _ 27 ?hg (N' := 14) ?hd (xs := ([l1] : List (List Int))) (inner := [.slice A1 l1.length c1]) (ok := (fun k_ => (P1_ k_ ∨ w.heap.size ≤ k_) ∧ k_ ≠ gb548)) (okp := (fun k_ => (P1_ k_ ∨ w.heap.size ≤ k_) ∧ k_ ≠ gb548)) ?hr ?hp (fun _ hk => hk) ((show ∀ k_, w4.heap.size ≤ k_ → (fun k_ => (P1_ k_ ∨ w.heap.size ≤ k_) ∧ k_ ≠ gb548) k_ from fun k_ hk => ⟨(.inr (Nat.le_trans (below_size (by exact below_y HB.out)) hk)), Kd.freshB (g := gb548) (o := .cells #[.int .i64 a0_0, .int .i64 a0_1, .int .i64 a0_2, .slice A0_3 l0_3.length c0_3, .int .i64 a0_4, .slice A0_5 l0_5.length c0_5, .slice A0_6 l0_6.length c0_6] 26 (0, 0)) (blk_x BK548.out) k_ hk⟩) _ (Nat.le_refl _)) (Below.refl _ _) (Nat.le_refl _) (by simp) ?_; (case hd => rfl); (case hg => rfl); (case hr => first | (go_simp; done) | (go_simp; rfl)); (case hp => exact (Reps.one (show Kd.FK (Kd.slice 3 (Kd.int .i64)) _ _ l1 [.slice A1 l1.length c1] from (Kd.FK_slice_mk (Kd.V_reads' (Kd.V_mono (ok' := (fun k_ => (P1_ k_ ∨ w.heap.size ≤ k_) ∧ k_ ≠ gb548)) (HO1.out) (fun k_ hk => ⟨hk.1, hk.2⟩))).2.1 (Kd.V_F (Kd.V_mono (ok' := (fun k_ => (P1_ k_ ∨ w.heap.size ≤ k_) ∧ k_ ≠ gb548)) (HO1.out) (fun k_ hk => ⟨hk.1, hk.2⟩))))) (Reps.none _ _))); intro v550 w6 ho7 hb hg_ hnew_; clear hg_ hnew_; (first | rw [← Ny549.out] at ho7 | (simp only [Int.reduceToNat] at ho7; rw [← Ny549.out] at ho7)); replace HO1 := Aside0.mk (Kd.V_elder' (Kd.V_x HO1.out) (Kd.N_base ho7) hb); have HO551 := Aside0.mk (Kd.N_lower ho7 (below_size (by exact below_y HB.out))); replace BK548 := bk_x BK548 hb; replace HB := bl_x HB hb; clear hb ho7))
  go_ret; exact ⟨_, by first | rfl | (simp [errW_none, errW_some] <;> rfl) | (simp [*, errW_none, errW_some] <;> rfl), by (with_reducible repeat (first | apply Kd.N_alloc | apply Kd.N_drewN | apply Kd.N_drew)); exact Kd.N_mono HO551.out (fun _ hk => hk.1), by exact below_y HB.out⟩
 ·
  rw [if_neg c3] at H; have c3b0 : ((l1.length : Int) == (l0_6.length : Int)) = false := beq_eq_false_iff_ne.mpr c3; have c3b1 : ((l1.length : Int) != (l0_6.length : Int)) = true := bne_iff_ne.mpr c3; (have c3b2 : (l1.length == l0_6.length) = false := by first | simpa using c3 | (simp at c3 ⊢; omega)); have H' := Aside0.mk H; clear H; go_enter Try.func50, Try.ntmps50
  go_wp2_with (first | (refine box_r (N := 2) rfl (cs := #[.int .i64 a0_0, .int .i64 a0_1, .int .i64 a0_2, .slice A0_3 l0_3.length c0_3, .int .i64 a0_4, .slice A0_5 l0_5.length c0_5, .slice A0_6 l0_6.length c0_6]) (t := 26) ?_; intro gb548 hg w8 hbox hb; replace HO1 := Aside0.mk (Kd.V_below (Kd.V_elderB (Kd.V_x HO1.out) gb548 (Nat.le_of_eq hg.symm)) hb); have BK548 := Aside0.mk (hbox); have GW548 := gw_x hg HB; have GE548 := GW548; replace HB := Aside0.mk (below_step (below_x HB.out) hb); clear hb hbox hg; obtain ⟨hfz9_0, _, _, _, _, _, _, _⟩ := cf7 BK548))
  go_loopg [5, 6] k (fun kq v5 v6 w' => ∃ (x5_1 : List (List Int)) (x6_1 : Int), v6 = .int .i64 x6_1 ∧ Aside0 (swarfref07_Stowages.l0 kq l1 x5_1 x6_1 a0_0 a0_1 a0_2 l0_3 a0_4 l0_5 l0_6 = some r) ∧ Aside0 (kq ≤ k) ∧ Aside0 (Kd.V (Kd.int .i64) 3 w' w.heap.size (fun k_ => (P1_ k_ ∨ w.heap.size ≤ k_) ∧ some k_ ≠ (v5 : Value).ownBlock ∧ k_ ≠ gb548) (.slice A1 l1.length c1) l1) ∧ Aside0 (Kd.N (Kd.slice 3 (Kd.int .i64)) 27 w' w.heap.size (fun k_ => (P1_ k_ ∨ w.heap.size ≤ k_) ∧ k_ ≠ gb548) v5 x5_1) ∧ Aside0 (w'.heap[gb548]? = some (.cells #[.int .i64 a0_0, .int .i64 a0_1, .int .i64 a0_2, (.slice A0_3 l0_3.length c0_3), .int .i64 a0_4, (.slice A0_5 l0_5.length c0_5), (.slice A0_6 l0_6.length c0_6)] 26 (0, 0))) ∧ Aside0 (Below w.heap.size w w'))
  case atStart => exact ⟨(([] : List (List Int))), ((-1)), (by first | rfl | (simp; done) | (simp [*]; done)), H', ⟨Nat.le_refl _⟩, ⟨by (with_reducible repeat (first | apply Kd.V_alloc | apply Kd.V_drewN | apply Kd.V_drew)); exact Kd.V_mono HO1.out (fun _ hk => ⟨hk.1, ⟨(by simp [Value.ownBlock]), hk.2⟩⟩)⟩, ⟨by first | exact Kd.S_nil _ _ _ _ _ | exact Kd.N_nil _ _ _ _ _ | exact Kd.V_nil _ _ _ _ _ | exact Kd.Q_nil _ _ _ _ _ | exact Kd.R_nil _ _ _ _ _⟩, ⟨blk_x BK548.out⟩, ⟨by exact below_y HB.out⟩⟩
  case round =>
   clear H'; obtain ⟨x5_1, x6_1, rfl, HA, HK1, HO_1, HO_5, BK548, HB⟩ := hrel; cases gk with
   | zero => exact absurd HA.out (by simp [swarfref07_Stowages.l0])
   | succ k1 =>
    have H := HA.out; clear HA; simp only [swarfref07_Stowages.l0] at H; by_cases c10 : x6_1 < (l0_3.length : Int)
    ·
     rw [if_pos c10] at H; have c10b0 : decide (x6_1 < (l0_3.length : Int)) = true := decide_eq_true c10; clear c10; obtain ⟨y552, hy552⟩ : ∃ y_ : List Int, y_ = (([] : List Int)) := ⟨_, rfl⟩; (replace H : (if y552.length + l1.length < 17592186044416 then ((some (y552 ++ l1 : List Int)).bind fun y555 => ((some (([x6_1] : List Int) : List Int)).bind fun y558 => (if y555.length + y558.length < 17592186044416 then ((swarfref07_Stowages.f k1 a0_0 a0_1 a0_2 l0_3 a0_4 l0_5 l0_6 (y555 ++ y558)).bind fun t564 => (if x5_1.length + t564.length < 5864062014805 then (swarfref07_Stowages.l0 k1 l1 (x5_1 ++ t564) (wrap64 (x6_1 + 1)) a0_0 a0_1 a0_2 l0_3 a0_4 l0_5 l0_6) else (none))) else (none)))) else (none)) = some r := by first | (rw [hy552]; with_reducible exact H) | (have H2_ := (Option.bind_some _ _).symm.trans H; rw [hy552]; with_reducible exact H2_) | (have H2_ := (Option.bind_some _ _).symm.trans H; with_reducible exact H2_) | with_reducible exact H | (rw [hy552]; exact H) | exact H); have Ny552 := Aside0.mk hy552; clear hy552; by_cases c11 : y552.length + l1.length < 17592186044416
     ·
      rw [if_pos c11] at H; have LMc11 := Aside0.mk c11; clear c11; obtain ⟨y555, hy555⟩ : ∃ y_ : List Int, y_ = (y552 ++ l1) := ⟨_, rfl⟩; (replace H : ((some (([x6_1] : List Int) : List Int)).bind fun y558 => (if y555.length + y558.length < 17592186044416 then ((swarfref07_Stowages.f k1 a0_0 a0_1 a0_2 l0_3 a0_4 l0_5 l0_6 (y555 ++ y558)).bind fun t564 => (if x5_1.length + t564.length < 5864062014805 then (swarfref07_Stowages.l0 k1 l1 (x5_1 ++ t564) (wrap64 (x6_1 + 1)) a0_0 a0_1 a0_2 l0_3 a0_4 l0_5 l0_6) else (none))) else (none))) = some r := by first | (rw [hy555]; with_reducible exact H) | (have H2_ := (Option.bind_some _ _).symm.trans H; rw [hy555]; with_reducible exact H2_) | (have H2_ := (Option.bind_some _ _).symm.trans H; with_reducible exact H2_) | with_reducible exact H | (rw [hy555]; exact H) | exact H); have Ny555 := Aside0.mk hy555; clear hy555; obtain ⟨y558, hy558⟩ : ∃ y_ : List Int, y_ = (([x6_1] : List Int)) := ⟨_, rfl⟩; (replace H : (if y555.length + y558.length < 17592186044416 then ((swarfref07_Stowages.f k1 a0_0 a0_1 a0_2 l0_3 a0_4 l0_5 l0_6 (y555 ++ y558)).bind fun t564 => (if x5_1.length + t564.length < 5864062014805 then (swarfref07_Stowages.l0 k1 l1 (x5_1 ++ t564) (wrap64 (x6_1 + 1)) a0_0 a0_1 a0_2 l0_3 a0_4 l0_5 l0_6) else (none))) else (none)) = some r := by first | (rw [hy558]; with_reducible exact H) | (have H2_ := (Option.bind_some _ _).symm.trans H; rw [hy558]; with_reducible exact H2_) | (have H2_ := (Option.bind_some _ _).symm.trans H; with_reducible exact H2_) | with_reducible exact H | (rw [hy558]; exact H) | exact H); have Ny558 := Aside0.mk hy558; clear hy558; by_cases c12 : y555.length + y558.length < 17592186044416
      ·
       rw [if_pos c12] at H; have LMc12 := Aside0.mk c12; clear c12; obtain ⟨y561, hy561⟩ : ∃ y_ : List Int, y_ = (y555 ++ y558) := ⟨_, rfl⟩; (replace H : ((swarfref07_Stowages.f k1 a0_0 a0_1 a0_2 l0_3 a0_4 l0_5 l0_6 y561).bind fun t564 => (if x5_1.length + t564.length < 5864062014805 then (swarfref07_Stowages.l0 k1 l1 (x5_1 ++ t564) (wrap64 (x6_1 + 1)) a0_0 a0_1 a0_2 l0_3 a0_4 l0_5 l0_6) else (none))) = some r := by first | (rw [hy561]; with_reducible exact H) | (have H2_ := (Option.bind_some _ _).symm.trans H; rw [hy561]; with_reducible exact H2_) | (have H2_ := (Option.bind_some _ _).symm.trans H; with_reducible exact H2_) | with_reducible exact H | (rw [hy561]; exact H) | exact H); have Ny561 := Aside0.mk hy561; clear hy561; replace H := Option.bind_eq_some_iff.mp H; obtain ⟨t564, A130, H⟩ := H
       try dsimp only at H
       have A13 := Aside0.mk A130; clear A130; by_cases c14 : x5_1.length + t564.length < 5864062014805
       ·
        rw [if_pos c14] at H; have LMc14 := Aside0.mk c14; clear c14; obtain ⟨y567, hy567⟩ : ∃ y_ : List (List Int), y_ = (x5_1 ++ t564) := ⟨_, rfl⟩; (replace H : (swarfref07_Stowages.l0 k1 l1 y567 (wrap64 (x6_1 + 1)) a0_0 a0_1 a0_2 l0_3 a0_4 l0_5 l0_6) = some r := by first | (rw [hy567]; with_reducible exact H) | (have H2_ := (Option.bind_some _ _).symm.trans H; rw [hy567]; with_reducible exact H2_) | (have H2_ := (Option.bind_some _ _).symm.trans H; with_reducible exact H2_) | with_reducible exact H | (rw [hy567]; exact H) | exact H); have Ny567 := Aside0.mk hy567; clear hy567; have H' := Aside0.mk H; clear H; obtain ⟨hfz15_0, _, _, _, _, _, _, _⟩ := cf7 BK548; obtain ⟨Ao16, co16, eo16⟩ := Kd.N_slice HO_5.out; subst eo16
        try go_wp2
        replace HO_1 := Aside0.mk (Kd.V_drew HO_1.out); replace HO_5 := Aside0.mk (Kd.N_drew HO_5.out); replace BK548 := Aside0.mk (blk_drew BK548.out); replace HB := Aside0.mk (below_drew1 HB.out); refine start_ (n := 11) (S := fun w' => w'.cell? ⟨gb548, 0, none⟩ = some (.int .i64 a0_0) ∧ w'.cell? ⟨gb548, 1, none⟩ = some (.int .i64 a0_1) ∧ w'.cell? ⟨gb548, 2, none⟩ = some (.int .i64 a0_2) ∧ w'.cell? ⟨gb548, 3, none⟩ = some (.slice A0_3 l0_3.length c0_3) ∧ w'.cell? ⟨gb548, 4, none⟩ = some (.int .i64 a0_4) ∧ w'.cell? ⟨gb548, 5, none⟩ = some (.slice A0_5 l0_5.length c0_5) ∧ w'.cell? ⟨gb548, 6, none⟩ = some (.slice A0_6 l0_6.length c0_6)) (ds := []) #[false, false, false, false, false, false, false, false, false, false, false] (by kernel_rfl) rfl rfl ⟨(blk_cell BK548.out 0).trans rfl, (blk_cell BK548.out 1).trans rfl, (blk_cell BK548.out 2).trans rfl, (blk_cell BK548.out 3).trans rfl, (blk_cell BK548.out 4).trans rfl, (blk_cell BK548.out 5).trans rfl, (blk_cell BK548.out 6).trans rfl⟩ (fun hHeld => ?_); refine with_tabW swarfref07_Stowages.tab7 swarfref07_Stowages.bits7 (fun HT_ HW_ => ?_); generalize wr.drew = w17 at HO_1 HO_5 BK548 HB hHeld ⊢; refine pure_t 0 (some 22) (bz 11 1) HT_ ?_; refine pure_t 3 (some 25) (bz 11 9) HT_ ?_; refine pure_t 5 (some 27) (bz 11 41) HT_ ?_; refine take_t 1 (some 23) (bz 11 43) HT_ HW_ hHeld ?_; refine join_ (σ := Value × Value × Value) 4 (bz 11 127) (fun s_ => [(24, s_.1), (26, s_.2.1), (28, s_.2.2)]) (fun s_ w' => (w'.cell? ⟨gb548, 0, none⟩ = some (.int .i64 a0_0) ∧ w'.cell? ⟨gb548, 1, none⟩ = some (.int .i64 a0_1) ∧ w'.cell? ⟨gb548, 2, none⟩ = some (.int .i64 a0_2) ∧ w'.cell? ⟨gb548, 3, none⟩ = some (.slice A0_3 l0_3.length c0_3) ∧ w'.cell? ⟨gb548, 4, none⟩ = some (.int .i64 a0_4) ∧ w'.cell? ⟨gb548, 5, none⟩ = some (.slice A0_5 l0_5.length c0_5) ∧ w'.cell? ⟨gb548, 6, none⟩ = some (.slice A0_6 l0_6.length c0_6)) ∧ (Kd.R (Kd.int .i64) 3 w' w.heap.size (fun k_ => (w.heap.size ≤ k_) ∧ some k_ ≠ (s_.2.2 : Value).ownBlock) s_.2.1 y555) ∧ (Kd.R (Kd.int .i64) 3 w' w.heap.size (fun k_ => (w.heap.size ≤ k_) ∧ some k_ ≠ (s_.2.1 : Value).ownBlock) s_.2.2 y558) ∧ (Kd.V (Kd.int .i64) 3 w' w.heap.size (fun k_ => (P1_ k_ ∨ w.heap.size ≤ k_) ∧ some k_ ≠ (s_.2.1 : Value).ownBlock ∧ some k_ ≠ (s_.2.2 : Value).ownBlock ∧ some k_ ≠ (.slice Ao16 x5_1.length co16 : Value).ownBlock ∧ k_ ≠ gb548) (.slice A1 l1.length c1) l1) ∧ (Kd.N (Kd.slice 3 (Kd.int .i64)) 27 w' w.heap.size (fun k_ => (P1_ k_ ∨ w.heap.size ≤ k_) ∧ some k_ ≠ (s_.2.1 : Value).ownBlock ∧ some k_ ≠ (s_.2.2 : Value).ownBlock ∧ k_ ≠ gb548) (.slice Ao16 x5_1.length co16) x5_1) ∧ (w'.heap[gb548]? = some (.cells #[.int .i64 a0_0, .int .i64 a0_1, .int .i64 a0_2, .slice A0_3 l0_3.length c0_3, .int .i64 a0_4, .slice A0_5 l0_5.length c0_5, .slice A0_6 l0_6.length c0_6] 26 (0, 0))) ∧ (Below w.heap.size w w')) ?_ ?_; rotate_left
        ·
         intro hCont; refine two_ (i := 2) (j := 6) (Ni := some 24) (Nj := some 28) (bz 11 47) (bz 11 107) rfl rfl rfl rfl (two_of HT_.out (by kernel_rfl)) (by decide) (by decide) (fun K hK => ?_) (fun K hK => ?_)
         ·
          skip
          refine Kd.R_lit_step (Kd.int .i64) _ 3 ?hg (N := 24) ?hd (xs := ([] : List Int)) (inner := []) (ok := fun _ => True) (okp := fun _ => True) ?hr ?hp (fun _ hk => hk) trivial (Below.refl _ _) (Nat.le_refl _) (by simp) ?_; (case hd => rfl); (case hg => rfl); (case hr => first | (go_simp; done) | (go_simp; rfl)); (case hp => exact (Reps.none _ _)); intro v553 w18 ho19 hb hg_ hnew_; clear hg_ hnew_
          (first | rw [← Ny552.out] at ho19 | (simp only [Int.reduceToNat] at ho19; rw [← Ny552.out] at ho19))
          replace HO_1 := Aside0.mk (Kd.V_elder' (Kd.V_x HO_1.out) (Kd.R_base ho19) hb); replace HO_5 := Aside0.mk (Kd.N_elder' (Kd.N_x HO_5.out) (Kd.R_base ho19) hb); have HO554 := Aside0.mk (Kd.R_lower (Kd.R_newM (M := fun k_ => (w.heap.size ≤ k_)) ho19 (below_size (by exact below_y HB.out)) (fun k_ h_ => h_)) (below_size (by exact below_y HB.out))); replace BK548 := bk_x BK548 hb; replace HB := bl_x HB hb; clear hb ho19; refine hK.out _ _ (bcs_y BK548) (fun hHeld => ?_); clear hK K; refine norm_y (some 24) ?_; refine two_ (i := 4) (j := 6) (Ni := some 26) (Nj := some 28) (bz 11 63) (bz 11 111) rfl rfl rfl rfl (two_of HT_.out (by kernel_rfl)) (by decide) (by decide) (fun K hK => ?_) (fun K hK => ?_)
          ·
           skip
           refine Kd.R_append_rows_step (Kd.int .i64) (w0 := w) w.heap.size (by rfl) (.tmp 24) (.tmp 25) 27 3 (.int .i64 0) 8 rfl Try.underlying27 info3 rfl (by decide) (by omega) v553 y552 l1 _ _ _ (fun k_ => (w.heap.size ≤ k_)) (fun _ => False) rfl rfl ?aO ?aR (fun _ _ h => h) (fun _ h => h.elim) ?aF ?aB ?aS ?aL ?_
           (case aR => exact Kd.C_y (Kd.V_reads' HO_1.out).2.2)
           (case aB => exact (by exact below_y HB.out))
           (case aF => exact (fun k_ hk => (Nat.le_trans (below_size (by exact below_y HB.out)) hk)))
           (case aO => exact (by (with_reducible repeat (first | apply Kd.R_alloc | apply Kd.R_drewN | apply Kd.R_drew)); exact Kd.R_mono HO554.out (fun _ hk => hk.1)))
           (case aS => exact (below_size (by exact below_y HB.out)))
           (case aL => have := LMc11.out; omega)
           intro v556 w20 ho hb hg hat; rw [← Ny555.out] at ho; replace HO_1 := Aside0.mk (Kd.V_afterv (ok := (fun k_ => (P1_ k_ ∨ w.heap.size ≤ k_) ∧ some k_ ≠ (.slice Ao16 x5_1.length co16 : Value).ownBlock ∧ k_ ≠ gb548)) (Kd.V_x HO_1.out) hg hat); replace HO_5 := Aside0.mk (Kd.N_afterv (ok := (fun k_ => (P1_ k_ ∨ w.heap.size ≤ k_) ∧ k_ ≠ gb548)) (Kd.N_x HO_5.out) hg hat); replace BK548 := Aside0.mk (blk_grown (blk_x BK548.out) hg (Kd.R_ne HO554.out BK548.out (by decide))); replace HB := Aside0.mk (hb); have HO557 := Aside0.mk (ho); clear HO554 ho hb hg hat; refine hK.out _ _ (bcs_y BK548) (fun hHeld => ?_); clear hK K; refine norm_y (some 26) ?_; (refine one_t 6 (some 28) (bz 11 127) HT_ fun K hK => ?_); refine Kd.R_lit_step (Kd.int .i64) _ 3 ?hg (N := 28) ?hd (xs := ([x6_1] : List Int)) (inner := [.int .i64 x6_1]) (ok := fun _ => True) (okp := fun _ => True) ?hr ?hp (fun _ hk => hk) trivial (Below.refl _ _) (Nat.le_refl _) (by simp) ?_; (case hd => rfl); (case hg => rfl); (case hr => first | (go_simp; done) | (go_simp; rfl)); (case hp => exact (Reps.one (show Kd.M (Kd.int .i64) _ _ _ x6_1 [.int .i64 x6_1] from rfl) (Reps.none _ _))); intro v559 w21 ho22 hb hg_ hnew_; clear hg_ hnew_
           (first | rw [← Ny558.out] at ho22 | (simp only [Int.reduceToNat] at ho22; rw [← Ny558.out] at ho22))
           replace HO_1 := Aside0.mk (Kd.V_elder' (Kd.V_x HO_1.out) (Kd.R_base ho22) hb); replace HO_5 := Aside0.mk (Kd.N_elder' (Kd.N_x HO_5.out) (Kd.R_base ho22) hb); have HO560 := Aside0.mk (Kd.R_lower (Kd.R_new' (Kd.R_newM (M := fun k_ => (w.heap.size ≤ k_)) ho22 (below_size (by exact below_y HB.out)) (fun k_ h_ => h_)) (Kd.R_lt (Kd.R_x HO557.out))) (below_size (by exact below_y HB.out))); replace HO557 := Aside0.mk (Kd.R_elder' (Kd.R_x HO557.out) (Kd.R_base ho22) hb); replace BK548 := bk_x BK548 hb; replace HB := bl_x HB hb; clear hb ho22; refine hK.out _ _ (bcs_y BK548) (fun hHeld => ?_); clear hK K; refine norm_y (some 28) ?_; exact norm_ (by simp only [putAll, Act.put, put_x]) (hCont (v553, v556, v559) _ ⟨hHeld, (Kd.R_x HO557.out), (by (with_reducible repeat (first | apply Kd.R_alloc | apply Kd.R_drewN | apply Kd.R_drew)); exact Kd.R_mono HO560.out (fun _ hk => ⟨hk.1.1, hk.2⟩)), (by (with_reducible repeat (first | apply Kd.V_alloc | apply Kd.V_drewN | apply Kd.V_drew)); exact Kd.V_mono HO_1.out (fun _ hk => ⟨hk.1.1.1, ⟨hk.1.2, ⟨hk.2, ⟨hk.1.1.2.1, hk.1.1.2.2⟩⟩⟩⟩)), (by (with_reducible repeat (first | apply Kd.N_alloc | apply Kd.N_drewN | apply Kd.N_drew)); exact Kd.N_mono HO_5.out (fun _ hk => ⟨hk.1.1.1, ⟨hk.1.2, ⟨hk.2, hk.1.1.2⟩⟩⟩)), (blk_x BK548.out), (by exact below_y HB.out)⟩)
          ·
           skip
           refine Kd.R_lit_step (Kd.int .i64) _ 3 ?hg (N := 28) ?hd (xs := ([x6_1] : List Int)) (inner := [.int .i64 x6_1]) (ok := fun _ => True) (okp := fun _ => True) ?hr ?hp (fun _ hk => hk) trivial (Below.refl _ _) (Nat.le_refl _) (by simp) ?_; (case hd => rfl); (case hg => rfl); (case hr => first | (go_simp; done) | (go_simp; rfl)); (case hp => exact (Reps.one (show Kd.M (Kd.int .i64) _ _ _ x6_1 [.int .i64 x6_1] from rfl) (Reps.none _ _))); intro v559 w20 ho21 hb hg_ hnew_; clear hg_ hnew_
           (first | rw [← Ny558.out] at ho21 | (simp only [Int.reduceToNat] at ho21; rw [← Ny558.out] at ho21))
           replace HO_1 := Aside0.mk (Kd.V_elder' (Kd.V_x HO_1.out) (Kd.R_base ho21) hb); replace HO_5 := Aside0.mk (Kd.N_elder' (Kd.N_x HO_5.out) (Kd.R_base ho21) hb); have HO560 := Aside0.mk (Kd.R_lower (Kd.R_new' (Kd.R_newM (M := fun k_ => (w.heap.size ≤ k_)) ho21 (below_size (by exact below_y HB.out)) (fun k_ h_ => h_)) (Kd.R_lt (Kd.R_x HO554.out))) (below_size (by exact below_y HB.out))); replace HO554 := Aside0.mk (Kd.R_elder' (Kd.R_x HO554.out) (Kd.R_base ho21) hb); replace BK548 := bk_x BK548 hb; replace HB := bl_x HB hb; clear hb ho21; refine hK.out _ _ (bcs_y BK548) (fun hHeld => ?_); clear hK K; refine norm_y (some 28) ?_; (refine one_t 4 (some 26) (bz 11 127) HT_ fun K hK => ?_); refine Kd.R_append_rows_step (Kd.int .i64) (w0 := w) w.heap.size (by rfl) (.tmp 24) (.tmp 25) 27 3 (.int .i64 0) 8 rfl Try.underlying27 info3 rfl (by decide) (by omega) v553 y552 l1 _ _ _ (fun k_ => (w.heap.size ≤ k_) ∧ some k_ ≠ (v559 : Value).ownBlock) (fun _ => False) rfl rfl ?aO ?aR (fun _ _ h => h) (fun _ h => h.elim) ?aF ?aB ?aS ?aL ?_
           (case aR => exact Kd.C_y (Kd.V_reads' HO_1.out).2.2)
           (case aB => exact (by exact below_y HB.out))
           (case aF => exact (fun k_ hk => ⟨(Nat.le_trans (below_size (by exact below_y HB.out)) hk), Kd.fresh' (Kd.R_lt (Kd.R_x HO560.out)) k_ hk⟩))
           (case aO => exact (by (with_reducible repeat (first | apply Kd.R_alloc | apply Kd.R_drewN | apply Kd.R_drew)); exact Kd.R_mono HO554.out (fun _ hk => ⟨hk.1.1, hk.2⟩)))
           (case aS => exact (below_size (by exact below_y HB.out)))
           (case aL => have := LMc11.out; omega)
           intro v556 w22 ho hb hg hat; rw [← Ny555.out] at ho; replace HO_1 := Aside0.mk (Kd.V_afterv (ok := (fun k_ => (P1_ k_ ∨ w.heap.size ≤ k_) ∧ some k_ ≠ (.slice Ao16 x5_1.length co16 : Value).ownBlock ∧ some k_ ≠ (v559 : Value).ownBlock ∧ k_ ≠ gb548)) (by (with_reducible repeat (first | apply Kd.V_alloc | apply Kd.V_drewN | apply Kd.V_drew)); exact Kd.V_mono HO_1.out (fun _ hk => ⟨⟨hk.1.1.1, ⟨hk.1.1.2.1, ⟨hk.2, hk.1.1.2.2⟩⟩⟩, hk.1.2⟩)) hg hat); replace HO_5 := Aside0.mk (Kd.N_afterv (ok := (fun k_ => (P1_ k_ ∨ w.heap.size ≤ k_) ∧ some k_ ≠ (v559 : Value).ownBlock ∧ k_ ≠ gb548)) (by (with_reducible repeat (first | apply Kd.N_alloc | apply Kd.N_drewN | apply Kd.N_drew)); exact Kd.N_mono HO_5.out (fun _ hk => ⟨⟨hk.1.1.1, ⟨hk.2, hk.1.1.2⟩⟩, hk.1.2⟩)) hg hat); replace BK548 := Aside0.mk (blk_grown (blk_x BK548.out) hg (Kd.R_ne HO554.out BK548.out (by decide))); replace HO560 := Aside0.mk (Kd.R_after (ok := (fun k_ => (w.heap.size ≤ k_))) (by (with_reducible repeat (first | apply Kd.R_alloc | apply Kd.R_drewN | apply Kd.R_drew)); exact Kd.R_mono HO560.out (fun _ hk => ⟨hk.1.1, hk.2⟩)) hg hat); replace HB := Aside0.mk (hb); have HO557 := Aside0.mk (ho); clear HO554 ho hb hg hat; refine hK.out _ _ (bcs_y BK548) (fun hHeld => ?_); clear hK K; refine norm_y (some 26) ?_; exact norm_ (by simp only [putAll, Act.put, put_x]) (hCont (v553, v556, v559) _ ⟨hHeld, (Kd.R_x HO557.out), (Kd.R_x HO560.out), (by (with_reducible repeat (first | apply Kd.V_alloc | apply Kd.V_drewN | apply Kd.V_drew)); exact Kd.V_mono HO_1.out (fun _ hk => ⟨hk.1.1, ⟨hk.2, ⟨hk.1.2.2.1, ⟨hk.1.2.1, hk.1.2.2.2⟩⟩⟩⟩)), (by (with_reducible repeat (first | apply Kd.N_alloc | apply Kd.N_drewN | apply Kd.N_drew)); exact Kd.N_mono HO_5.out (fun _ hk => ⟨hk.1.1, ⟨hk.2, ⟨hk.1.2.1, hk.1.2.2⟩⟩⟩)), (blk_x BK548.out), (by exact below_y HB.out)⟩)
         ·
          skip
          refine Kd.R_lit_step (Kd.int .i64) _ 3 ?hg (N := 28) ?hd (xs := ([x6_1] : List Int)) (inner := [.int .i64 x6_1]) (ok := fun _ => True) (okp := fun _ => True) ?hr ?hp (fun _ hk => hk) trivial (Below.refl _ _) (Nat.le_refl _) (by simp) ?_; (case hd => rfl); (case hg => rfl); (case hr => first | (go_simp; done) | (go_simp; rfl)); (case hp => exact (Reps.one (show Kd.M (Kd.int .i64) _ _ _ x6_1 [.int .i64 x6_1] from rfl) (Reps.none _ _))); intro v559 w18 ho19 hb hg_ hnew_; clear hg_ hnew_
          (first | rw [← Ny558.out] at ho19 | (simp only [Int.reduceToNat] at ho19; rw [← Ny558.out] at ho19))
          replace HO_1 := Aside0.mk (Kd.V_elder' (Kd.V_x HO_1.out) (Kd.R_base ho19) hb); replace HO_5 := Aside0.mk (Kd.N_elder' (Kd.N_x HO_5.out) (Kd.R_base ho19) hb); have HO560 := Aside0.mk (Kd.R_lower (Kd.R_newM (M := fun k_ => (w.heap.size ≤ k_)) ho19 (below_size (by exact below_y HB.out)) (fun k_ h_ => h_)) (below_size (by exact below_y HB.out))); replace BK548 := bk_x BK548 hb; replace HB := bl_x HB hb; clear hb ho19; refine hK.out _ _ (bcs_y BK548) (fun hHeld => ?_); clear hK K; refine norm_y (some 28) ?_; (refine one_t 2 (some 24) (bz 11 111) HT_ fun K hK => ?_); refine Kd.R_lit_step (Kd.int .i64) _ 3 ?hg (N := 24) ?hd (xs := ([] : List Int)) (inner := []) (ok := fun _ => True) (okp := fun _ => True) ?hr ?hp (fun _ hk => hk) trivial (Below.refl _ _) (Nat.le_refl _) (by simp) ?_; (case hd => rfl); (case hg => rfl); (case hr => first | (go_simp; done) | (go_simp; rfl)); (case hp => exact (Reps.none _ _)); intro v553 w20 ho21 hb hg_ hnew_; clear hg_ hnew_
          (first | rw [← Ny552.out] at ho21 | (simp only [Int.reduceToNat] at ho21; rw [← Ny552.out] at ho21))
          replace HO_1 := Aside0.mk (Kd.V_elder' (Kd.V_x HO_1.out) (Kd.R_base ho21) hb); replace HO_5 := Aside0.mk (Kd.N_elder' (Kd.N_x HO_5.out) (Kd.R_base ho21) hb); have HO554 := Aside0.mk (Kd.R_lower (Kd.R_new' (Kd.R_newM (M := fun k_ => (w.heap.size ≤ k_)) ho21 (below_size (by exact below_y HB.out)) (fun k_ h_ => h_)) (Kd.R_lt (Kd.R_x HO560.out))) (below_size (by exact below_y HB.out))); replace HO560 := Aside0.mk (Kd.R_elder' (Kd.R_x HO560.out) (Kd.R_base ho21) hb); replace BK548 := bk_x BK548 hb; replace HB := bl_x HB hb; clear hb ho21; refine hK.out _ _ (bcs_y BK548) (fun hHeld => ?_); clear hK K; refine norm_y (some 24) ?_; (refine one_t 4 (some 26) (bz 11 127) HT_ fun K hK => ?_); refine Kd.R_append_rows_step (Kd.int .i64) (w0 := w) w.heap.size (by rfl) (.tmp 24) (.tmp 25) 27 3 (.int .i64 0) 8 rfl Try.underlying27 info3 rfl (by decide) (by omega) v553 y552 l1 _ _ _ (fun k_ => (w.heap.size ≤ k_) ∧ some k_ ≠ (v559 : Value).ownBlock) (fun _ => False) rfl rfl ?aO ?aR (fun _ _ h => h) (fun _ h => h.elim) ?aF ?aB ?aS ?aL ?_
          (case aR => exact Kd.C_y (Kd.V_reads' HO_1.out).2.2)
          (case aB => exact (by exact below_y HB.out))
          (case aF => exact (fun k_ hk => ⟨(Nat.le_trans (below_size (by exact below_y HB.out)) hk), Kd.fresh' (Kd.R_lt (Kd.R_x HO560.out)) k_ hk⟩))
          (case aO => exact (by (with_reducible repeat (first | apply Kd.R_alloc | apply Kd.R_drewN | apply Kd.R_drew)); exact Kd.R_mono HO554.out (fun _ hk => ⟨hk.1.1, hk.2⟩)))
          (case aS => exact (below_size (by exact below_y HB.out)))
          (case aL => have := LMc11.out; omega)
          intro v556 w22 ho hb hg hat; rw [← Ny555.out] at ho; replace HO_1 := Aside0.mk (Kd.V_afterv (ok := (fun k_ => (P1_ k_ ∨ w.heap.size ≤ k_) ∧ some k_ ≠ (.slice Ao16 x5_1.length co16 : Value).ownBlock ∧ some k_ ≠ (v559 : Value).ownBlock ∧ k_ ≠ gb548)) (by (with_reducible repeat (first | apply Kd.V_alloc | apply Kd.V_drewN | apply Kd.V_drew)); exact Kd.V_mono HO_1.out (fun _ hk => ⟨⟨hk.1.1.1, ⟨hk.1.1.2.1, ⟨hk.1.2, hk.1.1.2.2⟩⟩⟩, hk.2⟩)) hg hat); replace HO_5 := Aside0.mk (Kd.N_afterv (ok := (fun k_ => (P1_ k_ ∨ w.heap.size ≤ k_) ∧ some k_ ≠ (v559 : Value).ownBlock ∧ k_ ≠ gb548)) (by (with_reducible repeat (first | apply Kd.N_alloc | apply Kd.N_drewN | apply Kd.N_drew)); exact Kd.N_mono HO_5.out (fun _ hk => ⟨⟨hk.1.1.1, ⟨hk.1.2, hk.1.1.2⟩⟩, hk.2⟩)) hg hat); replace BK548 := Aside0.mk (blk_grown (blk_x BK548.out) hg (Kd.R_ne HO554.out BK548.out (by decide))); replace HO560 := Aside0.mk (Kd.R_after (ok := (fun k_ => (w.heap.size ≤ k_))) (by (with_reducible repeat (first | apply Kd.R_alloc | apply Kd.R_drewN | apply Kd.R_drew)); exact Kd.R_mono HO560.out (fun _ hk => ⟨hk.1.1, hk.2⟩)) hg hat); replace HB := Aside0.mk (hb); have HO557 := Aside0.mk (ho); clear HO554 ho hb hg hat; refine hK.out _ _ (bcs_y BK548) (fun hHeld => ?_); clear hK K; refine norm_y (some 26) ?_; exact norm_ (by simp only [putAll, Act.put, put_x]) (hCont (v553, v556, v559) _ ⟨hHeld, (Kd.R_x HO557.out), (Kd.R_x HO560.out), (by (with_reducible repeat (first | apply Kd.V_alloc | apply Kd.V_drewN | apply Kd.V_drew)); exact Kd.V_mono HO_1.out (fun _ hk => ⟨hk.1.1, ⟨hk.2, ⟨hk.1.2.2.1, ⟨hk.1.2.1, hk.1.2.2.2⟩⟩⟩⟩)), (by (with_reducible repeat (first | apply Kd.N_alloc | apply Kd.N_drewN | apply Kd.N_drew)); exact Kd.N_mono HO_5.out (fun _ hk => ⟨hk.1.1, ⟨hk.2, ⟨hk.1.2.1, hk.1.2.2⟩⟩⟩)), (blk_x BK548.out), (by exact below_y HB.out)⟩)
        rintro ⟨v553, v556, v559⟩ w23 ⟨hS_, h0_, h1_, h2_, h3_, h4_, h5_⟩; have n0_ : Aside0 (Kd.R (Kd.int .i64) 3 w23 w.heap.size (fun k_ => (w.heap.size ≤ k_) ∧ some k_ ≠ (v559 : Value).ownBlock) v556 y555) := ⟨h0_⟩; have n1_ : Aside0 (Kd.R (Kd.int .i64) 3 w23 w.heap.size (fun k_ => (w.heap.size ≤ k_) ∧ some k_ ≠ (v556 : Value).ownBlock) v559 y558) := ⟨h1_⟩; have n2_ : Aside0 (Kd.V (Kd.int .i64) 3 w23 w.heap.size (fun k_ => (P1_ k_ ∨ w.heap.size ≤ k_) ∧ some k_ ≠ (v556 : Value).ownBlock ∧ some k_ ≠ (v559 : Value).ownBlock ∧ some k_ ≠ (.slice Ao16 x5_1.length co16 : Value).ownBlock ∧ k_ ≠ gb548) (.slice A1 l1.length c1) l1) := ⟨h2_⟩; have n3_ : Aside0 (Kd.N (Kd.slice 3 (Kd.int .i64)) 27 w23 w.heap.size (fun k_ => (P1_ k_ ∨ w.heap.size ≤ k_) ∧ some k_ ≠ (v556 : Value).ownBlock ∧ some k_ ≠ (v559 : Value).ownBlock ∧ k_ ≠ gb548) (.slice Ao16 x5_1.length co16) x5_1) := ⟨h3_⟩; have n4_ : Aside0 (w23.heap[gb548]? = some (.cells #[.int .i64 a0_0, .int .i64 a0_1, .int .i64 a0_2, .slice A0_3 l0_3.length c0_3, .int .i64 a0_4, .slice A0_5 l0_5.length c0_5, .slice A0_6 l0_6.length c0_6] 26 (0, 0))) := ⟨h4_⟩; have n5_ : Aside0 (Below w.heap.size w w23) := ⟨h5_⟩; clear HO_1 HO_5 BK548 HB h0_ h1_ h2_ h3_ h4_ h5_; have HO557 := n0_; have HO560 := n1_; have HO_1 := n2_; have HO_5 := n3_; have BK548 := n4_; have HB := n5_; clear n0_ n1_ n2_ n3_ n4_ n5_; have hHeld : w23.cell? ⟨gb548, 0, none⟩ = some (.int .i64 a0_0) ∧ w23.cell? ⟨gb548, 1, none⟩ = some (.int .i64 a0_1) ∧ w23.cell? ⟨gb548, 2, none⟩ = some (.int .i64 a0_2) ∧ w23.cell? ⟨gb548, 3, none⟩ = some (.slice A0_3 l0_3.length c0_3) ∧ w23.cell? ⟨gb548, 4, none⟩ = some (.int .i64 a0_4) ∧ w23.cell? ⟨gb548, 5, none⟩ = some (.slice A0_5 l0_5.length c0_5) ∧ w23.cell? ⟨gb548, 6, none⟩ = some (.slice A0_6 l0_6.length c0_6) := hS_; obtain ⟨Ao25, co25, eo25⟩ := Kd.R_slice HO560.out
        (first | subst eo25 | (injection eo25 with f1_ f2_ f3_; have f4_ := f1_.symm; have f5_ := f3_.symm; clear f1_ f2_ f3_; subst f4_; subst f5_))
        refine norm_ (a' := ?_) ?_ ?_; rotate_left
        ·
         simp only [putAll, Act.put, put_x]; rfl
        (refine one_t 7 (some 29) (bz 11 255) HT_ fun K hK => ?_); refine Kd.R_append_rows_step (Kd.int .i64) (w0 := w) w.heap.size (by rfl) (.tmp 26) (.tmp 28) 27 3 (.int .i64 0) 8 rfl Try.underlying27 info3 rfl (by decide) (by omega) v556 y555 y558 _ _ _ (fun k_ => (w.heap.size ≤ k_) ∧ some k_ ≠ (.slice Ao25 y558.length co25 : Value).ownBlock) (fun _ => False) rfl rfl ?aO ?aR (fun _ _ h => h) (fun _ h => h.elim) ?aF ?aB ?aS ?aL ?_
        (case aR => exact Kd.C_y (Kd.R_reads' HO560.out).2.2)
        (case aB => exact (by exact below_y HB.out))
        (case aF => exact (fun k_ hk => ⟨(Nat.le_trans (below_size (by exact below_y HB.out)) hk), Kd.fresh' (Kd.R_lt (Kd.R_x HO560.out)) k_ hk⟩))
        (case aO => exact (Kd.R_x HO557.out))
        (case aS => exact (below_size (by exact below_y HB.out)))
        (case aL => have := LMc12.out; omega)
        intro v562 w24 ho hb hg hat; rw [← Ny561.out] at ho; replace HO_1 := Aside0.mk (Kd.V_afterv (ok := (fun k_ => (P1_ k_ ∨ w.heap.size ≤ k_) ∧ some k_ ≠ (.slice Ao16 x5_1.length co16 : Value).ownBlock ∧ some k_ ≠ (.slice Ao25 y558.length co25 : Value).ownBlock ∧ k_ ≠ gb548)) (by (with_reducible repeat (first | apply Kd.V_alloc | apply Kd.V_drewN | apply Kd.V_drew)); exact Kd.V_mono HO_1.out (fun _ hk => ⟨⟨hk.1, ⟨hk.2.2.2.1, ⟨hk.2.2.1, hk.2.2.2.2⟩⟩⟩, hk.2.1⟩)) hg hat); replace HO_5 := Aside0.mk (Kd.N_afterv (ok := (fun k_ => (P1_ k_ ∨ w.heap.size ≤ k_) ∧ some k_ ≠ (.slice Ao25 y558.length co25 : Value).ownBlock ∧ k_ ≠ gb548)) (by (with_reducible repeat (first | apply Kd.N_alloc | apply Kd.N_drewN | apply Kd.N_drew)); exact Kd.N_mono HO_5.out (fun _ hk => ⟨⟨hk.1, ⟨hk.2.2.1, hk.2.2.2⟩⟩, hk.2.1⟩)) hg hat); replace BK548 := Aside0.mk (blk_grown (blk_x BK548.out) hg (Kd.R_ne HO557.out BK548.out (by decide))); replace HO560 := Aside0.mk (Kd.R_after (ok := (fun k_ => (w.heap.size ≤ k_))) (Kd.R_x HO560.out) hg hat); replace HB := Aside0.mk (hb); have HO563 := Aside0.mk (ho); clear HO557 ho hb hg hat; obtain ⟨Ao26, co26, eo26⟩ := Kd.R_slice HO563.out
        (first | subst eo26 | (injection eo26 with f1_ f2_ f3_; have f4_ := f1_.symm; have f5_ := f3_.symm; clear f1_ f2_ f3_; subst f4_; subst f5_))
        refine hK.out _ _ (bcs_y BK548) (fun hHeld => ?_); clear hK K; refine norm_y (some 29) ?_; (refine one_t 8 (some 30) (bz 11 511) HT_ fun K hK => ?_); refine goes_x Try.func50 #[.agg #[.int .i64 a0_0, .int .i64 a0_1, .int .i64 a0_2, .slice A0_3 l0_3.length c0_3, .int .i64 a0_4, .slice A0_5 l0_5.length c0_5, .slice A0_6 l0_6.length c0_6], .slice Ao26 y561.length co26] ?_
        with_reducible refine (ih k1 (by have := HK1.out; omega) a0_0 a0_1 a0_2 _ _ l0_3 a0_4 _ _ l0_5 _ _ l0_6 (fun k_ => some k_ = (.slice Ao26 y561.length co26 : Value).ownBlock) _ _ y561 t564 _ ?side1 ?side2 ?side3 ?side4 ?side5 ?side6 ?side7 A13.out).mono ?_
        (case side1 => exact Kd.C_x HR0_3.out HB.out)
        (case side2 => exact HC0_3.out)
        (case side3 => exact Kd.C_x HR0_5.out HB.out)
        (case side4 => exact HC0_5.out)
        (case side5 => exact Kd.C_x HR0_6.out HB.out)
        (case side6 => exact HC0_6.out)
        (case side7 => exact Kd.R_V (Kd.R_tight rfl (Kd.R_types (Kd.R_apart' (HO563.out) (Kd.N_typed HO_5.out) (by decide)) BK548.out (by decide))))
        rintro e w27 ⟨v565, rfl, ho0, hb⟩; refine ⟨_, rfl, ?_⟩; replace HO_1 := Aside0.mk (Kd.V_elder' (Kd.V_x HO_1.out) (Kd.N_base ho0) hb); have HO566 := Aside0.mk (Kd.N_lower (Kd.N_mono (ok' := fun k_ => (P1_ k_ ∨ w.heap.size ≤ k_) ∧ some k_ ≠ (.slice Ao16 x5_1.length co16 : Value).ownBlock ∧ some k_ ≠ (.slice Ao25 y558.length co25 : Value).ownBlock ∧ k_ ≠ gb548) ho0 (fun k_ hk_ => ⟨Or.elim hk_ (fun hs_ => (.inr (((Kd.R_types (Kd.R_apart' (HO563.out) (Kd.N_typed HO_5.out) (by decide)) BK548.out (by decide)).1 k_ hs_.symm).1.1.1))) (fun hn_ => (.inr (Nat.le_trans (below_size (by exact below_y HB.out)) hn_))), Or.elim hk_ (fun hs_ => ((Kd.R_types (Kd.R_apart' (HO563.out) (Kd.N_typed HO_5.out) (by decide)) BK548.out (by decide)).1 k_ hs_.symm).1.2) (fun hn_ => (Kd.fresh' (Kd.N_lt (Kd.N_x HO_5.out)) k_ hn_)), Or.elim hk_ (fun hs_ => ((Kd.R_types (Kd.R_apart' (HO563.out) (Kd.N_typed HO_5.out) (by decide)) BK548.out (by decide)).1 k_ hs_.symm).1.1.2) (fun hn_ => (Kd.fresh' (Kd.R_lt (Kd.R_x HO560.out)) k_ hn_)), Or.elim hk_ (fun hs_ => ((Kd.R_types (Kd.R_apart' (HO563.out) (Kd.N_typed HO_5.out) (by decide)) BK548.out (by decide)).1 k_ hs_.symm).2) (fun hn_ => (Kd.freshB (g := gb548) (o := .cells #[.int .i64 a0_0, .int .i64 a0_1, .int .i64 a0_2, .slice A0_3 l0_3.length c0_3, .int .i64 a0_4, .slice A0_5 l0_5.length c0_5, .slice A0_6 l0_6.length c0_6] 26 (0, 0)) (blk_x BK548.out) k_ hn_))⟩)) (below_size (by exact below_y HB.out))); replace HO_5 := Aside0.mk (Kd.N_elder' (Kd.N_x HO_5.out) (Kd.N_base ho0) hb); replace HO560 := Aside0.mk (Kd.R_below (Kd.R_x HO560.out) hb); replace HO563 := Aside0.mk (Kd.R_below (Kd.R_x HO563.out) hb); replace BK548 := bk_x BK548 hb; replace HB := bl_x HB hb
        (try clear hb)
        (try clear hb2)
        (try clear hk)
        (try clear hi)
        (try clear ho0)
        obtain ⟨Ao29, co29, eo29⟩ := Kd.N_slice HO566.out
        (first | subst eo29 | (injection eo29 with f1_ f2_ f3_; have f4_ := f1_.symm; have f5_ := f3_.symm; clear f1_ f2_ f3_; subst f4_; subst f5_))
        refine hK.out _ _ (bcs_y BK548) (fun hHeld => ?_); clear hK K; refine norm_y (some 30) ?_; (refine one_t 9 (some 31) (bz 11 1023) HT_ fun K hK => ?_); refine Kd.N_append_rows_step (Kd.slice 3 (Kd.int .i64)) (w0 := w) w.heap.size (by rfl) (.tmp 22) (.tmp 30) 36 27 (.slice none 0 0) 24 rfl Try.underlying36 info27 rfl (by decide) (by omega) (.slice Ao16 x5_1.length co16) x5_1 t564 _ _ _ (fun k_ => (P1_ k_ ∨ w.heap.size ≤ k_) ∧ some k_ ≠ (.slice Ao25 y558.length co25 : Value).ownBlock ∧ k_ ≠ gb548) (fun k_ => ((fun k_ => (P1_ k_ ∨ w.heap.size ≤ k_) ∧ some k_ ≠ (.slice Ao25 y558.length co25 : Value).ownBlock ∧ k_ ≠ gb548)) k_ ∧ some k_ ≠ (.slice Ao16 x5_1.length co16 : Value).ownBlock) rfl rfl ?aO ?aR (fun _ hk => hk) ?aF ?aB ?aS ?aL ?_
        (case aR => exact (by skip; exact Kd.N_F (Kd.N_mono (ok' := (fun k_ => ((fun k_ => (P1_ k_ ∨ w.heap.size ≤ k_) ∧ some k_ ≠ (.slice Ao25 y558.length co25 : Value).ownBlock ∧ k_ ≠ gb548)) k_ ∧ some k_ ≠ (.slice Ao16 x5_1.length co16 : Value).ownBlock)) (HO566.out) (fun k_ hk => ⟨⟨hk.1, ⟨hk.2.2.1, hk.2.2.2⟩⟩, hk.2.1⟩))))
        (case aB => exact (by exact below_y HB.out))
        (case aF => exact (fun k_ hk => ⟨(.inr (Nat.le_trans (below_size (by exact below_y HB.out)) hk)), Kd.fresh' (Kd.R_lt (Kd.R_x HO560.out)) k_ hk, Kd.freshB (g := gb548) (o := .cells #[.int .i64 a0_0, .int .i64 a0_1, .int .i64 a0_2, .slice A0_3 l0_3.length c0_3, .int .i64 a0_4, .slice A0_5 l0_5.length c0_5, .slice A0_6 l0_6.length c0_6] 26 (0, 0)) (blk_x BK548.out) k_ hk⟩))
        (case aO => exact (by (with_reducible repeat (first | apply Kd.N_alloc | apply Kd.N_drewN | apply Kd.N_drew)); exact Kd.N_mono HO_5.out (fun _ hk => ⟨hk.1.1.1, ⟨hk.1.1.2.1, hk.1.1.2.2⟩⟩)))
        (case aS => exact (below_size (by exact below_y HB.out)))
        (case aL => have := LMc14.out; omega)
        intro v568 w28 ho hb hg hat; rw [← Ny567.out] at ho; replace HO_1 := Aside0.mk (Kd.V_afterv (ok := (fun k_ => (P1_ k_ ∨ w.heap.size ≤ k_) ∧ some k_ ≠ (.slice Ao25 y558.length co25 : Value).ownBlock ∧ some k_ ≠ (.slice Ao26 y561.length co26 : Value).ownBlock ∧ some k_ ≠ (.slice Ao29 t564.length co29 : Value).ownBlock ∧ k_ ≠ gb548)) (by (with_reducible repeat (first | apply Kd.V_alloc | apply Kd.V_drewN | apply Kd.V_drew)); exact Kd.V_mono HO_1.out (fun _ hk => ⟨⟨hk.1.1.1, ⟨hk.1.1.2.2.1, ⟨hk.1.2, ⟨hk.2, hk.1.1.2.2.2⟩⟩⟩⟩, hk.1.1.2.1⟩)) hg hat); replace BK548 := Aside0.mk (blk_grown (blk_x BK548.out) hg (Kd.N_ne HO_5.out BK548.out (by decide))); replace HO560 := Aside0.mk (Kd.R_over' (Kd.R_x HO560.out) (Kd.N_typed (Kd.N_x HO_5.out)) (by decide) hg); replace HO563 := Aside0.mk (Kd.R_over' (Kd.R_x HO563.out) (Kd.N_typed (Kd.N_x HO_5.out)) (by decide) hg); replace HO566 := Aside0.mk (Kd.N_afterv (ok := (fun k_ => (P1_ k_ ∨ w.heap.size ≤ k_) ∧ some k_ ≠ (.slice Ao25 y558.length co25 : Value).ownBlock ∧ k_ ≠ gb548)) (by (with_reducible repeat (first | apply Kd.N_alloc | apply Kd.N_drewN | apply Kd.N_drew)); exact Kd.N_mono HO566.out (fun _ hk => ⟨⟨hk.1, ⟨hk.2.2.1, hk.2.2.2⟩⟩, hk.2.1⟩)) hg hat); replace HB := Aside0.mk (hb); have HO569 := Aside0.mk (ho); clear HO_5 ho hb hg hat; refine hK.out _ _ (bcs_y BK548) (fun hHeld => ?_); clear hK K; refine norm_y (some 31) ?_; refine pure_t 10 (some 5) (bz 11 2047) HT_ ?_; refine done_ (done_of HT_.out (by kernel_rfl)) ?_
        try go_wp2
        go_roundg k1
        case measure => have := HK1.out; omega
        case rel => exact ⟨(y567), (wrap64 (x6_1 + 1)), (by first | rfl | (simp; done) | (simp [*]; done)), H', ⟨by have := HK1.out; omega⟩, ⟨by (with_reducible repeat (first | apply Kd.V_alloc | apply Kd.V_drewN | apply Kd.V_drew)); exact Kd.V_mono HO_1.out (fun _ hk => ⟨hk.1.1, ⟨hk.2, hk.1.2.2.2.2⟩⟩)⟩, ⟨by (with_reducible repeat (first | apply Kd.N_alloc | apply Kd.N_drewN | apply Kd.N_drew)); exact Kd.N_mono HO569.out (fun _ hk => ⟨hk.1, hk.2.2⟩)⟩, ⟨blk_x BK548.out⟩, ⟨by exact below_y HB.out⟩⟩
       ·
        rw [if_neg c14] at H; exact absurd H (by simp)
      ·
       rw [if_neg c12] at H; exact absurd H (by simp)
     ·
      rw [if_neg c11] at H; exact absurd H (by simp)
    ·
     rw [if_neg c10] at H; have c10b0 : decide (x6_1 < (l0_3.length : Int)) = false := decide_eq_false c10; clear c10; obtain rfl := Option.some.inj H; obtain ⟨hfz30_0, _, _, _, _, _, _, _⟩ := cf7 BK548; go_wp2; go_ret; exact ⟨_, by first | rfl | (simp [errW_none, errW_some] <;> rfl) | (simp [*, errW_none, errW_some] <;> rfl), by (with_reducible repeat (first | apply Kd.N_alloc | apply Kd.N_drewN | apply Kd.N_drew)); exact Kd.N_mono HO_5.out (fun _ hk => hk.1), by exact below_y HB.out⟩
end Go.Proofs.Ytodmemndaaiolaa.PC7
namespace Go.Proofs.Ytodmemndaaiolaa.PC7
set_option linter.unusedVariables false
set_option linter.unusedSimpArgs false
open Go.RowKit Go.Proofs.YtodmemndaaiolaaW.PrintWords Go.Proofs.YtodmemndaaiolaaW.PrintLast Go.Proofs.YtodmemndaaiolaaW.PrintMore
def ldS (h : S85) (t : S56) (q : Q4) : Q4 := ⟨q.b0 + t.f0 * h.f1, q.b1 + t.f0 * h.f2, q.h0 + t.f1 * h.f1, q.h1 + t.f1 * h.f2⟩
def ldL (holds : List S85) (lots : List S79) : Nat → List Int → Q4 → Q4
  | _, [], q => q
  | i, a :: r, q => ldL holds lots (i + 1) r (if a < 0 then q else ldS (holds.getD a.toNat z85) (lots.getD i z79).f0 q)
def apS (h : S85) (t : S56) (x : Int × Int) : Int × Int := (x.1 + min (t.f0 * (h.f1 - h.f2)) (t.f1 * (h.f1 - h.f2)), x.2 + max (t.f0 * (h.f1 - h.f2)) (t.f1 * (h.f1 - h.f2)))
def apL (holds : List S85) (lots : List S79) : Nat → List Int → Int × Int → Int × Int
  | _, [], x => x
  | i, a :: r, x => apL holds lots (i + 1) r (if a < 0 then x else apS (holds.getD a.toNat z85) (lots.getD i z79).f0 x)
def q0 (L : Int) : Q4 := ⟨1000 * L, 1000 * L, 1000 * L, 1000 * L⟩
theorem mn_min (a b : Int) : mn a b = min a b := by
  unfold mn
  by_cases h : b < a
  · rw [if_pos h]; omega
  · rw [if_neg h]; omega
theorem mul_bd2 {a b A B : Int} (h0 : 0 ≤ a) (h1 : a ≤ A) (h2 : -B ≤ b) (h3 : b ≤ B) (hB : 0 ≤ B) : -(A * B) ≤ a * b ∧ a * b ≤ A * B := by
  have k1 := Int.mul_le_mul_of_nonneg_left h3 h0
  have k2 := Int.mul_le_mul_of_nonneg_left h2 h0
  have k3 := Int.mul_le_mul_of_nonneg_right h1 hB
  rw [Int.mul_neg] at k2
  exact ⟨by omega, by omega⟩
def roomOK (holds : List S85) (lots : List S79) (s : List Int) : Prop := ∀ h : Nat, h < holds.length → used lots h 0 s ≤ (holds.getD h z85).f0
def wayL (U V : Int) (sills : List S59) (q : Q4) (soon : Bool) : List Int := sailL (sills.map (plainS soon)) V (max (if soon then q.b0 else q.h0) (if soon then q.b1 else q.h1) + 1000 * U)
structure Told (L U R : Int) (holds : List S85) (V : Int) (sills : List S59) (lots : List S79) (s : List Int) (q : Q4) (x : Int × Int) : Prop where
  qe : q = ldL holds lots 0 s (q0 L)
  xe : x = apL holds lots 0 s (0, 0)
  qok : QOK 10000000000 q
  xok : -1500000000 ≤ x.1 ∧ x.1 ≤ x.2 ∧ x.2 ≤ 1500000000
  le : (wayL U V sills q false).length ≤ (wayL U V sills q true).length
  top : (wayL U V sills q true).length ≤ sills.length
  good : goodB L U R holds V sills lots s = true ↔ (roomOK holds lots s ∧ max x.2 (-x.1) ≤ 1000 * R ∧ (wayL U V sills q false).length = sills.length)
  drafts : roomOK holds lots s → ship_Drafts.f L U R holds V sills lots s = some (q.b0, q.h0, q.b1, q.h1, 0)
  level : roomOK holds lots s → Ev (fun k => ship_Level.f k L U R holds V sills lots s) (decide (max x.2 (-x.1) ≤ 1000 * R), x.1, x.2, 0)
  sail : roomOK holds lots s → ship_Sail.f L U R holds V sills lots s = some (verdictE sills.length (wayL U V sills q true) (wayL U V sills q false), overE (wayL U V sills q true) (wayL U V sills q false), 0)
end Go.Proofs.Ytodmemndaaiolaa.PC7
namespace Go.Proofs.Ytodmemndaaiolaa.PC7
open Go.RowKit Go.Proofs.YtodmemndaaiolaaW.PrintWords Go.Proofs.YtodmemndaaiolaaW.PrintLast Go.Proofs.YtodmemndaaiolaaW.PrintMore
attribute [local go_sem] max2_int min2_int max_two min_two max_three min_three max_four min_four
set_option linter.unusedVariables false
set_option linter.unusedSimpArgs false
def swarfref07_level.l0 : Nat → List Int → Int → Int → Int → Int → List (S85) → Int → List (S59) → List (S79) → Int → Int → Option (Bool × Int × Int)
 | 0, _, _, _, _, _, _, _, _, _, _, _ => none
 | k + 1, x1, x7, x574000, x574001, x574002, x574003, x574004, x574005, x574006, x576000, x576001 => if x7 < (x1.length : Int) then (if 0 ≤ x7 then (if (rd x1 x7) < 0 then (swarfref07_level.l0 k x1 (wrap64 (x7 + 1)) x574000 x574001 x574002 x574003 x574004 x574005 x574006 x576000 x576001) else (if 0 ≤ (rd x1 x7) then (if (rd x1 x7) < (x574003.length : Int) then (if x7 < (x574006.length : Int) then (swarfref07_level.l0 k x1 (wrap64 (x7 + 1)) x574000 x574001 x574002 x574003 x574004 x574005 x574006 (wrap64 (x576000 + (mn (wrap64 ((wrap64 (((rd_T85 x574003 (rd x1 x7)).f1) - ((rd_T85 x574003 (rd x1 x7)).f2))) * ((rd_T79 x574006 x7).f0.f0))) (wrap64 ((wrap64 (((rd_T85 x574003 (rd x1 x7)).f1) - ((rd_T85 x574003 (rd x1 x7)).f2))) * ((rd_T79 x574006 x7).f0.f1)))))) (wrap64 (x576001 + (mx (wrap64 ((wrap64 (((rd_T85 x574003 (rd x1 x7)).f1) - ((rd_T85 x574003 (rd x1 x7)).f2))) * ((rd_T79 x574006 x7).f0.f0))) (wrap64 ((wrap64 (((rd_T85 x574003 (rd x1 x7)).f1) - ((rd_T85 x574003 (rd x1 x7)).f2))) * ((rd_T79 x574006 x7).f0.f1))))))) else (none)) else (none)) else (none))) else (none)) else (if x576000 ≥ (wrap64 ((-1000) * x574002)) then (some (decide (x576001 ≤ (wrap64 (1000 * x574002))), x576000, x576001)) else (some (false, x576000, x576001)))
def swarfref07_level.f (k : Nat) (a0_0 : Int) (a0_1 : Int) (a0_2 : Int) (l0_3 : List (S85)) (a0_4 : Int) (l0_5 : List (S59)) (l0_6 : List (S79)) (l1 : List Int) : Option (Bool × Int × Int) := swarfref07_level.l0 k l1 0 a0_0 a0_1 a0_2 l0_3 a0_4 l0_5 l0_6 0 0
def swarfref07_level.T6 : Bool × List (List Nat × List Nat) := (true, [([], []), ([0], [0]), ([], []), ([], []), ([2, 3], [2, 3]), ([4], [4]), ([1, 5], [1, 5]), ([6], [6]), ([7], [7]), ([], []), ([9], [9]), ([], []), ([], []), ([11, 12], [11, 12]), ([13], [13]), ([10, 14], [10, 14]), ([15], [15]), ([16], [16]), ([8, 17], [8, 17]), ([18, 0, 1, 2, 3, 4, 5, 6, 7, 8, 9, 10, 11, 12, 13, 14, 15, 16, 17, 18], [18])])
def swarfref07_level.B6 : List Nat := [0, 1, 0, 0, 12, 28, 63, 127, 255, 0, 512, 0, 0, 6144, 14336, 32256, 65024, 130560, 262143, 524287]
theorem swarfref07_level.tab6 : rtab .any (opsOf Try.f71 6) = swarfref07_level.T6 := by kernel_rfl
theorem swarfref07_level.bits6 : waitsOk swarfref07_level.T6.2 swarfref07_level.B6 = true := by kernel_rfl
def swarfref07_level.T7 : Bool × List (List Nat × List Nat) := (true, [([], []), ([], []), ([1], [1]), ([], []), ([2, 3], [2, 3]), ([4], [4]), ([5], [5]), ([6], [6]), ([0, 7], [0, 7]), ([], []), ([], []), ([10], [10]), ([], []), ([11, 12], [11, 12]), ([13], [13]), ([14], [14]), ([15], [15]), ([9, 16], [9, 16]), ([8, 0, 1, 2, 3, 4, 5, 6, 7, 8], [8]), ([17, 18, 0, 1, 2, 3, 4, 5, 6, 7, 8, 9, 10, 11, 12, 13, 14, 15, 16, 17, 18], [17])])
def swarfref07_level.B7 : List Nat := [0, 0, 2, 0, 14, 30, 62, 126, 255, 0, 0, 1024, 0, 7168, 15360, 31744, 64512, 130560, 511, 524287]
theorem swarfref07_level.tab7 : rtab .any (opsOf Try.f71 7) = swarfref07_level.T7 := by kernel_rfl
theorem swarfref07_level.bits7 : waitsOk swarfref07_level.T7.2 swarfref07_level.B7 = true := by kernel_rfl
def swarfref07_level.T9 : Bool × List (List Nat × List Nat) := (true, [([], []), ([0], [0]), ([], []), ([2], [2]), ([3], [3]), ([1, 4], [1, 4]), ([5], [5]), ([6], [6]), ([7, 6], [6, 7]), ([6], [6]), ([9, 6], [6, 9]), ([10, 6], [6, 10]), ([8, 11, 6], [6, 8, 11]), ([6, 12], [6, 12]), ([], []), ([13, 6, 0, 1, 2, 3, 4, 5, 6, 7, 8, 9, 10, 11, 12, 13], [13]), ([14, 15, 0, 1, 2, 3, 4, 5, 6, 7, 8, 9, 10, 11, 12, 13, 14, 15], [14])])
def swarfref07_level.B9 : List Nat := [0, 1, 0, 4, 12, 31, 63, 127, 255, 127, 639, 1663, 4095, 8191, 0, 16383, 65535]
theorem swarfref07_level.tab9 : rtab .any (opsOf Try.f71 9) = swarfref07_level.T9 := by kernel_rfl
theorem swarfref07_level.bits9 : waitsOk swarfref07_level.T9.2 swarfref07_level.B9 = true := by kernel_rfl
set_option maxHeartbeats 8000000 in
set_option maxRecDepth 100000 in
theorem swarfref07_level.calls (k : Nat) (a0_0 : Int) (a0_1 : Int) (a0_2 : Int) (A0_3 : Option Addr) (c0_3 : Nat) (l0_3 : List (S85)) (a0_4 : Int) (A0_5 : Option Addr) (c0_5 : Nat) (l0_5 : List (S59)) (A0_6 : Option Addr) (c0_6 : Nat) (l0_6 : List (S79)) (A1 : Option Addr) (c1 : Nat) (l1 : List Int) (r1 : Bool) (r2 : Int) (r3 : Int) (w : World) (hr0_3 : Kd.C k85 w A0_3 l0_3.length l0_3) (hc0_3 : l0_3.length ≤ c0_3) (hr0_5 : Kd.C k59 w A0_5 l0_5.length l0_5) (hc0_5 : l0_5.length ≤ c0_5) (hr0_6 : Kd.C k79 w A0_6 l0_6.length l0_6) (hc0_6 : l0_6.length ≤ c0_6) (hr1 : Kd.C (Kd.int .i64) w A1 l1.length l1) (hc1 : l1.length ≤ c1) (h : swarfref07_level.f k a0_0 a0_1 a0_2 l0_3 a0_4 l0_5 l0_6 l1 = some (r1, r2, r3)) :
  Calls Try.prog 71 #[.agg #[.int .i64 a0_0, .int .i64 a0_1, .int .i64 a0_2, .slice A0_3 l0_3.length c0_3, .int .i64 a0_4, .slice A0_5 l0_5.length c0_5, .slice A0_6 l0_6.length c0_6], .slice A1 l1.length c1] w fun e w' => e = .returned (.tuple #[.bool r1, .agg #[.int .i64 r2, .int .i64 r3]]) ∧ Below w.heap.size w w' := by
 have hu26 := Try.underlying26
 have hu56 := Try.underlying56
 have HR0_3 := Aside0.mk hr0_3
 have HC0_3 := Aside0.mk hc0_3
 clear hr0_3 hc0_3
 have HR0_5 := Aside0.mk hr0_5
 have HC0_5 := Aside0.mk hc0_5
 clear hr0_5 hc0_5
 have HR0_6 := Aside0.mk hr0_6
 have HC0_6 := Aside0.mk hc0_6
 clear hr0_6 hc0_6
 have HR1 := Aside0.mk hr1
 have HC1 := Aside0.mk hc1
 clear hr1 hc1
 have HB := Aside0.mk (Below.refl w.heap.size w)
 have H : (swarfref07_level.l0 k l1 0 a0_0 a0_1 a0_2 l0_3 a0_4 l0_5 l0_6 0 0) = some (r1, r2, r3) := h
 clear h
 have H' := Aside0.mk H
 clear H
 go_enter Try.func71, Try.ntmps71
 go_wp2_with (first | (refine box_r (N := 2) rfl (cs := #[.int .i64 a0_0, .int .i64 a0_1, .int .i64 a0_2, .slice A0_3 l0_3.length c0_3, .int .i64 a0_4, .slice A0_5 l0_5.length c0_5, .slice A0_6 l0_6.length c0_6]) (t := 26) ?_; intro gb573 hg w3 hbox hb; have BK573 := Aside0.mk (hbox); have GW573 := gw_x hg HB; have GE573 := GW573; replace HB := Aside0.mk (below_step (below_x HB.out) hb); clear hb hbox hg) | (refine box_r (N := 5) rfl (cs := #[.int .i64 0, .int .i64 0]) (t := 56) ?_; intro gb574 hg w4 hbox hb; have BK574 := Aside0.mk (hbox); have GW574 := gw_x hg HB; have GE574 := GW574; replace HB := bl_x HB hb; have NB573_574 := nb_x hg BK573; have NB574_573 := nb_y hg BK573; replace BK573 := bk_x BK573 hb; clear hb hbox hg) | (refine box_r (N := 6) rfl (cs := #[.int .i64 0, .int .i64 0]) (t := 56) ?_; intro gb575 hg w5 hbox hb; have BK575 := Aside0.mk (hbox); have GW575 := gw_x hg HB; have GE575 := GW575; replace HB := bl_x HB hb; have NB573_575 := nb_x hg BK573; have NB575_573 := nb_y hg BK573; replace BK573 := bk_x BK573 hb; have NB574_575 := nb_x hg BK574; have NB575_574 := nb_y hg BK574; replace BK574 := bk_x BK574 hb; clear hb hbox hg))
 go_loopg [7] k (fun kq v7 w' => ∃ (x7_1 : Int) (x576000_1 : Int) (x576001_1 : Int), v7 = .int .i64 x7_1 ∧ Aside0 (swarfref07_level.l0 kq l1 x7_1 a0_0 a0_1 a0_2 l0_3 a0_4 l0_5 l0_6 x576000_1 x576001_1 = some (r1, r2, r3)) ∧ Aside0 (kq ≤ k) ∧ Aside0 (w'.heap[gb573]? = some (.cells #[.int .i64 a0_0, .int .i64 a0_1, .int .i64 a0_2, (.slice A0_3 l0_3.length c0_3), .int .i64 a0_4, (.slice A0_5 l0_5.length c0_5), (.slice A0_6 l0_6.length c0_6)] 26 (0, 0))) ∧ Aside0 (w'.heap[gb574]? = some (.cells #[.int .i64 0, .int .i64 0] 56 (0, 0))) ∧ Aside0 (w'.heap[gb575]? = some (.cells #[.int .i64 x576000_1, .int .i64 x576001_1] 56 (0, 0))) ∧ Aside0 (Below w.heap.size w w'))
 case atStart => exact ⟨(0), (0), (0), (by first | rfl | (simp; done) | (simp [*]; done)), H', ⟨Nat.le_refl _⟩, ⟨blk_x BK573.out⟩, ⟨blk_x BK574.out⟩, ⟨blk_x BK575.out⟩, ⟨by exact below_y HB.out⟩⟩
 case round =>
  clear H'; obtain ⟨x7_1, x576000_1, x576001_1, rfl, HA, HK1, BK573, BK574, BK575, HB⟩ := hrel; cases gk with
  | zero => exact absurd HA.out (by simp [swarfref07_level.l0])
  | succ k1 =>
   have H := HA.out; clear HA; simp only [swarfref07_level.l0] at H; by_cases c6 : x7_1 < (l1.length : Int)
   ·
    rw [if_pos c6] at H; have c6b0 : decide (x7_1 < (l1.length : Int)) = true := decide_eq_true c6; clear c6; by_cases c7 : 0 ≤ x7_1
    ·
     rw [if_pos c7] at H; have c7b0 : decide (0 ≤ x7_1) = true := decide_eq_true c7; clear c7; by_cases c8 : (rd l1 x7_1) < 0
     ·
      rw [if_pos c8] at H; have c8b0 : decide ((rd l1 x7_1) < 0) = true := decide_eq_true c8; clear c8; have H' := Aside0.mk H; clear H; have p576 : 0 ≤ (x7_1 : Int) := of_x; have q576 : x7_1 < (l1.length : Int) := of_x; obtain ⟨ad576, e576, hx576_0⟩ := Kd.at_int HR1.out x7_1 p576 q576; (cases e576); replace hx576_0 := cell_x HB hx576_0; replace p576 := eq_true p576; replace q576 := eq_true q576; go_wp2; go_roundg k1
      case measure => have := HK1.out; omega
      case rel => exact ⟨(wrap64 (x7_1 + 1)), (x576000_1), (x576001_1), (by first | rfl | (simp; done) | (simp [*]; done)), H', ⟨by have := HK1.out; omega⟩, ⟨blk_x BK573.out⟩, ⟨blk_x BK574.out⟩, ⟨blk_x BK575.out⟩, ⟨by exact below_y HB.out⟩⟩
     ·
      rw [if_neg c8] at H; have c8b0 : decide ((rd l1 x7_1) < 0) = false := decide_eq_false c8; clear c8; by_cases c9 : 0 ≤ (rd l1 x7_1)
      ·
       rw [if_pos c9] at H; have c9b0 : decide (0 ≤ (rd l1 x7_1)) = true := decide_eq_true c9; clear c9; by_cases c10 : (rd l1 x7_1) < (l0_3.length : Int)
       ·
        rw [if_pos c10] at H; have c10b0 : decide ((rd l1 x7_1) < (l0_3.length : Int)) = true := decide_eq_true c10; clear c10; by_cases c11 : x7_1 < (l0_6.length : Int)
        ·
         rw [if_pos c11] at H; have c11b0 : decide (x7_1 < (l0_6.length : Int)) = true := decide_eq_true c11; clear c11; obtain ⟨ji12, hji12⟩ : ∃ j_ : Int, (mn (wrap64 ((wrap64 (((rd_T85 l0_3 (rd l1 x7_1)).f1) - ((rd_T85 l0_3 (rd l1 x7_1)).f2))) * ((rd_T79 l0_6 x7_1).f0.f0))) (wrap64 ((wrap64 (((rd_T85 l0_3 (rd l1 x7_1)).f1) - ((rd_T85 l0_3 (rd l1 x7_1)).f2))) * ((rd_T79 l0_6 x7_1).f0.f1)))) = j_ := ⟨_, rfl⟩; (replace H : (swarfref07_level.l0 k1 l1 (wrap64 (x7_1 + 1)) a0_0 a0_1 a0_2 l0_3 a0_4 l0_5 l0_6 (wrap64 (x576000_1 + (ji12))) (wrap64 (x576001_1 + (mx (wrap64 ((wrap64 (((rd_T85 l0_3 (rd l1 x7_1)).f1) - ((rd_T85 l0_3 (rd l1 x7_1)).f2))) * ((rd_T79 l0_6 x7_1).f0.f0))) (wrap64 ((wrap64 (((rd_T85 l0_3 (rd l1 x7_1)).f1) - ((rd_T85 l0_3 (rd l1 x7_1)).f2))) * ((rd_T79 l0_6 x7_1).f0.f1))))))) = some (r1, r2, r3) := by first | (rw [hji12] at H; exact H) | (simp only [hji12] at H ⊢; exact H)); have hji12_ : (if (wrap64 ((wrap64 (((rd_T85 l0_3 (rd l1 x7_1)).f1) - ((rd_T85 l0_3 (rd l1 x7_1)).f2))) * ((rd_T79 l0_6 x7_1).f0.f1))) < (wrap64 ((wrap64 (((rd_T85 l0_3 (rd l1 x7_1)).f1) - ((rd_T85 l0_3 (rd l1 x7_1)).f2))) * ((rd_T79 l0_6 x7_1).f0.f0))) then (wrap64 ((wrap64 (((rd_T85 l0_3 (rd l1 x7_1)).f1) - ((rd_T85 l0_3 (rd l1 x7_1)).f2))) * ((rd_T79 l0_6 x7_1).f0.f1))) else (wrap64 ((wrap64 (((rd_T85 l0_3 (rd l1 x7_1)).f1) - ((rd_T85 l0_3 (rd l1 x7_1)).f2))) * ((rd_T79 l0_6 x7_1).f0.f0)))) = ji12 := hji12; obtain ⟨ji13, hji13⟩ : ∃ j_ : Int, (mx (wrap64 ((wrap64 (((rd_T85 l0_3 (rd l1 x7_1)).f1) - ((rd_T85 l0_3 (rd l1 x7_1)).f2))) * ((rd_T79 l0_6 x7_1).f0.f0))) (wrap64 ((wrap64 (((rd_T85 l0_3 (rd l1 x7_1)).f1) - ((rd_T85 l0_3 (rd l1 x7_1)).f2))) * ((rd_T79 l0_6 x7_1).f0.f1)))) = j_ := ⟨_, rfl⟩; (replace H : (swarfref07_level.l0 k1 l1 (wrap64 (x7_1 + 1)) a0_0 a0_1 a0_2 l0_3 a0_4 l0_5 l0_6 (wrap64 (x576000_1 + (ji12))) (wrap64 (x576001_1 + (ji13)))) = some (r1, r2, r3) := by first | (rw [hji13] at H; exact H) | (simp only [hji13] at H ⊢; exact H)); have hji13_ : (if (wrap64 ((wrap64 (((rd_T85 l0_3 (rd l1 x7_1)).f1) - ((rd_T85 l0_3 (rd l1 x7_1)).f2))) * ((rd_T79 l0_6 x7_1).f0.f0))) < (wrap64 ((wrap64 (((rd_T85 l0_3 (rd l1 x7_1)).f1) - ((rd_T85 l0_3 (rd l1 x7_1)).f2))) * ((rd_T79 l0_6 x7_1).f0.f1))) then (wrap64 ((wrap64 (((rd_T85 l0_3 (rd l1 x7_1)).f1) - ((rd_T85 l0_3 (rd l1 x7_1)).f2))) * ((rd_T79 l0_6 x7_1).f0.f1))) else (wrap64 ((wrap64 (((rd_T85 l0_3 (rd l1 x7_1)).f1) - ((rd_T85 l0_3 (rd l1 x7_1)).f2))) * ((rd_T79 l0_6 x7_1).f0.f0)))) = ji13 := hji13; have H' := Aside0.mk H; clear H; have p576 : 0 ≤ (x7_1 : Int) := of_x; have q576 : x7_1 < (l1.length : Int) := of_x; obtain ⟨ad576, e576, hx576_0⟩ := Kd.at_int HR1.out x7_1 p576 q576; (cases e576); replace hx576_0 := cell_x HB hx576_0; replace p576 := eq_true p576; replace q576 := eq_true q576
         try go_wp2
         replace BK573 := Aside0.mk (blk_drew BK573.out); replace BK574 := Aside0.mk (blk_drew BK574.out); replace BK575 := Aside0.mk (blk_drew BK575.out); replace HB := Aside0.mk (below_drew1 HB.out); have p577 : 0 ≤ (x7_1 : Int) := of_x; have q577 : x7_1 < (l1.length : Int) := of_x; obtain ⟨ad577, e577, hx577_0⟩ := Kd.at_int HR1.out x7_1 p577 q577; have hw577_0 := hx577_0; obtain rfl : ad576 = ad577 := (by injection e577); replace hx577_0 := cell_x HB hx577_0; replace p577 := eq_true p577; replace q577 := eq_true q577; have p578 : 0 ≤ ((rd l1 x7_1) : Int) := of_x; have q578 : (rd l1 x7_1) < (l0_3.length : Int) := of_x; obtain ⟨ad578, e578, hx578_0, hx578_1, hx578_2⟩ := at_T85 HR0_3.out (rd l1 x7_1) p578 q578; have hw578_2 := hx578_2; have hw578_1 := hx578_1; have hw578_0 := hx578_0; (cases e578); replace hx578_0 := cell_x HB hx578_0; replace hx578_1 := cell_x HB hx578_1; replace hx578_2 := cell_x HB hx578_2; replace p578 := eq_true p578; replace q578 := eq_true q578; have p579 : 0 ≤ (x7_1 : Int) := of_x; have q579 : x7_1 < (l1.length : Int) := of_x; obtain ⟨ad579, e579, hx579_0⟩ := Kd.at_int HR1.out x7_1 p579 q579; have hw579_0 := hx579_0; obtain rfl : ad576 = ad579 := (by injection e579); replace hx579_0 := cell_x HB hx579_0; replace p579 := eq_true p579; replace q579 := eq_true q579; have p580 : 0 ≤ ((rd l1 x7_1) : Int) := of_x; have q580 : (rd l1 x7_1) < (l0_3.length : Int) := of_x; obtain ⟨ad580, e580, hx580_0, hx580_1, hx580_2⟩ := at_T85 HR0_3.out (rd l1 x7_1) p580 q580; have hw580_2 := hx580_2; have hw580_1 := hx580_1; have hw580_0 := hx580_0; obtain rfl : ad578 = ad580 := (by injection e580); replace hx580_0 := cell_x HB hx580_0; replace hx580_1 := cell_x HB hx580_1; replace hx580_2 := cell_x HB hx580_2; replace p580 := eq_true p580; replace q580 := eq_true q580; refine start_ (n := 20) (S := fun w' => w'.cell? ⟨gb573, 0, none⟩ = some (.int .i64 a0_0) ∧ w'.cell? ⟨gb573, 1, none⟩ = some (.int .i64 a0_1) ∧ w'.cell? ⟨gb573, 2, none⟩ = some (.int .i64 a0_2) ∧ w'.cell? ⟨gb573, 3, none⟩ = some (.slice (some ad578) l0_3.length c0_3) ∧ w'.cell? ⟨gb573, 4, none⟩ = some (.int .i64 a0_4) ∧ w'.cell? ⟨gb573, 5, none⟩ = some (.slice A0_5 l0_5.length c0_5) ∧ w'.cell? ⟨gb573, 6, none⟩ = some (.slice A0_6 l0_6.length c0_6) ∧ w'.cell? (ad576.add (x7_1).toNat) = some (.int .i64 (rd l1 x7_1)) ∧ w'.cell? (ad578.add (((rd l1 x7_1)).toNat * 3)) = some (.int .i64 ((rd_T85 l0_3 (rd l1 x7_1)).f0)) ∧ w'.cell? ⟨(ad578.add (((rd l1 x7_1)).toNat * 3)).block, (ad578.add (((rd l1 x7_1)).toNat * 3)).off + 1, none⟩ = some (.int .i64 ((rd_T85 l0_3 (rd l1 x7_1)).f1)) ∧ w'.cell? ⟨(ad578.add (((rd l1 x7_1)).toNat * 3)).block, (ad578.add (((rd l1 x7_1)).toNat * 3)).off + 2, none⟩ = some (.int .i64 ((rd_T85 l0_3 (rd l1 x7_1)).f2)) ∧ w'.cell? (ad576.add (x7_1).toNat) = some (.int .i64 (rd l1 x7_1)) ∧ w'.cell? (ad578.add (((rd l1 x7_1)).toNat * 3)) = some (.int .i64 ((rd_T85 l0_3 (rd l1 x7_1)).f0)) ∧ w'.cell? ⟨(ad578.add (((rd l1 x7_1)).toNat * 3)).block, (ad578.add (((rd l1 x7_1)).toNat * 3)).off + 1, none⟩ = some (.int .i64 ((rd_T85 l0_3 (rd l1 x7_1)).f1)) ∧ w'.cell? ⟨(ad578.add (((rd l1 x7_1)).toNat * 3)).block, (ad578.add (((rd l1 x7_1)).toNat * 3)).off + 2, none⟩ = some (.int .i64 ((rd_T85 l0_3 (rd l1 x7_1)).f2))) (ds := []) #[false, false, false, false, false, false, false, false, false, false, false, false, false, false, false, false, false, false, false, false] (by kernel_rfl) rfl rfl ⟨(blk_cell BK573.out 0).trans rfl, (blk_cell BK573.out 1).trans rfl, (blk_cell BK573.out 2).trans rfl, (blk_cell BK573.out 3).trans rfl, (blk_cell BK573.out 4).trans rfl, (blk_cell BK573.out 5).trans rfl, (blk_cell BK573.out 6).trans rfl, ((HB.out.cell (World.block_lt_of_cell? w _ hw577_0)).trans hw577_0), ((HB.out.cell (World.block_lt_of_cell? w _ hw578_0)).trans hw578_0), ((HB.out.cell (World.block_lt_of_cell? w _ hw578_1)).trans hw578_1), ((HB.out.cell (World.block_lt_of_cell? w _ hw578_2)).trans hw578_2), ((HB.out.cell (World.block_lt_of_cell? w _ hw579_0)).trans hw579_0), ((HB.out.cell (World.block_lt_of_cell? w _ hw580_0)).trans hw580_0), ((HB.out.cell (World.block_lt_of_cell? w _ hw580_1)).trans hw580_1), ((HB.out.cell (World.block_lt_of_cell? w _ hw580_2)).trans hw580_2)⟩ (fun hHeld => ?_); refine with_tabW swarfref07_level.tab6 swarfref07_level.bits6 (fun HT_ HW_ => ?_); generalize wr.drew = w14 at BK573 BK574 BK575 HB hx577_0 hx578_0 hx578_1 hx578_2 hx579_0 hx580_0 hx580_1 hx580_2 hHeld ⊢; refine pure_t 0 (some 22) (bz 20 1) HT_ ?_; refine pure_t 2 (some 24) (bz 20 5) HT_ ?_; refine pure_t 3 (some 25) (bz 20 13) HT_ ?_; refine pure_t 4 (some 26) (bz 20 29) HT_ ?_; refine pure_t 9 (some 31) (bz 20 541) HT_ ?_; refine pure_t 11 (some 33) (bz 20 2589) HT_ ?_; refine pure_t 12 (some 34) (bz 20 6685) HT_ ?_; refine pure_t 13 (some 35) (bz 20 14877) HT_ ?_; refine take_t 1 (some 23) (bz 20 14879) HT_ HW_ hHeld ?_; refine take_t 5 (some 27) (bz 20 14911) HT_ HW_ hHeld ?_; refine pure_t 6 (some 28) (bz 20 14975) HT_ ?_; refine pure_t 7 (some 29) (bz 20 15103) HT_ ?_; refine take_t 8 (some 30) (bz 20 15359) HT_ HW_ hHeld ?_; refine take_t 10 (some 32) (bz 20 16383) HT_ HW_ hHeld ?_; refine take_t 14 (some 36) (bz 20 32767) HT_ HW_ hHeld ?_; refine pure_t 15 (some 37) (bz 20 65535) HT_ ?_; refine pure_t 16 (some 38) (bz 20 131071) HT_ ?_; refine take_t 17 (some 39) (bz 20 262143) HT_ HW_ hHeld ?_; refine pure_t 18 (some 40) (bz 20 524287) HT_ ?_; refine pure_t 19 (some 8) (bz 20 1048575) HT_ ?_; refine done_ (done_of HT_.out (by kernel_rfl)) ?_
         try go_wp2
         replace BK573 := Aside0.mk (blk_drew BK573.out); replace BK574 := Aside0.mk (blk_drew BK574.out); replace BK575 := Aside0.mk (blk_drew BK575.out); replace HB := Aside0.mk (below_drew1 HB.out); have p581 : 0 ≤ (x7_1 : Int) := of_x; have q581 : x7_1 < (l0_6.length : Int) := of_x; obtain ⟨ad581, e581, hx581_0, hx581_1, hx581_2⟩ := at_T79 HR0_6.out x7_1 p581 q581; have hw581_2 := hx581_2; have hw581_1 := hx581_1; have hw581_0 := hx581_0; (cases e581); replace hx581_0 := cell_x HB hx581_0; replace hx581_1 := cell_x HB hx581_1; replace hx581_2 := cell_x HB hx581_2; replace p581 := eq_true p581; replace q581 := eq_true q581; have p582 : 0 ≤ (x7_1 : Int) := of_x; have q582 : x7_1 < (l0_6.length : Int) := of_x; obtain ⟨ad582, e582, hx582_0, hx582_1, hx582_2⟩ := at_T79 HR0_6.out x7_1 p582 q582; have hw582_2 := hx582_2; have hw582_1 := hx582_1; have hw582_0 := hx582_0; obtain rfl : ad581 = ad582 := (by injection e582); replace hx582_0 := cell_x HB hx582_0; replace hx582_1 := cell_x HB hx582_1; replace hx582_2 := cell_x HB hx582_2; replace p582 := eq_true p582; replace q582 := eq_true q582; refine start_ (n := 20) (S := fun w' => w'.cell? ⟨gb573, 0, none⟩ = some (.int .i64 a0_0) ∧ w'.cell? ⟨gb573, 1, none⟩ = some (.int .i64 a0_1) ∧ w'.cell? ⟨gb573, 2, none⟩ = some (.int .i64 a0_2) ∧ w'.cell? ⟨gb573, 3, none⟩ = some (.slice (some ad578) l0_3.length c0_3) ∧ w'.cell? ⟨gb573, 4, none⟩ = some (.int .i64 a0_4) ∧ w'.cell? ⟨gb573, 5, none⟩ = some (.slice A0_5 l0_5.length c0_5) ∧ w'.cell? ⟨gb573, 6, none⟩ = some (.slice (some ad581) l0_6.length c0_6) ∧ w'.cell? (ad581.add ((x7_1).toNat * 3)) = some (.int .i64 ((rd_T79 l0_6 x7_1).f0.f0)) ∧ w'.cell? ⟨(ad581.add ((x7_1).toNat * 3)).block, (ad581.add ((x7_1).toNat * 3)).off + 1, none⟩ = some (.int .i64 ((rd_T79 l0_6 x7_1).f0.f1)) ∧ w'.cell? ⟨(ad581.add ((x7_1).toNat * 3)).block, (ad581.add ((x7_1).toNat * 3)).off + 2, none⟩ = some (.int .i64 ((rd_T79 l0_6 x7_1).f1)) ∧ w'.cell? (ad581.add ((x7_1).toNat * 3)) = some (.int .i64 ((rd_T79 l0_6 x7_1).f0.f0)) ∧ w'.cell? ⟨(ad581.add ((x7_1).toNat * 3)).block, (ad581.add ((x7_1).toNat * 3)).off + 1, none⟩ = some (.int .i64 ((rd_T79 l0_6 x7_1).f0.f1)) ∧ w'.cell? ⟨(ad581.add ((x7_1).toNat * 3)).block, (ad581.add ((x7_1).toNat * 3)).off + 2, none⟩ = some (.int .i64 ((rd_T79 l0_6 x7_1).f1))) (ds := []) #[false, false, false, false, false, false, false, false, false, false, false, false, false, false, false, false, false, false, false, false] (by kernel_rfl) rfl rfl ⟨(blk_cell BK573.out 0).trans rfl, (blk_cell BK573.out 1).trans rfl, (blk_cell BK573.out 2).trans rfl, (blk_cell BK573.out 3).trans rfl, (blk_cell BK573.out 4).trans rfl, (blk_cell BK573.out 5).trans rfl, (blk_cell BK573.out 6).trans rfl, ((HB.out.cell (World.block_lt_of_cell? w _ hw581_0)).trans hw581_0), ((HB.out.cell (World.block_lt_of_cell? w _ hw581_1)).trans hw581_1), ((HB.out.cell (World.block_lt_of_cell? w _ hw581_2)).trans hw581_2), ((HB.out.cell (World.block_lt_of_cell? w _ hw582_0)).trans hw582_0), ((HB.out.cell (World.block_lt_of_cell? w _ hw582_1)).trans hw582_1), ((HB.out.cell (World.block_lt_of_cell? w _ hw582_2)).trans hw582_2)⟩ (fun hHeld => ?_); refine with_tabW swarfref07_level.tab7 swarfref07_level.bits7 (fun HT_ HW_ => ?_); generalize w14.drew = w15 at BK573 BK574 BK575 HB hx581_0 hx581_1 hx581_2 hx582_0 hx582_1 hx582_2 hHeld ⊢; refine pure_t 0 (some 41) (bz 20 1) HT_ ?_; refine pure_t 1 (some 42) (bz 20 3) HT_ ?_; refine pure_t 3 (some 44) (bz 20 11) HT_ ?_; refine pure_t 9 (some 50) (bz 20 523) HT_ ?_; refine pure_t 10 (some 51) (bz 20 1547) HT_ ?_; refine pure_t 12 (some 53) (bz 20 5643) HT_ ?_; refine take_t 2 (some 43) (bz 20 5647) HT_ HW_ hHeld ?_; refine pure_t 4 (some 45) (bz 20 5663) HT_ ?_; refine pure_t 5 (some 46) (bz 20 5695) HT_ ?_; refine pure_t 6 (some 47) (bz 20 5759) HT_ ?_; refine take_t 7 (some 48) (bz 20 5887) HT_ HW_ hHeld ?_; refine pure_t 8 (some 49) (bz 20 6143) HT_ ?_; refine pure_t 18 (some 9) (bz 20 268287) HT_ ?_; refine take_t 11 (some 52) (bz 20 270335) HT_ HW_ hHeld ?_; refine pure_t 13 (some 54) (bz 20 278527) HT_ ?_; refine pure_t 14 (some 55) (bz 20 294911) HT_ ?_; refine pure_t 15 (some 56) (bz 20 327679) HT_ ?_; refine take_t 16 (some 57) (bz 20 393215) HT_ HW_ hHeld ?_; refine pure_t 17 (some 58) (bz 20 524287) HT_ ?_; refine pure_t 19 (some 10) (bz 20 1048575) HT_ ?_; refine done_ (done_of HT_.out (by kernel_rfl)) ?_; have hnb16 := NB575_573.out; have hnc16 := NB573_575.out; have hnb17 := NB575_574.out; have hnc17 := NB574_575.out; obtain ⟨hfz18_0, _, _⟩ := cf2 BK575
         try go_wp2
         go_roundg k1
         case measure => have := HK1.out; omega
         case rel => exact ⟨(wrap64 (x7_1 + 1)), (wrap64 (x576000_1 + (ji12))), (wrap64 (x576001_1 + (ji13))), (by first | rfl | (simp; done) | (simp [*]; done)), H', ⟨by have := HK1.out; omega⟩, ⟨blk_w BK573.out⟩, ⟨blk_w BK574.out⟩, ⟨blk_z BK575.out⟩, ⟨by exact below_y HB.out⟩⟩
        ·
         rw [if_neg c11] at H; exact absurd H (by simp)
       ·
        rw [if_neg c10] at H; exact absurd H (by simp)
      ·
       rw [if_neg c9] at H; exact absurd H (by simp)
    ·
     rw [if_neg c7] at H; exact absurd H (by simp)
   ·
    rw [if_neg c6] at H; have c6b0 : decide (x7_1 < (l1.length : Int)) = false := decide_eq_false c6; clear c6; by_cases c19 : x576000_1 ≥ (wrap64 ((-1000) * a0_2))
    ·
     rw [if_pos c19] at H; have c19b0 : decide ((wrap64 ((-1000) * a0_2)) ≤ x576000_1) = true := decide_eq_true c19; clear c19; simp only [Option.some.injEq, Prod.mk.injEq] at H; obtain ⟨rfl, rfl, rfl⟩ := H
     try go_wp2
     replace BK573 := Aside0.mk (blk_drew BK573.out); replace BK574 := Aside0.mk (blk_drew BK574.out); replace BK575 := Aside0.mk (blk_drew BK575.out); replace HB := Aside0.mk (below_drew1 HB.out); refine start_ (n := 17) (S := fun w' => w'.cell? ⟨gb575, 0, none⟩ = some (.int .i64 x576000_1) ∧ w'.cell? ⟨gb575, 1, none⟩ = some (.int .i64 x576001_1) ∧ w'.cell? ⟨gb573, 0, none⟩ = some (.int .i64 a0_0) ∧ w'.cell? ⟨gb573, 1, none⟩ = some (.int .i64 a0_1) ∧ w'.cell? ⟨gb573, 2, none⟩ = some (.int .i64 a0_2) ∧ w'.cell? ⟨gb573, 3, none⟩ = some (.slice A0_3 l0_3.length c0_3) ∧ w'.cell? ⟨gb573, 4, none⟩ = some (.int .i64 a0_4) ∧ w'.cell? ⟨gb573, 5, none⟩ = some (.slice A0_5 l0_5.length c0_5) ∧ w'.cell? ⟨gb573, 6, none⟩ = some (.slice A0_6 l0_6.length c0_6)) (ds := []) #[false, false, false, false, false, false, false, false, false, false, false, false, false, false, false, false, false] (by kernel_rfl) rfl rfl ⟨(blk_cell BK575.out 0).trans rfl, (blk_cell BK575.out 1).trans rfl, (blk_cell BK573.out 0).trans rfl, (blk_cell BK573.out 1).trans rfl, (blk_cell BK573.out 2).trans rfl, (blk_cell BK573.out 3).trans rfl, (blk_cell BK573.out 4).trans rfl, (blk_cell BK573.out 5).trans rfl, (blk_cell BK573.out 6).trans rfl⟩ (fun hHeld => ?_); refine with_tabW swarfref07_level.tab9 swarfref07_level.bits9 (fun HT_ HW_ => ?_); generalize wr.drew = w20 at BK573 BK574 BK575 HB hHeld ⊢; refine pure_t 0 (some 73) (bz 17 1) HT_ ?_; refine pure_t 2 (some 75) (bz 17 5) HT_ ?_; refine take_t 1 (some 74) (bz 17 7) HT_ HW_ hHeld ?_; refine take_t 3 (some 76) (bz 17 15) HT_ HW_ hHeld ?_; refine pure_t 4 (some 77) (bz 17 31) HT_ ?_; refine pure_t 5 (some 78) (bz 17 63) HT_ ?_; refine pure_t 6 (some 79) (bz 17 127) HT_ ?_; refine pure_t 7 (some 80) (bz 17 255) HT_ ?_; refine pure_t 9 (some 82) (bz 17 767) HT_ ?_; refine take_t 8 (some 81) (bz 17 1023) HT_ HW_ hHeld ?_; refine take_t 10 (some 83) (bz 17 2047) HT_ HW_ hHeld ?_; refine pure_t 11 (some 84) (bz 17 4095) HT_ ?_; refine pure_t 12 (some 85) (bz 17 8191) HT_ ?_; refine pure_t 13 (some 86) (bz 17 16383) HT_ ?_; refine pure_t 15 (some 4) (bz 17 49151) HT_ ?_; refine take_t 14 (some 87) (bz 17 65535) HT_ HW_ hHeld ?_; (refine one_t 16 (none) (bz 17 131071) HT_ fun K hK => ?_); have hs21 : w20.cell? ⟨gb574, 0, none⟩ = some (.int .i64 0) := (blk_cell BK574.out 0).trans rfl; have hfs21 := blk_frozen BK574.out 0; have hns21_0 := NB573_574.out; have hns21_2 := NB575_574.out; have hms21_0 := NB574_573.out; have hms21_2 := NB574_575.out; have hs22 : w20.cell? ⟨gb574, 1, none⟩ = some (.int .i64 0) := (blk_cell BK574.out 1).trans rfl; have hfs22 := blk_frozen BK574.out 1; have hns22_0 := NB573_574.out; have hns22_2 := NB575_574.out; have hms22_0 := NB574_573.out; have hms22_2 := NB574_575.out; refine skip_ (w1 := ?_) (by rfl) rfl ?_ ?_; rotate_left
     ·
      go_simp
      rfl
     refine hK.out _ _ ⟨(cf2_y NB575_574.out hHeld.1), (cf2_y NB575_574.out hHeld.2.1), (cf2_y NB573_574.out hHeld.2.2.1), (cf2_y NB573_574.out hHeld.2.2.2.1), (cf2_y NB573_574.out hHeld.2.2.2.2.1), (cf2_y NB573_574.out hHeld.2.2.2.2.2.1), (cf2_y NB573_574.out hHeld.2.2.2.2.2.2.1), (cf2_y NB573_574.out hHeld.2.2.2.2.2.2.2.1), (cf2_y NB573_574.out hHeld.2.2.2.2.2.2.2.2)⟩ (fun hHeld => ?_); clear hK K; refine done_ (done_of HT_.out (by kernel_rfl)) ?_
     try go_wp2
     refine bodyPost_ret (results_tc rfl _ _ gb574 56 #[.int .i64 x576000_1, .int .i64 x576001_1] (0, 0) _ rfl (blk_z BK574.out) Try.underlying56 rfl (by kernel_rfl)) rfl ?_; exact rt_y HB
    ·
     rw [if_neg c19] at H; have c19b0 : decide ((wrap64 ((-1000) * a0_2)) ≤ x576000_1) = false := decide_eq_false c19; clear c19; simp only [Option.some.injEq, Prod.mk.injEq] at H; obtain ⟨rfl, rfl, rfl⟩ := H
     try go_wp2
     replace BK573 := Aside0.mk (blk_drew BK573.out); replace BK574 := Aside0.mk (blk_drew BK574.out); replace BK575 := Aside0.mk (blk_drew BK575.out); replace HB := Aside0.mk (below_drew1 HB.out); refine start_ (n := 17) (S := fun w' => w'.cell? ⟨gb575, 0, none⟩ = some (.int .i64 x576000_1) ∧ w'.cell? ⟨gb575, 1, none⟩ = some (.int .i64 x576001_1) ∧ w'.cell? ⟨gb573, 0, none⟩ = some (.int .i64 a0_0) ∧ w'.cell? ⟨gb573, 1, none⟩ = some (.int .i64 a0_1) ∧ w'.cell? ⟨gb573, 2, none⟩ = some (.int .i64 a0_2) ∧ w'.cell? ⟨gb573, 3, none⟩ = some (.slice A0_3 l0_3.length c0_3) ∧ w'.cell? ⟨gb573, 4, none⟩ = some (.int .i64 a0_4) ∧ w'.cell? ⟨gb573, 5, none⟩ = some (.slice A0_5 l0_5.length c0_5) ∧ w'.cell? ⟨gb573, 6, none⟩ = some (.slice A0_6 l0_6.length c0_6)) (ds := []) #[false, false, false, false, false, false, false, false, false, false, false, false, false, false, false, false, false] (by kernel_rfl) rfl rfl ⟨(blk_cell BK575.out 0).trans rfl, (blk_cell BK575.out 1).trans rfl, (blk_cell BK573.out 0).trans rfl, (blk_cell BK573.out 1).trans rfl, (blk_cell BK573.out 2).trans rfl, (blk_cell BK573.out 3).trans rfl, (blk_cell BK573.out 4).trans rfl, (blk_cell BK573.out 5).trans rfl, (blk_cell BK573.out 6).trans rfl⟩ (fun hHeld => ?_); refine with_tabW swarfref07_level.tab9 swarfref07_level.bits9 (fun HT_ HW_ => ?_); generalize wr.drew = w23 at BK573 BK574 BK575 HB hHeld ⊢; refine pure_t 0 (some 73) (bz 17 1) HT_ ?_; refine pure_t 2 (some 75) (bz 17 5) HT_ ?_; refine take_t 1 (some 74) (bz 17 7) HT_ HW_ hHeld ?_; refine take_t 3 (some 76) (bz 17 15) HT_ HW_ hHeld ?_; refine pure_t 4 (some 77) (bz 17 31) HT_ ?_; refine pure_t 5 (some 78) (bz 17 63) HT_ ?_; refine pure_t 6 (some 79) (bz 17 127) HT_ ?_; refine dead_t 7 (some 80) (bz 17 255) HT_ ?_; refine dead_t 8 (some 81) (bz 17 511) HT_ ?_; refine dead_t 9 (some 82) (bz 17 1023) HT_ ?_; refine dead_t 10 (some 83) (bz 17 2047) HT_ ?_; refine dead_t 11 (some 84) (bz 17 4095) HT_ ?_; refine dead_t 12 (some 85) (bz 17 8191) HT_ ?_; refine pure_t 13 (some 86) (bz 17 16383) HT_ ?_; refine pure_t 15 (some 4) (bz 17 49151) HT_ ?_; refine take_t 14 (some 87) (bz 17 65535) HT_ HW_ hHeld ?_; (refine one_t 16 (none) (bz 17 131071) HT_ fun K hK => ?_); have hs24 : w23.cell? ⟨gb574, 0, none⟩ = some (.int .i64 0) := (blk_cell BK574.out 0).trans rfl; have hfs24 := blk_frozen BK574.out 0; have hns24_0 := NB573_574.out; have hns24_2 := NB575_574.out; have hms24_0 := NB574_573.out; have hms24_2 := NB574_575.out; have hs25 : w23.cell? ⟨gb574, 1, none⟩ = some (.int .i64 0) := (blk_cell BK574.out 1).trans rfl; have hfs25 := blk_frozen BK574.out 1; have hns25_0 := NB573_574.out; have hns25_2 := NB575_574.out; have hms25_0 := NB574_573.out; have hms25_2 := NB574_575.out; refine skip_ (w1 := ?_) (by rfl) rfl ?_ ?_; rotate_left
     ·
      go_simp
      rfl
     refine hK.out _ _ ⟨(cf2_y NB575_574.out hHeld.1), (cf2_y NB575_574.out hHeld.2.1), (cf2_y NB573_574.out hHeld.2.2.1), (cf2_y NB573_574.out hHeld.2.2.2.1), (cf2_y NB573_574.out hHeld.2.2.2.2.1), (cf2_y NB573_574.out hHeld.2.2.2.2.2.1), (cf2_y NB573_574.out hHeld.2.2.2.2.2.2.1), (cf2_y NB573_574.out hHeld.2.2.2.2.2.2.2.1), (cf2_y NB573_574.out hHeld.2.2.2.2.2.2.2.2)⟩ (fun hHeld => ?_); clear hK K; refine done_ (done_of HT_.out (by kernel_rfl)) ?_
     try go_wp2
     refine bodyPost_ret (results_tc rfl _ _ gb574 56 #[.int .i64 x576000_1, .int .i64 x576001_1] (0, 0) _ rfl (blk_z BK574.out) Try.underlying56 rfl (by kernel_rfl)) rfl ?_; exact rt_y HB
end Go.Proofs.Ytodmemndaaiolaa.PC7
namespace Go.Proofs.Ytodmemndaaiolaa.PC7
set_option linter.unusedVariables false
set_option linter.unusedSimpArgs false
open Go.RowKit Go.Proofs.YtodmemndaaiolaaW.PrintWords Go.Proofs.YtodmemndaaiolaaW.PrintLast Go.Proofs.YtodmemndaaiolaaW.PrintMore
theorem levelB_ev (L U R V : Int) (holds : List S85) (sills : List S59) (lots : List S79) (y z : Int) (hy : -1500000000000 ≤ y ∧ y ≤ 1500000000000) (hR : 0 ≤ R ∧ R ≤ 5000) : Ev (fun k => ship_level.f k L U R holds V sills lots y z) (decide (max z (-y) ≤ 1000 * R)) := by
  have hg : Ev (fun k => ship_greatest.f k z [wrap64 (-y)]) (max z (-y)) := by
    unfold ship_greatest.f
    refine Ev.succ ?_
    simp (disch := decide) only [ship_greatest.l0, List.length_singleton, if_pos]
    rw [show wrap64 (0 + 1) = 1 from wrap64_id (n := 0 + 1) (by decide) (by decide)]
    refine Ev.succ ?_
    simp (disch := decide) only [ship_greatest.l0, if_neg]
    rw [wrap64_id (n := -y) (by omega) (by omega)]
    have : rd [-y] 0 = -y := rfl
    rw [this, mx_max]
    exact Ev.now _
  unfold ship_level.f
  refine Ev.bind hg ?_
  rw [wrap64_id (n := 1000 * R) (by omega) (by omega)]
  exact Ev.now _
theorem apart_both (L U R V : Int) (hR : 0 ≤ R ∧ R ≤ 5000) (holds : List S85) (sills : List S59) (lots : List S79) (hho : ∀ h, h ∈ holds → HoldB h) (hlo : ∀ c, c ∈ lots → LotB c) (hhn : holds.length ≤ 1000) (hln : lots.length ≤ 1000) (s : List Int) (hs : s.length = lots.length) (hr : ∀ y, y ∈ s → -1 ≤ y ∧ y < (holds.length : Int)) (d : Nat) :
    ∀ (i : Nat) (a b : Int), i + d = s.length → (-50000000 * (i : Int) ≤ a ∧ a ≤ 50000000 * (i : Int)) → (-50000000 * (i : Int) ≤ b ∧ b ≤ 50000000 * (i : Int)) → ∃ y z : Int, (-1500000000000 ≤ y ∧ y ≤ 1500000000000) ∧ Ev (fun k => ship_apart.l0 k s (s.length : Int) (i : Int) L U R holds V sills lots a b) (y, z) ∧
      Ev (fun k => swarfref07_level.l0 k s (i : Int) L U R holds V sills lots a b) (decide (max z (-y) ≤ 1000 * R), y, z) := by
  induction d with
  | zero =>
    intro i a b hi ha hb
    refine ⟨a, b, by omega, Ev.succ ?_, Ev.succ ?_⟩
    · simp (disch := omega) only [ship_apart.l0, if_neg]; exact Ev.now _
    · simp (disch := omega) only [swarfref07_level.l0, if_neg]
      rw [wrap64_id (n := -1000 * R) (by omega) (by omega), wrap64_id (n := 1000 * R) (by omega) (by omega)]
      by_cases h : a ≥ -1000 * R
      · simp only [if_pos h]
        rw [show decide (b ≤ 1000 * R) = decide (max b (-a) ≤ 1000 * R) from decide_eq_decide.2 (by omega)]
        exact Ev.now _
      · simp only [if_neg h]
        rw [decide_eq_false (show ¬ max b (-a) ≤ 1000 * R by omega)]
        exact Ev.now _
  | succ d ih =>
    intro i a b hi ha hb
    have hil : i < lots.length := by omega
    have his : i < s.length := by omega
    obtain ⟨r1, r2⟩ := hr _ (getD_mem s i 0 his)
    obtain ⟨c1, c2, c3⟩ := hlo _ (getD_mem lots i z79 hil)
    by_cases h0 : s.getD i 0 < 0
    · obtain ⟨y, z, k0, k1, k2⟩ := ih (i + 1) a b (by omega) (by omega) (by omega)
      refine ⟨y, z, k0, Ev.succ ?_, Ev.succ ?_⟩
      · simp (disch := omega) only [ship_apart.l0, if_pos, rdI]; rw [wrapS (by omega)]; exact k1
      · simp (disch := omega) only [swarfref07_level.l0, if_pos, rdI]; rw [wrapS (by omega)]; exact k2
    · obtain ⟨g, hg⟩ := Int.eq_ofNat_of_zero_le (show 0 ≤ s.getD i 0 by omega)
      obtain ⟨⟨a1, a2⟩, a3, a4⟩ := hho _ (getD_mem holds g z85 (by omega))
      have hn : wrap64 ((holds.getD g z85).f1 - (holds.getD g z85).f2) = (holds.getD g z85).f1 - (holds.getD g z85).f2 := wrap64_id (by omega) (by omega)
      obtain ⟨n, hnn⟩ : ∃ n, n = (holds.getD g z85).f1 - (holds.getD g z85).f2 := ⟨_, rfl⟩
      rw [← hnn] at hn
      have m1 := mul_bd2 (a := (lots.getD i z79).f0.f0) (b := n) (A := 5000) (B := 10000) c1 (by omega) (by omega) (by omega) (by decide)
      have m2 := mul_bd2 (a := (lots.getD i z79).f0.f1) (b := n) (A := 5000) (B := 10000) (by omega) c3 (by omega) (by omega) (by decide)
      have w1 : wrap64 ((lots.getD i z79).f0.f0 * n) = (lots.getD i z79).f0.f0 * n := wrap64_id (by omega) (by omega)
      have w2 : wrap64 ((lots.getD i z79).f0.f1 * n) = (lots.getD i z79).f0.f1 * n := wrap64_id (by omega) (by omega)
      generalize hu : (lots.getD i z79).f0.f0 * n = u at *
      generalize hv : (lots.getD i z79).f0.f1 * n = v at *
      have hu' : n * (lots.getD i z79).f0.f0 = u := by rw [Int.mul_comm]; exact hu
      have hv' : n * (lots.getD i z79).f0.f1 = v := by rw [Int.mul_comm]; exact hv
      have w3 : wrap64 (a + mn u v) = a + mn u v := by rw [mn_min]; exact wrap64_id (by omega) (by omega)
      have w4 : wrap64 (b + mx u v) = b + mx u v := by rw [mx_max]; exact wrap64_id (by omega) (by omega)
      obtain ⟨y, z, k0, k1, k2⟩ := ih (i + 1) (a + mn u v) (b + mx u v) (by omega) (by rw [mn_min]; omega) (by rw [mx_max]; omega)
      refine ⟨y, z, k0, Ev.succ ?_, Ev.succ ?_⟩
      · simp (disch := omega) only [ship_apart.l0, if_pos, if_neg, rdI, rd79]
        rw [hg, rd85, ← hnn, wrapS (by omega), hn, hu, hv, w1, w2, w3, w4]; exact k1
      · simp (disch := omega) only [swarfref07_level.l0, if_pos, if_neg, rdI, rd79]
        rw [hg, rd85, ← hnn, wrapS (by omega), hn, hu', hv', w1, w2, w3, w4]; exact k2
end Go.Proofs.Ytodmemndaaiolaa.PC7
namespace Go.Proofs.Ytodmemndaaiolaa.PC7
open Go.RowKit Go.Proofs.YtodmemndaaiolaaW.PrintWords Go.Proofs.YtodmemndaaiolaaW.PrintLast Go.Proofs.YtodmemndaaiolaaW.PrintMore
attribute [local go_sem] max2_int min2_int max_two min_two max_three min_three max_four min_four
set_option linter.unusedVariables false
set_option linter.unusedSimpArgs false
end Go.Proofs.Ytodmemndaaiolaa.PC7
namespace Go.Proofs.Ytodmemndaaiolaa.PC7
set_option linter.unusedVariables false
set_option linter.unusedSimpArgs false
open Go.RowKit Go.Proofs.YtodmemndaaiolaaW.PrintWords Go.Proofs.YtodmemndaaiolaaW.PrintLast Go.Proofs.YtodmemndaaiolaaW.PrintMore
def copyOK (holds : List S85) (sills : List S59) (lots : List S79) : Prop := holds.length ≤ 100000 ∧ lots.length ≤ 100000 ∧ lensOK sills
instance (holds : List S85) (sills : List S59) (lots : List S79) : Decidable (copyOK holds sills lots) := by unfold copyOK; infer_instance
def swarfkit_CopyVoyage.f (a0_0 : Int) (a0_1 : Int) (a0_2 : Int) (l0_3 : List (S85)) (a0_4 : Int) (l0_5 : List (S59)) (l0_6 : List (S79)) : Option (Int × Int × Int × (List (S85)) × Int × (List (S59)) × (List (S79))) :=
 if copyOK l0_3 l0_5 l0_6 then some (a0_0, a0_1, a0_2, l0_3, a0_4, l0_5, l0_6) else none
set_option maxHeartbeats 8000000 in
set_option maxRecDepth 100000 in
theorem copy_calls (x : VoyV) (w : World) (hx : x.Ok w) (hn : copyOK x.holds x.sills x.lots) :
  Calls Try.prog 20 #[.agg #[.int .i64 x.light, .int .i64 x.under, .int .i64 x.trim, .slice x.A3 x.holds.length x.c3, .int .i64 x.leaves, .slice x.A5 x.sills.length x.c5, .slice x.A6 x.lots.length x.c6]] w fun e w' => ∃ v3_ v5_ v6_ : Value, e = .returned (.agg #[.int .i64 x.light, .int .i64 x.under, .int .i64 x.trim, v3_, .int .i64 x.leaves, v5_, v6_]) ∧ Kd.R k85 85 w' w.heap.size (fun _ => True) v3_ x.holds ∧ Kd.S k59 59 w' w.heap.size (fun _ => True) v5_ x.sills ∧ Kd.R k79 79 w' w.heap.size (fun _ => True) v6_ x.lots ∧ Below w.heap.size w w' := by
 have hu26 := Try.underlying26
 have hu23 := Try.underlying23
 have hu59 := Try.underlying59
 obtain ⟨hn1, hn2, hn3⟩ := hn
 have HX := Aside0.mk hx
 have HL := Aside0.mk (SailLens.of hn3)
 have hsl : x.sills.length ≤ 100000 := HL.out.s
 have hcc5 := hx.sc
 obtain ⟨A5, hA5⟩ : ∃ A5, A5 = x.A5 := ⟨_, rfl⟩
 have hs5 := hx.s
 rw [← hA5] at hs5 ⊢
 have HS5 := Aside0.mk hs5
 clear hx hA5 hs5 hn3
 go_enter Try.func20, Try.ntmps20
 go_upto_region 2 with (first
  | (refine box_r (N := 1) rfl (cs := #[.int .i64 x.light, .int .i64 x.under, .int .i64 x.trim, .slice x.A3 x.holds.length x.c3, .int .i64 x.leaves, .slice A5 x.sills.length x.c5, .slice x.A6 x.lots.length x.c6]) (t := 26) ?_; intro gb hg w2 hbox hb; have BK := Aside0.mk hbox; have GEb : Aside0 (w.heap.size ≤ gb) := ⟨by rw [hg]; exact Nat.le_refl _⟩; have HB := Aside0.mk hb; have hz3_ := (blk_cell BK.out 3).trans rfl; have hz5_ := (blk_cell BK.out 5).trans rfl; have hz6_ := (blk_cell BK.out 6).trans rfl; clear hg hbox hb)
  | (refine box_r (N := 2) rfl (cs := #[.int .i64 0, .int .i64 0, .int .i64 0, .slice none 0 0, .int .i64 0, .slice none 0 0, .slice none 0 0]) (t := 26) ?_; intro ge hg w3 hbox hb; have BE := Aside0.mk hbox; have NBE : Aside0 (gb ≠ ge) := ⟨by have := blk_lt BK.out; omega⟩; replace BK := Aside0.mk (blk_below BK.out hb); have GEe : Aside0 (w.heap.size ≤ ge) := ⟨by rw [hg]; exact HB.out.size⟩; replace HB := Aside0.mk (below_step HB.out hb); clear hz3_ hz5_ hz6_; have hz3_ := (blk_cell BK.out 3).trans rfl; have hz5_ := (blk_cell BK.out 5).trans rfl; have hz6_ := (blk_cell BK.out 6).trans rfl; clear hg hbox hb))
 have hd_ := below_drew1 (Below.refl w3.heap.size w3)
 replace BK := Aside0.mk (blk_drew BK.out)
 replace BE := Aside0.mk (blk_drew BE.out)
 replace HB := Aside0.mk (below_step HB.out hd_)
 clear hd_
 refine start_ (n := 14) (S := fun w' => w'.cell? ⟨gb, 3, none⟩ = some (.slice x.A3 x.holds.length x.c3) ∧ w'.cell? ⟨gb, 6, none⟩ = some (.slice x.A6 x.lots.length x.c6)) (ds := [9, 11, 13]) #[false, false, false, false, false, false, false, false, false, false, false, false, false, false] (by kernel_rfl) rfl rfl ⟨hz3_, hz6_⟩ (fun hHeld => ?_)
 generalize w3.drew = wd at BK BE HB hHeld ⊢
 refine pure_y 1 (some 8) (bz 14 2) ?_
 refine pure_y 5 (some 12) (bz 14 34) ?_
 refine take_y 2 (some 9) (bz 14 38) hHeld ?_
 refine take_y 6 (some 13) (bz 14 102) hHeld ?_
 refine join_ (σ := Value × Value × Value) 6 (bz 14 383) (fun s_ => [(7, s_.1), (10, s_.2.1), (11, s_.2.2), (15, .pointer (some ⟨gb, 3, none⟩))]) (fun s_ w' => (w'.cell? ⟨gb, 3, none⟩ = some (.slice x.A3 x.holds.length x.c3) ∧ w'.cell? ⟨gb, 6, none⟩ = some (.slice x.A6 x.lots.length x.c6)) ∧ Aside0 (Kd.R k85 85 w' wd.heap.size (fun _ => True) s_.2.1 x.holds) ∧ Aside0 (Kd.R k79 79 w' wd.heap.size (fun _ => True) s_.2.2 []) ∧ Aside0 (Below wd.heap.size wd w')) ?_ ?_
 rotate_left
 ·
  intro hCont; refine two_ (i := 0) (j := 4) (Ni := some 7) (Nj := some 11) (bz 14 103) (bz 14 118) rfl rfl rfl rfl (by kernel_rfl) (by decide) (by decide) (fun K hK => ?_) (fun K hK => ?_)
  ·
   skip
   have HBd := Aside0.mk (Below.refl wd.heap.size wd); refine Kd.R_lit_step k85 _ 85 ?hg (N := 7) ?hd (xs := ([] : List S85)) (inner := []) (ok := fun _ => True) (okp := fun _ => True) ?hr ?hp (fun _ hk => hk) trivial (Below.refl _ _) (Nat.le_refl _) (by simp) ?_; (case hd => rfl); (case hg => rfl); (case hr => first | (go_simp; done) | (go_simp; rfl)); (case hp => exact (Reps.none _ _)); intro v7 wq0 ho_ hb_ hg_ hnew_; clear hg_ hnew_; have R7 := Aside0.mk (Kd.R_lower ho_ HBd.out.size); replace HBd := Aside0.mk (below_step HBd.out hb_); clear ho_ hb_; refine hK.out _ _ ⟨(HBd.out.cell (blk_lt BK.out)).trans ((blk_cell BK.out 3).trans rfl), (HBd.out.cell (blk_lt BK.out)).trans ((blk_cell BK.out 6).trans rfl)⟩ (fun hHeld => ?_); clear hK K; refine norm_y (some 7) ?_; refine two_ (i := 3) (j := 4) (Ni := some 10) (Nj := some 11) (bz 14 111) (bz 14 119) rfl rfl rfl rfl (by kernel_rfl) (by decide) (by decide) (fun K hK => ?_) (fun K hK => ?_)
   ·
    skip
    refine Kd.R_append_rows_step k85 (w0 := wd) wd.heap.size (by rfl) (.tmp 7) (.tmp 9) 22 85 (.agg #[(.int .i64 0), (.int .i64 0), (.int .i64 0)]) 24 rfl Try.underlying22 info85 rfl (by decide) (by omega) v7 [] x.holds x.A3 _ x.c3 (fun _ => True) (fun _ => False) rfl rfl ?aO ?aR (fun _ _ h => h) (fun _ h => h.elim) ?aF ?aB ?aS ?aL ?_
    (case aR => exact (Kd.C_below (Kd.C_below HX.out.h HB.out) HBd.out))
    (case aB => exact HBd.out)
    (case aF => exact (fun _ _ => trivial))
    (case aO => exact R7.out)
    (case aS => exact HBd.out.size)
    (case aL => simp only [List.length_nil]; omega)
    intro v10 wq1 ho_ hb_ hg_ hat_; rw [List.nil_append] at ho_; have R10 := Aside0.mk ho_; replace HBd := Aside0.mk hb_; clear ho_ hb_ hg_ hat_ R7; refine hK.out _ _ ⟨(HBd.out.cell (blk_lt BK.out)).trans ((blk_cell BK.out 3).trans rfl), (HBd.out.cell (blk_lt BK.out)).trans ((blk_cell BK.out 6).trans rfl)⟩ (fun hHeld => ?_); clear hK K; refine norm_y (some 10) ?_; refine pure_y 8 (some 15) (bz 14 367) ?_; (refine one_y 4 (some 11) (bz 14 383) fun K hK => ?_); refine Kd.R_lit_step k79 _ 79 ?hg (N := 11) ?hd (xs := ([] : List S79)) (inner := []) (ok := fun _ => True) (okp := fun _ => True) ?hr ?hp (fun _ hk => hk) trivial (Below.refl _ _) (Nat.le_refl _) (by simp) ?_; (case hd => rfl); (case hg => rfl); (case hr => first | (go_simp; done) | (go_simp; rfl)); (case hp => exact (Reps.none _ _)); intro v11 wq2 ho_ hb_ hg_ hnew_; clear hg_ hnew_; have R11 := Aside0.mk (Kd.R_lower ho_ HBd.out.size); replace R10 := Aside0.mk (Kd.R_below R10.out hb_); replace HBd := Aside0.mk (below_step HBd.out hb_); clear ho_ hb_; refine hK.out _ _ ⟨(HBd.out.cell (blk_lt BK.out)).trans ((blk_cell BK.out 3).trans rfl), (HBd.out.cell (blk_lt BK.out)).trans ((blk_cell BK.out 6).trans rfl)⟩ (fun hHeld => ?_); clear hK K; refine norm_y (some 11) ?_; exact norm_ (by simp only [putAll, Act.put, put_x]) (hCont (v7, v10, v11) _ ⟨hHeld, R10, R11, HBd⟩)
   ·
    skip
    refine Kd.R_lit_step k79 _ 79 ?hg (N := 11) ?hd (xs := ([] : List S79)) (inner := []) (ok := fun _ => True) (okp := fun _ => True) ?hr ?hp (fun _ hk => hk) trivial (Below.refl _ _) (Nat.le_refl _) (by simp) ?_; (case hd => rfl); (case hg => rfl); (case hr => first | (go_simp; done) | (go_simp; rfl)); (case hp => exact (Reps.none _ _)); intro v11 wq1 ho_ hb_ hg_ hnew_; clear hg_ hnew_; have R11 := Aside0.mk (Kd.R_lower ho_ HBd.out.size); replace R7 := Aside0.mk (Kd.R_below R7.out hb_); replace HBd := Aside0.mk (below_step HBd.out hb_); clear ho_ hb_; refine hK.out _ _ ⟨(HBd.out.cell (blk_lt BK.out)).trans ((blk_cell BK.out 3).trans rfl), (HBd.out.cell (blk_lt BK.out)).trans ((blk_cell BK.out 6).trans rfl)⟩ (fun hHeld => ?_); clear hK K; refine norm_y (some 11) ?_; (refine one_y 3 (some 10) (bz 14 127) fun K hK => ?_); refine Kd.R_append_rows_step k85 (w0 := wd) wd.heap.size (by rfl) (.tmp 7) (.tmp 9) 22 85 (.agg #[(.int .i64 0), (.int .i64 0), (.int .i64 0)]) 24 rfl Try.underlying22 info85 rfl (by decide) (by omega) v7 [] x.holds x.A3 _ x.c3 (fun _ => True) (fun _ => False) rfl rfl ?aO ?aR (fun _ _ h => h) (fun _ h => h.elim) ?aF ?aB ?aS ?aL ?_
    (case aR => exact (Kd.C_below (Kd.C_below HX.out.h HB.out) HBd.out))
    (case aB => exact HBd.out)
    (case aF => exact (fun _ _ => trivial))
    (case aO => exact R7.out)
    (case aS => exact HBd.out.size)
    (case aL => simp only [List.length_nil]; omega)
    intro v10 wq2 ho_ hb_ hg_ hat_; rw [List.nil_append] at ho_; have R10 := Aside0.mk ho_; replace R11 := Aside0.mk (Kd.R_over' R11.out (Kd.R_typed R7.out) (by decide) hg_); replace HBd := Aside0.mk hb_; clear ho_ hb_ hg_ hat_ R7; refine hK.out _ _ ⟨(HBd.out.cell (blk_lt BK.out)).trans ((blk_cell BK.out 3).trans rfl), (HBd.out.cell (blk_lt BK.out)).trans ((blk_cell BK.out 6).trans rfl)⟩ (fun hHeld => ?_); clear hK K; refine norm_y (some 10) ?_; refine pure_y 8 (some 15) (bz 14 383) ?_; exact norm_ (by simp only [putAll, Act.put, put_x]) (hCont (v7, v10, v11) _ ⟨hHeld, R10, R11, HBd⟩)
  ·
   skip
   have HBd := Aside0.mk (Below.refl wd.heap.size wd); refine Kd.R_lit_step k79 _ 79 ?hg (N := 11) ?hd (xs := ([] : List S79)) (inner := []) (ok := fun _ => True) (okp := fun _ => True) ?hr ?hp (fun _ hk => hk) trivial (Below.refl _ _) (Nat.le_refl _) (by simp) ?_; (case hd => rfl); (case hg => rfl); (case hr => first | (go_simp; done) | (go_simp; rfl)); (case hp => exact (Reps.none _ _)); intro v11 wq0 ho_ hb_ hg_ hnew_; clear hg_ hnew_; have R11 := Aside0.mk (Kd.R_lower ho_ HBd.out.size); replace HBd := Aside0.mk (below_step HBd.out hb_); clear ho_ hb_; refine hK.out _ _ ⟨(HBd.out.cell (blk_lt BK.out)).trans ((blk_cell BK.out 3).trans rfl), (HBd.out.cell (blk_lt BK.out)).trans ((blk_cell BK.out 6).trans rfl)⟩ (fun hHeld => ?_); clear hK K; refine norm_y (some 11) ?_; (refine one_y 0 (some 7) (bz 14 119) fun K hK => ?_); refine Kd.R_lit_step k85 _ 85 ?hg (N := 7) ?hd (xs := ([] : List S85)) (inner := []) (ok := fun _ => True) (okp := fun _ => True) ?hr ?hp (fun _ hk => hk) trivial (Below.refl _ _) (Nat.le_refl _) (by simp) ?_; (case hd => rfl); (case hg => rfl); (case hr => first | (go_simp; done) | (go_simp; rfl)); (case hp => exact (Reps.none _ _)); intro v7 wq1 ho_ hb_ hg_ hnew_; clear hg_ hnew_; have R7 := Aside0.mk (Kd.R_lower ho_ HBd.out.size); replace R11 := Aside0.mk (Kd.R_below R11.out hb_); replace HBd := Aside0.mk (below_step HBd.out hb_); clear ho_ hb_; refine hK.out _ _ ⟨(HBd.out.cell (blk_lt BK.out)).trans ((blk_cell BK.out 3).trans rfl), (HBd.out.cell (blk_lt BK.out)).trans ((blk_cell BK.out 6).trans rfl)⟩ (fun hHeld => ?_); clear hK K; refine norm_y (some 7) ?_; (refine one_y 3 (some 10) (bz 14 127) fun K hK => ?_); refine Kd.R_append_rows_step k85 (w0 := wd) wd.heap.size (by rfl) (.tmp 7) (.tmp 9) 22 85 (.agg #[(.int .i64 0), (.int .i64 0), (.int .i64 0)]) 24 rfl Try.underlying22 info85 rfl (by decide) (by omega) v7 [] x.holds x.A3 _ x.c3 (fun _ => True) (fun _ => False) rfl rfl ?aO ?aR (fun _ _ h => h) (fun _ h => h.elim) ?aF ?aB ?aS ?aL ?_
   (case aR => exact (Kd.C_below (Kd.C_below HX.out.h HB.out) HBd.out))
   (case aB => exact HBd.out)
   (case aF => exact (fun _ _ => trivial))
   (case aO => exact R7.out)
   (case aS => exact HBd.out.size)
   (case aL => simp only [List.length_nil]; omega)
   intro v10 wq2 ho_ hb_ hg_ hat_; rw [List.nil_append] at ho_; have R10 := Aside0.mk ho_; replace R11 := Aside0.mk (Kd.R_over' R11.out (Kd.R_typed R7.out) (by decide) hg_); replace HBd := Aside0.mk hb_; clear ho_ hb_ hg_ hat_ R7; refine hK.out _ _ ⟨(HBd.out.cell (blk_lt BK.out)).trans ((blk_cell BK.out 3).trans rfl), (HBd.out.cell (blk_lt BK.out)).trans ((blk_cell BK.out 6).trans rfl)⟩ (fun hHeld => ?_); clear hK K; refine norm_y (some 10) ?_; refine pure_y 8 (some 15) (bz 14 383) ?_; exact norm_ (by simp only [putAll, Act.put, put_x]) (hCont (v7, v10, v11) _ ⟨hHeld, R10, R11, HBd⟩)
 rintro ⟨v7, v10, v11⟩ wj ⟨hHeld, R10, R11, HBd⟩
 obtain ⟨A10, c10, hv10_⟩ := Kd.R_slice R10.out
 dsimp only at R10 R11 hv10_ ⊢
 subst hv10_
 refine norm_ (a' := ?_) ?_ ?_
 rotate_left
 ·
  simp only [putAll, Act.put, put_x]; rfl
 refine one_y 7 (some 14) (bz 14 511) fun K hK => ?_
 refine Kd.R_append_rows_step k79 (w0 := wd) wd.heap.size (by rfl) (.tmp 11) (.tmp 13) 24 79 (.agg #[(.int .i64 0), (.int .i64 0), (.int .i64 0)]) 24 rfl Try.underlying24 info79 rfl (by decide) (by omega) v11 [] x.lots x.A6 _ x.c6 (fun _ => True) (fun _ => False) rfl rfl ?aO ?aR (fun _ _ h => h) (fun _ h => h.elim) ?aF ?aB ?aS ?aL ?_
 (case aR => exact (Kd.C_below (Kd.C_below HX.out.l HB.out) HBd.out))
 (case aB => exact HBd.out)
 (case aF => exact (fun _ _ => trivial))
 (case aO => exact R11.out)
 (case aS => exact HBd.out.size)
 (case aL => simp only [List.length_nil]; omega)
 intro v14 w4 ho_ hb_ hg_ hat_
 rw [List.nil_append] at ho_
 obtain ⟨A14, c14, rfl⟩ := Kd.R_slice ho_
 have R14 := Aside0.mk ho_
 replace R10 := Aside0.mk (Kd.R_over' R10.out (Kd.R_typed R11.out) (by decide) hg_)
 have BK4 := Aside0.mk (blk_below BK.out hb_)
 have BE4 := Aside0.mk (blk_below BE.out hb_)
 replace HBd := Aside0.mk hb_
 clear ho_ hb_ hg_ hat_ R11
 refine hK.out _ _ ⟨(HBd.out.cell (blk_lt BK.out)).trans ((blk_cell BK.out 3).trans rfl), (HBd.out.cell (blk_lt BK.out)).trans ((blk_cell BK.out 6).trans rfl)⟩ (fun hHeld => ?_)
 clear hK K
 refine norm_y (some 14) ?_
 refine last_ (i := 9) (N := none) (bz 14 1023) rfl rfl (by kernel_rfl) (by decide) (fun K hK => ?_)
 have hy0_ := (blk_cell BK4.out 3).trans rfl
 have hf_ := blk_frozen BK4.out
 refine skip_ (w1 := ?_) (by rfl) rfl ?_ ?_; rotate_left; (go_simp; rfl)
 clear hy0_ hf_
 refine hK.out _ _ ?_
 clear hK K
 refine pure_y 10 (some 16) (bz 14 2047) ?_
 refine last_ (i := 11) (N := none) (bz 14 4095) rfl rfl (by kernel_rfl) (by decide) (fun K hK => ?_)
 have BK5 := Aside0.mk (blk_put (cs' := #[.int .i64 x.light, .int .i64 x.under, .int .i64 x.trim, .slice A10 x.holds.length c10, .int .i64 x.leaves, .slice A5 x.sills.length x.c5, .slice x.A6 x.lots.length x.c6]) BK4.out 3 (.slice A10 x.holds.length c10) rfl)
 have hy0_ := (blk_cell BK5.out 6).trans rfl
 have hf_ := blk_frozen BK5.out
 refine skip_ (w1 := ?_) (by rfl) rfl ?_ ?_; rotate_left; (go_simp; rfl)
 clear hy0_ hf_
 refine hK.out _ _ ?_
 clear hK K
 refine pure_y 12 (some 17) (bz 14 8191) ?_
 refine last_ (i := 13) (N := none) (bz 14 16383) rfl rfl (by kernel_rfl) (by decide) (fun K hK => ?_)
 have BK6 := Aside0.mk (blk_put (cs' := #[.int .i64 x.light, .int .i64 x.under, .int .i64 x.trim, .slice A10 x.holds.length c10, .int .i64 x.leaves, .slice A5 x.sills.length x.c5, .slice A14 x.lots.length c14]) BK5.out 6 (.slice A14 x.lots.length c14) rfl)
 have hy0_ := (blk_cell BK6.out 5).trans rfl
 have hf_ := blk_frozen BK6.out
 refine skip_ (w1 := ?_) (by rfl) rfl ?_ ?_; rotate_left; (go_simp; rfl)
 clear hy0_ hf_
 refine hK.out _ _ ?_
 clear hK K
 refine done_ (by kernel_rfl) ?_
 clear hHeld hz3_ hz5_ hz6_
 have BK7 := Aside0.mk (blk_put (cs' := #[.int .i64 x.light, .int .i64 x.under, .int .i64 x.trim, .slice A10 x.holds.length c10, .int .i64 x.leaves, .slice none 0 0, .slice A14 x.lots.length c14]) BK6.out 5 (.slice none 0 0) rfl)
 have BE7 := Aside0.mk (blk_far (blk_far (blk_far BE4.out (p := ⟨gb, 3, none⟩) NBE.out.symm (.slice A10 x.holds.length c10)) (p := ⟨gb, 6, none⟩) NBE.out.symm (.slice A14 x.lots.length c14)) (p := ⟨gb, 5, none⟩) NBE.out.symm (.slice none 0 0))
 have HB7 := Aside0.mk (below_set (below_set (below_set (below_step HB.out HBd.out) GEb.out (j := 3) (v := (.slice A10 x.holds.length c10))) GEb.out (j := 6) (v := (.slice A14 x.lots.length c14))) GEb.out (j := 5) (v := .slice none 0 0))
 replace R10 := Aside0.mk (Kd.R_set (Kd.R_set (Kd.R_set R10.out BK4.out (by decide) 3 (.slice A10 x.holds.length c10)) BK5.out (by decide) 6 (.slice A14 x.lots.length c14)) BK6.out (by decide) 5 (.slice none 0 0))
 replace R14 := Aside0.mk (Kd.R_set (Kd.R_set (Kd.R_set R14.out BK4.out (by decide) 3 (.slice A10 x.holds.length c10)) BK5.out (by decide) 6 (.slice A14 x.lots.length c14)) BK6.out (by decide) 5 (.slice none 0 0))
 replace R10 := Aside0.mk (Kd.R_lower R10.out HB.out.size)
 replace R14 := Aside0.mk (Kd.R_lower R14.out HB.out.size)
 generalize hW_ : ((w4.setCell ⟨gb, 3, none⟩ (.slice A10 x.holds.length c10)).setCell ⟨gb, 6, none⟩ (.slice A14 x.lots.length c14)).setCell ⟨gb, 5, none⟩ (.slice none 0 0) = w5 at *
 clear hW_ BK4 BK5 BK6 BE4 HBd BK BE HB
 go_wp2
 go_loopg [4] x.sills.length (fun gk v4 wr => ∃ k : Nat, k ≤ x.sills.length ∧ x.sills.length - k ≤ gk ∧ v4 = .int .i64 k ∧ Aside0 (∃ v5, wr.heap[gb]? = some (.cells #[.int .i64 x.light, .int .i64 x.under, .int .i64 x.trim, .slice A10 x.holds.length c10, .int .i64 x.leaves, v5, .slice A14 x.lots.length c14] 26 (0, 0)) ∧ Kd.S k59 59 wr w.heap.size (fun _ => True) v5 (x.sills.take k)) ∧ Aside0 (wr.heap[ge]? = some (.cells #[.int .i64 0, .int .i64 0, .int .i64 0, .slice none 0 0, .int .i64 0, .slice none 0 0, .slice none 0 0] 26 (0, 0))) ∧ Aside0 (Kd.R k85 85 wr w.heap.size (fun _ => True) (.slice A10 x.holds.length c10) x.holds) ∧ Aside0 (Kd.R k79 79 wr w.heap.size (fun _ => True) (.slice A14 x.lots.length c14) x.lots) ∧ Aside0 (Below w.heap.size w wr))
 case atStart => exact ⟨0, by omega, by omega, rfl, ⟨⟨_, BK7.out, Kd.S_nil _ _ _ _ _⟩⟩, BE7, R10, R14, HB7⟩
 case round =>
  clear BK7 BE7 R10 R14 HB7; obtain ⟨k, hk, hgk, rfl, HI, BE, R10, R14, HB⟩ := hrel; obtain ⟨v5, hbk, hs5⟩ := HI.out; obtain ⟨Av, cv, hv5_⟩ := Kd.S_slice hs5; rw [List.length_take, Nat.min_eq_left hk] at hv5_; subst hv5_; have BK := Aside0.mk hbk; have HO := Aside0.mk hs5; clear hbk hs5 HI; by_cases hlt : k < x.sills.length
  ·
   (have hlz : (k : Int) < (x.sills.length : Int) := by omega); obtain ⟨ads, A2, c2, e, h0, h1, h2, l2, g2⟩ := at_T59 HS5.out (k : Int) (by omega) hlz; (cases e); rw [Int.toNat_natCast] at h0 h1 h2; have hlen := HL.out.l k hlt
   have htk : Aside0 (x.sills.take (k + 1) = x.sills.take k ++ [rd_T59 x.sills (k : Int)]) := ⟨by
    rw [List.take_succ_eq_append_getElem hlt]; (have : rd_T59 x.sills (k : Int) = x.sills[k] := by simp [rd_T59, List.getD, hlt]); rw [this]⟩
   (have htl : (x.sills.take k).length = k := by rw [List.length_take]; omega); have HTL := Aside0.mk htl; have hrd : x.sills.getD k z59 = rd_T59 x.sills (k : Int) := rfl; rw [hrd] at hlen; clear hrd htl; generalize rd_T59 x.sills (k : Int) = sl at *; have LT0 := Aside0.mk (World.block_lt_of_cell? w _ h0); have LT1 := Aside0.mk (World.block_lt_of_cell? w _ h1); have LT2 := Aside0.mk (World.block_lt_of_cell? w _ h2); have E0 := Aside0.mk h0; have E1 := Aside0.mk h1; have E2 := Aside0.mk h2; have G2 := Aside0.mk g2; clear g2; replace h0 := (HB.out.cell LT0.out).trans h0; replace h1 := (HB.out.cell LT1.out).trans h1; replace h2 := (HB.out.cell LT2.out).trans h2; have hz5_ := (blk_cell BK.out 5).trans rfl
   go_upto_region 6 with (fail)
   have hd_ := below_drew1 (Below.refl wr.heap.size wr); replace BK := Aside0.mk (blk_drew BK.out); replace BE := Aside0.mk (blk_drew BE.out); replace HO := Aside0.mk (Kd.S_drew HO.out); replace R10 := Aside0.mk (Kd.R_drew R10.out); replace R14 := Aside0.mk (Kd.R_drew R14.out); replace HB := Aside0.mk (below_step HB.out hd_); clear hd_; refine start_ (n := 19) (S := fun w' => w'.cell? ⟨gb, 5, none⟩ = some (.slice Av k cv) ∧ w'.cell? (ads.add (k * 3)) = some (.int .i64 sl.f0.f0) ∧ w'.cell? ⟨(ads.add (k * 3)).block, (ads.add (k * 3)).off + 1, none⟩ = some (.int .i64 sl.f0.f1) ∧ w'.cell? ⟨(ads.add (k * 3)).block, (ads.add (k * 3)).off + 2, none⟩ = some (.slice A2 sl.f1.length c2)) (ds := [16, 18]) #[false, false, false, false, false, false, false, false, false, false, false, false, false, false, false, false, false, false, false] (by kernel_rfl) rfl rfl ⟨hz5_, h0, h1, h2⟩ (fun hHeld => ?_); generalize wr.drew = wd at BK BE HO R10 R14 HB hHeld ⊢; refine pure_y 0 (some 24) (bz 19 1) ?_; refine pure_y 2 (some 26) (bz 19 5) ?_; refine pure_y 3 (some 27) (bz 19 13) ?_; refine pure_y 4 (some 28) (bz 19 29) ?_; refine pure_y 5 (some 29) (bz 19 61) ?_; refine pure_y 8 (some 32) (bz 19 317) ?_; refine pure_y 9 (some 33) (bz 19 829) ?_; refine pure_y 10 (some 34) (bz 19 1853) ?_; refine pure_y 11 (some 35) (bz 19 3901) ?_; refine take_y 1 (some 25) (bz 19 3903) hHeld ?_; refine take_y 6 (some 30) (bz 19 3967) hHeld ?_; refine take_y 12 (some 36) (bz 19 8063) hHeld ?_; (refine one_y 7 (some 31) (bz 19 8191) fun K hK => ?_); refine Kd.R_lit_step k62 _ 62 ?hg (N := 31) ?hd (xs := ([] : List S62)) (inner := []) (ok := fun _ => True) (okp := fun _ => True) ?hr ?hp (fun _ hk => hk) trivial (Below.refl _ _) (Nat.le_refl _) (by simp) ?_; (case hd => rfl); (case hg => rfl); (case hr => first | (go_simp; done) | (go_simp; rfl)); (case hp => exact (Reps.none _ _)); intro v31 w6 ho_ hb_ hg_ hnew_; clear hg_ hnew_; have R31 := Aside0.mk ho_; have HBd := Aside0.mk hb_; clear ho_ hb_; refine hK.out _ _ ⟨(HBd.out.cell (blk_lt BK.out)).trans ((blk_cell BK.out 5).trans rfl), (HBd.out.cell (Nat.lt_of_lt_of_le LT0.out HB.out.size)).trans ((HB.out.cell LT0.out).trans E0.out), (HBd.out.cell (Nat.lt_of_lt_of_le LT1.out HB.out.size)).trans ((HB.out.cell LT1.out).trans E1.out), (HBd.out.cell (Nat.lt_of_lt_of_le LT2.out HB.out.size)).trans ((HB.out.cell LT2.out).trans E2.out)⟩ (fun hHeld => ?_); clear hK K; refine norm_y (some 31) ?_; (refine one_y 13 (some 37) (bz 19 16383) fun K hK => ?_); refine Kd.R_append_rows_step k62 (w0 := wd) wd.heap.size (by rfl) (.tmp 31) (.tmp 36) 57 62 (.agg #[(.int .i64 0), (.int .i64 0), (.int .i64 0)]) 24 rfl Try.underlying57 info62 rfl (by decide) (by omega) v31 [] sl.f1 A2 _ c2 (fun _ => True) (fun _ => False) rfl rfl ?aO ?aR (fun _ _ h => h) (fun _ h => h.elim) ?aF ?aB ?aS ?aL ?_
   (case aR => exact (Kd.C_below (Kd.C_below G2.out HB.out) HBd.out))
   (case aB => exact HBd.out)
   (case aF => exact (fun _ _ => trivial))
   (case aO => exact R31.out)
   (case aS => exact HBd.out.size)
   (case aL => simp only [List.length_nil]; omega)
   intro v37 w7 ho_ hb_ hg_ hat_; rw [List.nil_append] at ho_; obtain ⟨A37, c37, rfl⟩ := Kd.R_slice ho_; have R37 := Aside0.mk ho_; replace HBd := Aside0.mk hb_; clear ho_ hb_ hg_ hat_ R31; refine hK.out _ _ ⟨(HBd.out.cell (blk_lt BK.out)).trans ((blk_cell BK.out 5).trans rfl), (HBd.out.cell (Nat.lt_of_lt_of_le LT0.out HB.out.size)).trans ((HB.out.cell LT0.out).trans E0.out), (HBd.out.cell (Nat.lt_of_lt_of_le LT1.out HB.out.size)).trans ((HB.out.cell LT1.out).trans E1.out), (HBd.out.cell (Nat.lt_of_lt_of_le LT2.out HB.out.size)).trans ((HB.out.cell LT2.out).trans E2.out)⟩ (fun hHeld => ?_); clear hK K; refine norm_y (some 37) ?_; refine pure_y 14 (some 38) (bz 19 32767) ?_; (refine one_y 15 (some 39) (bz 19 65535) fun K hK => ?_); refine value_ (w1 := ?_) (v := ?_) (by rfl) rfl ?_ ?_; rotate_left 2
   ·
    (go_simp; constructor <;> rfl)
   refine hK.out _ _ ⟨((below_alloc HBd.out _).cell (blk_lt BK.out)).trans ((blk_cell BK.out 5).trans rfl), ((below_alloc HBd.out _).cell (Nat.lt_of_lt_of_le LT0.out HB.out.size)).trans ((HB.out.cell LT0.out).trans E0.out), ((below_alloc HBd.out _).cell (Nat.lt_of_lt_of_le LT1.out HB.out.size)).trans ((HB.out.cell LT1.out).trans E1.out), ((below_alloc HBd.out _).cell (Nat.lt_of_lt_of_le LT2.out HB.out.size)).trans ((HB.out.cell LT2.out).trans E2.out)⟩ (fun hHeld => ?_); clear hK K; refine norm_y (some 39) ?_; refine last_ (i := 16) (N := some 40) (bz 19 131071) rfl rfl (by kernel_rfl) (by decide) (fun K hK => ?_); refine Kd.S_append_step k59 (w0 := w) w.heap.size (by rfl) (.tmp 25) (.tmp 39) 23 59 (.agg #[(.int .i64 0), (.int .i64 0), (.slice none 0 0)]) 40 rfl Try.underlying23 info59 rfl (by decide) (by omega) (.slice Av k cv) (x.sills.take k) sl [.int .i64 sl.f0.f0, .int .i64 sl.f0.f1, .slice A37 sl.f1.length c37] (fun _ => True) (fun k_ => wd.heap.size ≤ k_) rfl rfl ?aP ?aK ?aF ?aO ?aB ?aS ?aL ?_
   (case aP => exact k59_mkM _ _ _ sl (Kd.R_mono (Kd.R_bound (Kd.R_lower (Kd.R_mono (Kd.R_bound R37.out) (fun _ hk => hk.2.1)) HB.out.size)) (fun _ hk => hk.1)))
   (case aK => exact (fun k_ hk => ⟨trivial, fun he => by have := Kd.S_lt HO.out k_ he.symm; omega⟩))
   (case aF => exact (fun _ _ => trivial))
   (case aO => exact Kd.S_mono (Kd.S_old HO.out HBd.out) (fun _ hk => ⟨trivial, by have := hk.2; omega⟩))
   (case aB => exact below_step HB.out HBd.out)
   (case aS => exact Nat.le_trans HB.out.size HBd.out.size)
   (case aL => have := HTL.out; omega)
   intro v40 w8 ho_ hb_ hg_ hat_; obtain ⟨A40, c40, hv40_⟩ := Kd.S_slice ho_; rw [List.length_append, HTL.out, List.length_singleton] at hv40_; subst hv40_; have HO2 := Aside0.mk ho_; have BK2 := Aside0.mk (blk_grown (blk_below BK.out HBd.out) hg_ (Kd.S_ne HO.out BK.out (by decide))); have BE2 := Aside0.mk (blk_grown (blk_below BE.out HBd.out) hg_ (Kd.S_ne HO.out BE.out (by decide))); have T_ := Aside0.mk (fun k_ he => (Kd.S_typed HO.out k_ he).imp fun _ hc => blk_below hc HBd.out); replace R10 := Aside0.mk (Kd.R_over' (Kd.R_below R10.out HBd.out) T_.out (by decide) hg_); replace R14 := Aside0.mk (Kd.R_over' (Kd.R_below R14.out HBd.out) T_.out (by decide) hg_); have HB2 := Aside0.mk hb_; clear ho_ hb_ hg_ hat_ T_ R37; refine hK.out _ _ ?_; clear hK K; refine norm_y (some 40) ?_; refine pure_y 17 (some 41) (bz 19 262143) ?_; refine last_ (i := 18) (N := none) (bz 19 524287) rfl rfl (by kernel_rfl) (by decide) (fun K hK => ?_); have hy0_ := (blk_cell BK2.out 5).trans rfl; have hf_ := blk_frozen BK2.out; refine skip_ (w1 := ?_) (by rfl) rfl ?_ ?_; rotate_left; (go_simp; rfl); clear hy0_ hf_; refine hK.out _ _ ?_; clear hK K; refine done_ (by kernel_rfl) ?_; clear hHeld hz5_ h0 h1 h2; have BK3 := Aside0.mk (blk_put (cs' := #[.int .i64 x.light, .int .i64 x.under, .int .i64 x.trim, .slice A10 x.holds.length c10, .int .i64 x.leaves, .slice A40 (k + 1) c40, .slice A14 x.lots.length c14]) BK2.out 5 (.slice A40 (k + 1) c40) rfl); have BE3 := Aside0.mk (blk_far BE2.out (p := ⟨gb, 5, none⟩) NBE.out.symm (.slice A40 (k + 1) c40)); have HB3 := Aside0.mk (below_set HB2.out GEb.out (j := 5) (v := (.slice A40 (k + 1) c40))); have HO3 := Aside0.mk (Kd.S_set HO2.out BK2.out (by decide) 5 (.slice A40 (k + 1) c40)); replace R10 := Aside0.mk (Kd.R_set R10.out BK2.out (by decide) 5 (.slice A40 (k + 1) c40)); replace R14 := Aside0.mk (Kd.R_set R14.out BK2.out (by decide) 5 (.slice A40 (k + 1) c40)); generalize hW_ : w8.setCell ⟨gb, 5, none⟩ (.slice A40 (k + 1) c40) = w9 at *; clear hW_ BK BE HO HB BK2 BE2 HB2 HO2 HBd; go_wp2; go_roundg (x.sills.length - (k + 1))
   case measure => omega
   case rel => exact ⟨k + 1, by omega, by omega, by go_num, ⟨⟨_, BK3.out, by rw [htk.out]; exact HO3.out⟩⟩, BE3, R10, R14, HB3⟩
  ·
   (have : k = x.sills.length := by omega); subst this; have HOe := HO.out; rw [List.take_length] at HOe; have HO2 := Aside0.mk HOe; clear HOe HO; have hz0_ := (blk_cell BK.out 0).trans rfl; have hz1_ := (blk_cell BK.out 1).trans rfl; have hz2_ := (blk_cell BK.out 2).trans rfl; have hz3_ := (blk_cell BK.out 3).trans rfl; have hz4_ := (blk_cell BK.out 4).trans rfl; have hz5_ := (blk_cell BK.out 5).trans rfl; have hz6_ := (blk_cell BK.out 6).trans rfl; have hy0_ := (blk_cell BE.out 0).trans rfl; have hy1_ := (blk_cell BE.out 1).trans rfl; have hy2_ := (blk_cell BE.out 2).trans rfl; have hy3_ := (blk_cell BE.out 3).trans rfl; have hy4_ := (blk_cell BE.out 4).trans rfl; have hy5_ := (blk_cell BE.out 5).trans rfl; have hy6_ := (blk_cell BE.out 6).trans rfl; have hf_ := blk_frozen BE.out; go_wp2; have BR := BE; have BR0 := BR; replace BR := Aside0.mk (blk_put (cs' := #[.int .i64 x.light, .int .i64 0, .int .i64 0, .slice none 0 0, .int .i64 0, .slice none 0 0, .slice none 0 0]) BR.out 0 (.int .i64 x.light) rfl); have BR1 := BR; replace BR := Aside0.mk (blk_put (cs' := #[.int .i64 x.light, .int .i64 x.under, .int .i64 0, .slice none 0 0, .int .i64 0, .slice none 0 0, .slice none 0 0]) BR.out 1 (.int .i64 x.under) rfl); have BR2 := BR; replace BR := Aside0.mk (blk_put (cs' := #[.int .i64 x.light, .int .i64 x.under, .int .i64 x.trim, .slice none 0 0, .int .i64 0, .slice none 0 0, .slice none 0 0]) BR.out 2 (.int .i64 x.trim) rfl); have BR3 := BR; replace BR := Aside0.mk (blk_put (cs' := #[.int .i64 x.light, .int .i64 x.under, .int .i64 x.trim, .slice A10 x.holds.length c10, .int .i64 0, .slice none 0 0, .slice none 0 0]) BR.out 3 (.slice A10 x.holds.length c10) rfl); have BR4 := BR; replace BR := Aside0.mk (blk_put (cs' := #[.int .i64 x.light, .int .i64 x.under, .int .i64 x.trim, .slice A10 x.holds.length c10, .int .i64 x.leaves, .slice none 0 0, .slice none 0 0]) BR.out 4 (.int .i64 x.leaves) rfl); have BR5 := BR; replace BR := Aside0.mk (blk_put (cs' := #[.int .i64 x.light, .int .i64 x.under, .int .i64 x.trim, .slice A10 x.holds.length c10, .int .i64 x.leaves, .slice Av x.sills.length cv, .slice none 0 0]) BR.out 5 (.slice Av x.sills.length cv) rfl); have BR6 := BR; replace BR := Aside0.mk (blk_put (cs' := #[.int .i64 x.light, .int .i64 x.under, .int .i64 x.trim, .slice A10 x.holds.length c10, .int .i64 x.leaves, .slice Av x.sills.length cv, .slice A14 x.lots.length c14]) BR.out 6 (.slice A14 x.lots.length c14) rfl); have HBe := Aside0.mk (show Below w.heap.size w (((((((wr.setCell ⟨ge, 0, none⟩ (.int .i64 x.light)).setCell ⟨ge, 1, none⟩ (.int .i64 x.under)).setCell ⟨ge, 2, none⟩ (.int .i64 x.trim)).setCell ⟨ge, 3, none⟩ (.slice A10 x.holds.length c10)).setCell ⟨ge, 4, none⟩ (.int .i64 x.leaves)).setCell ⟨ge, 5, none⟩ (.slice Av x.sills.length cv)).setCell ⟨ge, 6, none⟩ (.slice A14 x.lots.length c14)) from below_set (below_set (below_set (below_set (below_set (below_set (below_set (HB.out) GEe.out) GEe.out) GEe.out) GEe.out) GEe.out) GEe.out) GEe.out); have HOe := Aside0.mk (Kd.S_set (Kd.S_set (Kd.S_set (Kd.S_set (Kd.S_set (Kd.S_set (Kd.S_set HO2.out BR0.out (by decide) 0 (.int .i64 x.light)) BR1.out (by decide) 1 (.int .i64 x.under)) BR2.out (by decide) 2 (.int .i64 x.trim)) BR3.out (by decide) 3 (.slice A10 x.holds.length c10)) BR4.out (by decide) 4 (.int .i64 x.leaves)) BR5.out (by decide) 5 (.slice Av x.sills.length cv)) BR6.out (by decide) 6 (.slice A14 x.lots.length c14)); have R10e := Aside0.mk (Kd.R_set (Kd.R_set (Kd.R_set (Kd.R_set (Kd.R_set (Kd.R_set (Kd.R_set R10.out BR0.out (by decide) 0 (.int .i64 x.light)) BR1.out (by decide) 1 (.int .i64 x.under)) BR2.out (by decide) 2 (.int .i64 x.trim)) BR3.out (by decide) 3 (.slice A10 x.holds.length c10)) BR4.out (by decide) 4 (.int .i64 x.leaves)) BR5.out (by decide) 5 (.slice Av x.sills.length cv)) BR6.out (by decide) 6 (.slice A14 x.lots.length c14)); have R14e := Aside0.mk (Kd.R_set (Kd.R_set (Kd.R_set (Kd.R_set (Kd.R_set (Kd.R_set (Kd.R_set R14.out BR0.out (by decide) 0 (.int .i64 x.light)) BR1.out (by decide) 1 (.int .i64 x.under)) BR2.out (by decide) 2 (.int .i64 x.trim)) BR3.out (by decide) 3 (.slice A10 x.holds.length c10)) BR4.out (by decide) 4 (.int .i64 x.leaves)) BR5.out (by decide) 5 (.slice Av x.sills.length cv)) BR6.out (by decide) 6 (.slice A14 x.lots.length c14)); clear hf_ BR0 BR1 BR2 BR3 BR4 BR5 BR6 BE HB HO2 R10 R14 BK hz0_ hz1_ hz2_ hz3_ hz4_ hz5_ hz6_ hy0_ hy1_ hy2_ hy3_ hy4_ hy5_ hy6_; generalize hW_ : ((((((wr.setCell ⟨ge, 0, none⟩ (.int .i64 x.light)).setCell ⟨ge, 1, none⟩ (.int .i64 x.under)).setCell ⟨ge, 2, none⟩ (.int .i64 x.trim)).setCell ⟨ge, 3, none⟩ (.slice A10 x.holds.length c10)).setCell ⟨ge, 4, none⟩ (.int .i64 x.leaves)).setCell ⟨ge, 5, none⟩ (.slice Av x.sills.length cv)).setCell ⟨ge, 6, none⟩ (.slice A14 x.lots.length c14) = we at *; clear hW_; have hr0_ := (blk_cell BR.out 0).trans rfl; have hr1_ := (blk_cell BR.out 1).trans rfl; have hr2_ := (blk_cell BR.out 2).trans rfl; have hr3_ := (blk_cell BR.out 3).trans rfl; have hr4_ := (blk_cell BR.out 4).trans rfl; have hr5_ := (blk_cell BR.out 5).trans rfl; have hr6_ := (blk_cell BR.out 6).trans rfl; exact bodyPost_ret (results_single (r := .cell 2 26) rfl (.cell ge 26 #[.int .i64 x.light, .int .i64 x.under, .int .i64 x.trim, .slice A10 x.holds.length c10, .int .i64 x.leaves, .slice Av x.sills.length cv, .slice A14 x.lots.length c14] (0, 0) _ rfl BR.out hu26 rfl (by kernel_rfl) .nil)) rfl ⟨_, _, _, rfl, R10e.out, HOe.out, R14e.out, HBe.out⟩
theorem swarfkit_CopyVoyage.calls (a0_0 : Int) (a0_1 : Int) (a0_2 : Int) (A0_3 : Option Addr) (c0_3 : Nat) (l0_3 : List (S85)) (a0_4 : Int) (A0_5 : Option Addr) (c0_5 : Nat) (l0_5 : List (S59)) (A0_6 : Option Addr) (c0_6 : Nat) (l0_6 : List (S79)) (r1 : Int) (r2 : Int) (r3 : Int) (r4 : List (S85)) (r5 : Int) (r6 : List (S59)) (r7 : List (S79)) (w : World) (hr0_3 : Kd.C k85 w A0_3 l0_3.length l0_3) (hc0_3 : l0_3.length ≤ c0_3) (hr0_5 : Kd.C k59 w A0_5 l0_5.length l0_5) (hc0_5 : l0_5.length ≤ c0_5) (hr0_6 : Kd.C k79 w A0_6 l0_6.length l0_6) (hc0_6 : l0_6.length ≤ c0_6) (h : swarfkit_CopyVoyage.f a0_0 a0_1 a0_2 l0_3 a0_4 l0_5 l0_6 = some (r1, r2, r3, r4, r5, r6, r7)) :
  Calls Try.prog 20 #[.agg #[.int .i64 a0_0, .int .i64 a0_1, .int .i64 a0_2, .slice A0_3 l0_3.length c0_3, .int .i64 a0_4, .slice A0_5 l0_5.length c0_5, .slice A0_6 l0_6.length c0_6]] w fun e w' => ∃ v3_ v5_ v6_ : Value, e = .returned (.agg #[.int .i64 r1, .int .i64 r2, .int .i64 r3, v3_, .int .i64 r5, v5_, v6_]) ∧ Kd.R k85 85 w' w.heap.size (fun _ => True) v3_ r4 ∧ Kd.S k59 59 w' w.heap.size (fun _ => True) v5_ r6 ∧ Kd.R k79 79 w' w.heap.size (fun _ => True) v6_ r7 ∧ Below w.heap.size w w' := by
 unfold swarfkit_CopyVoyage.f at h
 by_cases hn : copyOK l0_3 l0_5 l0_6
 ·
  rw [if_pos hn] at h; simp only [Option.some.injEq, Prod.mk.injEq] at h; obtain ⟨rfl, rfl, rfl, rfl, rfl, rfl, rfl⟩ := h; exact copy_calls ⟨_, _, _, A0_3, c0_3, _, _, A0_5, c0_5, _, A0_6, c0_6, _⟩ w ⟨hr0_3, hc0_3, hr0_5, hc0_5, hr0_6, hc0_6⟩ hn
 ·
  rw [if_neg hn] at h; cases h
theorem bestOf_from (good : List Int → Bool) (worth : List Int → Int) : ∀ (L : List (List Int)) (b : List Int × Int), bestOf good worth L b = b ∨ ∃ t, t ∈ L ∧ good t = true ∧ bestOf good worth L b = (t, worth t)
  | [], b => .inl rfl
  | u :: L, b => by
    obtain ⟨c, hc⟩ : ∃ c, c = (if good u = true then (if b.2 < worth u then (u, worth u) else b) else b) := ⟨_, rfl⟩
    have e : bestOf good worth (u :: L) b = bestOf good worth L c := by rw [hc]; rfl
    rw [e]
    rcases bestOf_from good worth L c with h | ⟨t, h1, h2, h3⟩
    · rw [h]
      by_cases hg : good u = true
      · rw [if_pos hg] at hc
        by_cases hw : b.2 < worth u
        · rw [if_pos hw] at hc; exact .inr ⟨u, List.mem_cons_self .., hg, hc⟩
        · rw [if_neg hw] at hc; exact .inl hc
      · rw [if_neg hg] at hc; exact .inl hc
    · exact .inr ⟨t, List.mem_cons_of_mem _ h1, h2, h3⟩
theorem VoyOK.mono {H S L' H' S' L2 : Nat} {T T' L U R V : Int} {holds : List S85} {sills : List S59} {lots : List S79} (h : VoyOK H S L' T L U R holds V sills lots) (h1 : H ≤ H') (h2 : S ≤ S') (h3 : L' ≤ L2) (h4 : T ≤ T') : VoyOK H' S' L2 T' L U R holds V sills lots :=
  ⟨h.light, h.under, h.trim, h.leaves, ⟨h.hn.1, Nat.le_trans h.hn.2 h1⟩, fun x hx => by obtain ⟨a, b, c⟩ := h.ho x hx; exact ⟨a, by omega, c⟩, Nat.le_trans h.sn h2,
    fun x hx => by
      obtain ⟨a, b, c, d, e, fr, hl⟩ := h.si x hx
      exact ⟨a, b, c, d, e, fr, fun i hi => by obtain ⟨p, q, r, s, t⟩ := hl.bd i hi; exact ⟨p, q, r, s, by omega⟩, hl.up, hl.zero, hl.first, hl.lim⟩,
    Nat.le_trans h.ln h3, fun x hx => by obtain ⟨a, b, c, d⟩ := h.lo x hx; exact ⟨a, b, by omega, d⟩⟩
structure HoldsLE (a b : List S85) : Prop where
  len : a.length ≤ b.length
  eq : ∀ g : Nat, g < a.length → (b.getD g z85).f1 = (a.getD g z85).f1 ∧ (b.getD g z85).f2 = (a.getD g z85).f2 ∧ (a.getD g z85).f0 ≤ (b.getD g z85).f0
  more : ∀ g : Nat, a.length ≤ g → g < b.length → 0 ≤ (b.getD g z85).f0
theorem copy_ok {H S L' : Nat} {T L U R V : Int} {holds : List S85} {sills : List S59} {lots : List S79} (h : VoyOK H S L' T L U R holds V sills lots) (hH : H ≤ 100) (hS : S ≤ 100) (hL : L' ≤ 100) : swarfkit_CopyVoyage.f L U R holds V sills lots = some (L, U, R, holds, V, sills, lots) := by
  unfold swarfkit_CopyVoyage.f
  have h1 := h.hn; have h2 := h.sn; have h3 := h.ln
  rw [if_pos ⟨by omega, by omega, by omega, fun x hx => by obtain ⟨_, _, _, _, a5, _⟩ := h.si x hx; omega⟩]
end Go.Proofs.Ytodmemndaaiolaa.PC7
namespace Go.Proofs.Ytodmemndaaiolaa.PC7
open Go.RowKit Go.Proofs.YtodmemndaaiolaaW.PrintWords Go.Proofs.YtodmemndaaiolaaW.PrintLast Go.Proofs.YtodmemndaaiolaaW.PrintMore
attribute [local go_sem] max2_int min2_int max_two min_two max_three min_three max_four min_four
set_option linter.unusedVariables false
set_option linter.unusedSimpArgs false
def swarfref07_Good.f (k : Nat) (a0_0 : Int) (a0_1 : Int) (a0_2 : Int) (l0_3 : List (S85)) (a0_4 : Int) (l0_5 : List (S59)) (l0_6 : List (S79)) (l1 : List Int) : Option (Bool) := (swarfref07_stowed.f k a0_0 a0_1 a0_2 l0_3 a0_4 l0_5 l0_6 l1).bind fun t584 => (if t584 = 0 then ((swarfref07_level.f k a0_0 a0_1 a0_2 l0_3 a0_4 l0_5 l0_6 l1).bind fun bt585 => ((swarfref07_sail.f k a0_0 a0_1 a0_2 l0_3 a0_4 l0_5 l0_6 l1).bind fun bt589 => (if bt585.1 = true then (some (bt589.1 == 1)) else (some false)))) else (some false))
set_option maxHeartbeats 8000000 in
set_option maxRecDepth 100000 in
theorem swarfref07_Good.calls (k : Nat) (a0_0 : Int) (a0_1 : Int) (a0_2 : Int) (A0_3 : Option Addr) (c0_3 : Nat) (l0_3 : List (S85)) (a0_4 : Int) (A0_5 : Option Addr) (c0_5 : Nat) (l0_5 : List (S59)) (A0_6 : Option Addr) (c0_6 : Nat) (l0_6 : List (S79)) (A1 : Option Addr) (c1 : Nat) (l1 : List Int) (r : Bool) (w : World) (hr0_3 : Kd.C k85 w A0_3 l0_3.length l0_3) (hc0_3 : l0_3.length ≤ c0_3) (hr0_5 : Kd.C k59 w A0_5 l0_5.length l0_5) (hc0_5 : l0_5.length ≤ c0_5) (hr0_6 : Kd.C k79 w A0_6 l0_6.length l0_6) (hc0_6 : l0_6.length ≤ c0_6) (hr1 : Kd.C (Kd.int .i64) w A1 l1.length l1) (hc1 : l1.length ≤ c1) (h : swarfref07_Good.f k a0_0 a0_1 a0_2 l0_3 a0_4 l0_5 l0_6 l1 = some r) :
  Calls Try.prog 69 #[.agg #[.int .i64 a0_0, .int .i64 a0_1, .int .i64 a0_2, .slice A0_3 l0_3.length c0_3, .int .i64 a0_4, .slice A0_5 l0_5.length c0_5, .slice A0_6 l0_6.length c0_6], .slice A1 l1.length c1] w fun e w' => e = .returned (.bool r) ∧ Below w.heap.size w w' := by
 have hu26 := Try.underlying26
 have hu56 := Try.underlying56
 have HR0_3 := Aside0.mk hr0_3
 have HC0_3 := Aside0.mk hc0_3
 clear hr0_3 hc0_3
 have HR0_5 := Aside0.mk hr0_5
 have HC0_5 := Aside0.mk hc0_5
 clear hr0_5 hc0_5
 have HR0_6 := Aside0.mk hr0_6
 have HC0_6 := Aside0.mk hc0_6
 clear hr0_6 hc0_6
 have HR1 := Aside0.mk hr1
 have HC1 := Aside0.mk hc1
 clear hr1 hc1
 have HB := Aside0.mk (Below.refl w.heap.size w)
 have H : ((swarfref07_stowed.f k a0_0 a0_1 a0_2 l0_3 a0_4 l0_5 l0_6 l1).bind fun t584 => (if t584 = 0 then ((swarfref07_level.f k a0_0 a0_1 a0_2 l0_3 a0_4 l0_5 l0_6 l1).bind fun bt585 => ((swarfref07_sail.f k a0_0 a0_1 a0_2 l0_3 a0_4 l0_5 l0_6 l1).bind fun bt589 => (if bt585.1 = true then (some (bt589.1 == 1)) else (some false)))) else (some false))) = some r := h
 clear h
 replace H := Option.bind_eq_some_iff.mp H
 obtain ⟨t584, A30, H⟩ := H
 try dsimp only at H
 have A3 := Aside0.mk A30
 clear A30
 by_cases c4 : t584 = 0
 ·
  rw [if_pos c4] at H; have c4b0 : (t584 == 0) = true := beq_iff_eq.mpr c4; have c4b1 : (t584 != 0) = false := bne_eq_false_iff_eq.mpr c4; clear c4; replace H := Option.bind_eq_some_iff.mp H; obtain ⟨⟨t585, t586, t587⟩, A50, H⟩ := H
  try dsimp only at H
  have A5 := Aside0.mk A50; clear A50; replace H := Option.bind_eq_some_iff.mp H; obtain ⟨⟨t589, t590⟩, A60, H⟩ := H
  try dsimp only at H
  have A6 := Aside0.mk A60; clear A60; by_cases c7 : t585 = true
  ·
   subst c7; (have H1 : (some (t589 == 1)) = some r := by rw [if_pos rfl] at H; exact H); clear H; have H := H1; clear H1; obtain rfl := Option.some.inj H; go_enter Try.func69, Try.ntmps69
   go_wp2_with (first | (refine box_r (N := 2) rfl (cs := #[.int .i64 a0_0, .int .i64 a0_1, .int .i64 a0_2, .slice A0_3 l0_3.length c0_3, .int .i64 a0_4, .slice A0_5 l0_5.length c0_5, .slice A0_6 l0_6.length c0_6]) (t := 26) ?_; intro gb583 hg w8 hbox hb; have BK583 := Aside0.mk (hbox); have GW583 := gw_x hg HB; have GE583 := GW583; replace HB := Aside0.mk (below_step (below_x HB.out) hb); clear hb hbox hg; obtain ⟨hfz9_0, _, _, _, _, _, _, _⟩ := cf7 BK583) | (refine goesG_x 76 rfl (some 11) Try.func76 #[.agg #[.int .i64 a0_0, .int .i64 a0_1, .int .i64 a0_2, .slice A0_3 l0_3.length c0_3, .int .i64 a0_4, .slice A0_5 l0_5.length c0_5, .slice A0_6 l0_6.length c0_6], .slice A1 l1.length c1] ?_; (with_reducible refine (swarfref07_stowed.calls k a0_0 a0_1 a0_2 _ _ l0_3 a0_4 _ _ l0_5 _ _ l0_6 _ _ l1 t584 _ ?side1 ?side2 ?side3 ?side4 ?side5 ?side6 ?side7 ?side8 A3.out).mono ?_); (case side1 => exact Kd.C_x HR0_3.out HB.out); (case side2 => exact HC0_3.out); (case side3 => exact Kd.C_x HR0_5.out HB.out); (case side4 => exact HC0_5.out); (case side5 => exact Kd.C_x HR0_6.out HB.out); (case side6 => exact HC0_6.out); (case side7 => exact Kd.C_x HR1.out HB.out); (case side8 => exact HC1.out); rintro e w10 ⟨rfl, hb⟩; refine ⟨_, rfl, ?_⟩; replace BK583 := bk_x BK583 hb; replace HB := bl_x HB hb; (try clear hb); (try clear hk); (try clear hi); obtain ⟨hfz11_0, _, _, _, _, _, _, _⟩ := cf7 BK583) | (refine goesG_x 71 rfl (some 16) Try.func71 #[.agg #[.int .i64 a0_0, .int .i64 a0_1, .int .i64 a0_2, .slice A0_3 l0_3.length c0_3, .int .i64 a0_4, .slice A0_5 l0_5.length c0_5, .slice A0_6 l0_6.length c0_6], .slice A1 l1.length c1] ?_; (with_reducible refine (swarfref07_level.calls k a0_0 a0_1 a0_2 _ _ l0_3 a0_4 _ _ l0_5 _ _ l0_6 _ _ l1 true t586 t587 _ ?side1 ?side2 ?side3 ?side4 ?side5 ?side6 ?side7 ?side8 A5.out).mono ?_); (case side1 => exact Kd.C_x HR0_3.out HB.out); (case side2 => exact HC0_3.out); (case side3 => exact Kd.C_x HR0_5.out HB.out); (case side4 => exact HC0_5.out); (case side5 => exact Kd.C_x HR0_6.out HB.out); (case side6 => exact HC0_6.out); (case side7 => exact Kd.C_x HR1.out HB.out); (case side8 => exact HC1.out); rintro e w12 ⟨rfl, hb⟩; refine ⟨_, rfl, ?_⟩; replace BK583 := bk_x BK583 hb; replace HB := bl_x HB hb; (try clear hb); (try clear hk); (try clear hi)) | (refine box_r (N := 6) rfl (cs := #[.int .i64 0, .int .i64 0]) (t := 56) ?_; intro gb588 hg w13 hbox hb; have BK588 := Aside0.mk (hbox); have GW588 := gw_x hg HB; have GE588 := GW588; replace HB := bl_x HB hb; have NB583_588 := nb_x hg BK583; have NB588_583 := nb_y hg BK583; replace BK583 := bk_x BK583 hb; clear hb hbox hg; have hnb14 := NB588_583.out; have hnc14 := NB583_588.out; obtain ⟨hfz15_0, _, _⟩ := cf2 BK588; obtain ⟨hfz16_0, _, _, _, _, _, _, _⟩ := cf7 BK583) | (refine goesG_x 57 rfl (some 22) Try.func57 #[.agg #[.int .i64 a0_0, .int .i64 a0_1, .int .i64 a0_2, .slice A0_3 l0_3.length c0_3, .int .i64 a0_4, .slice A0_5 l0_5.length c0_5, .slice A0_6 l0_6.length c0_6], .slice A1 l1.length c1] ?_; (with_reducible refine (swarfref07_sail.calls k a0_0 a0_1 a0_2 _ _ l0_3 a0_4 _ _ l0_5 _ _ l0_6 _ _ l1 t589 t590 _ ?side1 ?side2 ?side3 ?side4 ?side5 ?side6 ?side7 ?side8 A6.out).mono ?_); (case side1 => exact Kd.C_below HR0_3.out (by exact below_y HB.out)); (case side2 => exact HC0_3.out); (case side3 => exact Kd.C_below HR0_5.out (by exact below_y HB.out)); (case side4 => exact HC0_5.out); (case side5 => exact Kd.C_below HR0_6.out (by exact below_y HB.out)); (case side6 => exact HC0_6.out); (case side7 => exact Kd.C_below HR1.out (by exact below_y HB.out)); (case side8 => exact HC1.out); rintro e w17 ⟨v591, rfl, ho0, hb⟩; refine ⟨_, rfl, ?_⟩; have HO592 := Aside0.mk (Kd.R_lower (Kd.R_newB ho0 (g := gb588) (o := .cells #[.int .i64 t586, .int .i64 t587] 56 (0, 0)) (blk_z BK588.out)) (below_size (by exact below_y HB.out))); replace BK583 := Aside0.mk (blk_below (g := gb583) (o := .cells #[.int .i64 a0_0, .int .i64 a0_1, .int .i64 a0_2, .slice A0_3 l0_3.length c0_3, .int .i64 a0_4, .slice A0_5 l0_5.length c0_5, .slice A0_6 l0_6.length c0_6] 26 (0, 0)) (blk_w BK583.out) hb); replace BK588 := Aside0.mk (blk_below (g := gb588) (o := .cells #[.int .i64 t586, .int .i64 t587] 56 (0, 0)) (blk_z BK588.out) hb); replace HB := bl_x HB hb; (try clear hb); (try clear hk); (try clear hi); (try clear ho0)))
   go_ret; exact rt_y HB
  ·
   replace c7 := Bool.eq_false_iff.mpr c7; subst c7; replace H : (some false) = some r := ifn_x H; obtain rfl := Option.some.inj H; go_enter Try.func69, Try.ntmps69
   go_wp2_with (first | (refine box_r (N := 2) rfl (cs := #[.int .i64 a0_0, .int .i64 a0_1, .int .i64 a0_2, .slice A0_3 l0_3.length c0_3, .int .i64 a0_4, .slice A0_5 l0_5.length c0_5, .slice A0_6 l0_6.length c0_6]) (t := 26) ?_; intro gb583 hg w18 hbox hb; have BK583 := Aside0.mk (hbox); have GW583 := gw_x hg HB; have GE583 := GW583; replace HB := Aside0.mk (below_step (below_x HB.out) hb); clear hb hbox hg; obtain ⟨hfz19_0, _, _, _, _, _, _, _⟩ := cf7 BK583) | (refine goesG_x 76 rfl (some 11) Try.func76 #[.agg #[.int .i64 a0_0, .int .i64 a0_1, .int .i64 a0_2, .slice A0_3 l0_3.length c0_3, .int .i64 a0_4, .slice A0_5 l0_5.length c0_5, .slice A0_6 l0_6.length c0_6], .slice A1 l1.length c1] ?_; (with_reducible refine (swarfref07_stowed.calls k a0_0 a0_1 a0_2 _ _ l0_3 a0_4 _ _ l0_5 _ _ l0_6 _ _ l1 t584 _ ?side1 ?side2 ?side3 ?side4 ?side5 ?side6 ?side7 ?side8 A3.out).mono ?_); (case side1 => exact Kd.C_x HR0_3.out HB.out); (case side2 => exact HC0_3.out); (case side3 => exact Kd.C_x HR0_5.out HB.out); (case side4 => exact HC0_5.out); (case side5 => exact Kd.C_x HR0_6.out HB.out); (case side6 => exact HC0_6.out); (case side7 => exact Kd.C_x HR1.out HB.out); (case side8 => exact HC1.out); rintro e w20 ⟨rfl, hb⟩; refine ⟨_, rfl, ?_⟩; replace BK583 := bk_x BK583 hb; replace HB := bl_x HB hb; (try clear hb); (try clear hk); (try clear hi); obtain ⟨hfz21_0, _, _, _, _, _, _, _⟩ := cf7 BK583) | (refine goesG_x 71 rfl (some 16) Try.func71 #[.agg #[.int .i64 a0_0, .int .i64 a0_1, .int .i64 a0_2, .slice A0_3 l0_3.length c0_3, .int .i64 a0_4, .slice A0_5 l0_5.length c0_5, .slice A0_6 l0_6.length c0_6], .slice A1 l1.length c1] ?_; (with_reducible refine (swarfref07_level.calls k a0_0 a0_1 a0_2 _ _ l0_3 a0_4 _ _ l0_5 _ _ l0_6 _ _ l1 false t586 t587 _ ?side1 ?side2 ?side3 ?side4 ?side5 ?side6 ?side7 ?side8 A5.out).mono ?_); (case side1 => exact Kd.C_x HR0_3.out HB.out); (case side2 => exact HC0_3.out); (case side3 => exact Kd.C_x HR0_5.out HB.out); (case side4 => exact HC0_5.out); (case side5 => exact Kd.C_x HR0_6.out HB.out); (case side6 => exact HC0_6.out); (case side7 => exact Kd.C_x HR1.out HB.out); (case side8 => exact HC1.out); rintro e w22 ⟨rfl, hb⟩; refine ⟨_, rfl, ?_⟩; replace BK583 := bk_x BK583 hb; replace HB := bl_x HB hb; (try clear hb); (try clear hk); (try clear hi)) | (refine box_r (N := 6) rfl (cs := #[.int .i64 0, .int .i64 0]) (t := 56) ?_; intro gb588 hg w23 hbox hb; have BK588 := Aside0.mk (hbox); have GW588 := gw_x hg HB; have GE588 := GW588; replace HB := bl_x HB hb; have NB583_588 := nb_x hg BK583; have NB588_583 := nb_y hg BK583; replace BK583 := bk_x BK583 hb; clear hb hbox hg; have hnb24 := NB588_583.out; have hnc24 := NB583_588.out; obtain ⟨hfz25_0, _, _⟩ := cf2 BK588; obtain ⟨hfz26_0, _, _, _, _, _, _, _⟩ := cf7 BK583) | (refine goesG_x 57 rfl (some 22) Try.func57 #[.agg #[.int .i64 a0_0, .int .i64 a0_1, .int .i64 a0_2, .slice A0_3 l0_3.length c0_3, .int .i64 a0_4, .slice A0_5 l0_5.length c0_5, .slice A0_6 l0_6.length c0_6], .slice A1 l1.length c1] ?_; (with_reducible refine (swarfref07_sail.calls k a0_0 a0_1 a0_2 _ _ l0_3 a0_4 _ _ l0_5 _ _ l0_6 _ _ l1 t589 t590 _ ?side1 ?side2 ?side3 ?side4 ?side5 ?side6 ?side7 ?side8 A6.out).mono ?_); (case side1 => exact Kd.C_below HR0_3.out (by exact below_y HB.out)); (case side2 => exact HC0_3.out); (case side3 => exact Kd.C_below HR0_5.out (by exact below_y HB.out)); (case side4 => exact HC0_5.out); (case side5 => exact Kd.C_below HR0_6.out (by exact below_y HB.out)); (case side6 => exact HC0_6.out); (case side7 => exact Kd.C_below HR1.out (by exact below_y HB.out)); (case side8 => exact HC1.out); rintro e w27 ⟨v591, rfl, ho0, hb⟩; refine ⟨_, rfl, ?_⟩; have HO592 := Aside0.mk (Kd.R_lower (Kd.R_newB ho0 (g := gb588) (o := .cells #[.int .i64 t586, .int .i64 t587] 56 (0, 0)) (blk_z BK588.out)) (below_size (by exact below_y HB.out))); replace BK583 := Aside0.mk (blk_below (g := gb583) (o := .cells #[.int .i64 a0_0, .int .i64 a0_1, .int .i64 a0_2, .slice A0_3 l0_3.length c0_3, .int .i64 a0_4, .slice A0_5 l0_5.length c0_5, .slice A0_6 l0_6.length c0_6] 26 (0, 0)) (blk_w BK583.out) hb); replace BK588 := Aside0.mk (blk_below (g := gb588) (o := .cells #[.int .i64 t586, .int .i64 t587] 56 (0, 0)) (blk_z BK588.out) hb); replace HB := bl_x HB hb; (try clear hb); (try clear hk); (try clear hi); (try clear ho0)))
   go_ret; exact rt_y HB
 ·
  rw [if_neg c4] at H; have c4b0 : (t584 == 0) = false := beq_eq_false_iff_ne.mpr c4; have c4b1 : (t584 != 0) = true := bne_iff_ne.mpr c4; obtain rfl := Option.some.inj H; go_enter Try.func69, Try.ntmps69
  go_wp2_with (first | (refine box_r (N := 2) rfl (cs := #[.int .i64 a0_0, .int .i64 a0_1, .int .i64 a0_2, .slice A0_3 l0_3.length c0_3, .int .i64 a0_4, .slice A0_5 l0_5.length c0_5, .slice A0_6 l0_6.length c0_6]) (t := 26) ?_; intro gb583 hg w28 hbox hb; have BK583 := Aside0.mk (hbox); have GW583 := gw_x hg HB; have GE583 := GW583; replace HB := Aside0.mk (below_step (below_x HB.out) hb); clear hb hbox hg; obtain ⟨hfz29_0, _, _, _, _, _, _, _⟩ := cf7 BK583) | (refine goesG_x 76 rfl (some 11) Try.func76 #[.agg #[.int .i64 a0_0, .int .i64 a0_1, .int .i64 a0_2, .slice A0_3 l0_3.length c0_3, .int .i64 a0_4, .slice A0_5 l0_5.length c0_5, .slice A0_6 l0_6.length c0_6], .slice A1 l1.length c1] ?_; (with_reducible refine (swarfref07_stowed.calls k a0_0 a0_1 a0_2 _ _ l0_3 a0_4 _ _ l0_5 _ _ l0_6 _ _ l1 t584 _ ?side1 ?side2 ?side3 ?side4 ?side5 ?side6 ?side7 ?side8 A3.out).mono ?_); (case side1 => exact Kd.C_x HR0_3.out HB.out); (case side2 => exact HC0_3.out); (case side3 => exact Kd.C_x HR0_5.out HB.out); (case side4 => exact HC0_5.out); (case side5 => exact Kd.C_x HR0_6.out HB.out); (case side6 => exact HC0_6.out); (case side7 => exact Kd.C_x HR1.out HB.out); (case side8 => exact HC1.out); rintro e w30 ⟨rfl, hb⟩; refine ⟨_, rfl, ?_⟩; replace BK583 := bk_x BK583 hb; replace HB := bl_x HB hb; (try clear hb); (try clear hk); (try clear hi)))
  go_ret; exact rt_y HB
def swarfref07_Worth.l0 : Nat → List Int → Int → Int → Int → Int → Int → List (S85) → Int → List (S59) → List (S79) → Option (Int)
 | 0, _, _, _, _, _, _, _, _, _, _ => none
 | k + 1, x1, x5, x6, x571000, x571001, x571002, x571003, x571004, x571005, x571006 => if x6 < (x1.length : Int) then (if 0 ≤ x6 then (if (rd x1 x6) ≥ 0 then (if x6 < (x571006.length : Int) then (swarfref07_Worth.l0 k x1 (wrap64 (x5 + ((rd_T79 x571006 x6).f1))) (wrap64 (x6 + 1)) x571000 x571001 x571002 x571003 x571004 x571005 x571006) else (none)) else (swarfref07_Worth.l0 k x1 x5 (wrap64 (x6 + 1)) x571000 x571001 x571002 x571003 x571004 x571005 x571006)) else (none)) else (some x5)
def swarfref07_Worth.f (k : Nat) (a0_0 : Int) (a0_1 : Int) (a0_2 : Int) (l0_3 : List (S85)) (a0_4 : Int) (l0_5 : List (S59)) (l0_6 : List (S79)) (l1 : List Int) : Option (Int) := swarfref07_Worth.l0 k l1 0 0 a0_0 a0_1 a0_2 l0_3 a0_4 l0_5 l0_6
set_option maxHeartbeats 8000000 in
set_option maxRecDepth 100000 in
theorem swarfref07_Worth.calls (k : Nat) (a0_0 : Int) (a0_1 : Int) (a0_2 : Int) (A0_3 : Option Addr) (c0_3 : Nat) (l0_3 : List (S85)) (a0_4 : Int) (A0_5 : Option Addr) (c0_5 : Nat) (l0_5 : List (S59)) (A0_6 : Option Addr) (c0_6 : Nat) (l0_6 : List (S79)) (A1 : Option Addr) (c1 : Nat) (l1 : List Int) (r : Int) (w : World) (hr0_3 : Kd.C k85 w A0_3 l0_3.length l0_3) (hc0_3 : l0_3.length ≤ c0_3) (hr0_5 : Kd.C k59 w A0_5 l0_5.length l0_5) (hc0_5 : l0_5.length ≤ c0_5) (hr0_6 : Kd.C k79 w A0_6 l0_6.length l0_6) (hc0_6 : l0_6.length ≤ c0_6) (hr1 : Kd.C (Kd.int .i64) w A1 l1.length l1) (hc1 : l1.length ≤ c1) (h : swarfref07_Worth.f k a0_0 a0_1 a0_2 l0_3 a0_4 l0_5 l0_6 l1 = some r) :
  Calls Try.prog 68 #[.agg #[.int .i64 a0_0, .int .i64 a0_1, .int .i64 a0_2, .slice A0_3 l0_3.length c0_3, .int .i64 a0_4, .slice A0_5 l0_5.length c0_5, .slice A0_6 l0_6.length c0_6], .slice A1 l1.length c1] w fun e w' => e = .returned (.int .i64 r) ∧ Below w.heap.size w w' := by
 have hu26 := Try.underlying26
 have HR0_3 := Aside0.mk hr0_3
 have HC0_3 := Aside0.mk hc0_3
 clear hr0_3 hc0_3
 have HR0_5 := Aside0.mk hr0_5
 have HC0_5 := Aside0.mk hc0_5
 clear hr0_5 hc0_5
 have HR0_6 := Aside0.mk hr0_6
 have HC0_6 := Aside0.mk hc0_6
 clear hr0_6 hc0_6
 have HR1 := Aside0.mk hr1
 have HC1 := Aside0.mk hc1
 clear hr1 hc1
 have HB := Aside0.mk (Below.refl w.heap.size w)
 have H : (swarfref07_Worth.l0 k l1 0 0 a0_0 a0_1 a0_2 l0_3 a0_4 l0_5 l0_6) = some r := h
 clear h
 have H' := Aside0.mk H
 clear H
 go_enter Try.func68, Try.ntmps68
 go_wp2_with (first | (refine box_r (N := 2) rfl (cs := #[.int .i64 a0_0, .int .i64 a0_1, .int .i64 a0_2, .slice A0_3 l0_3.length c0_3, .int .i64 a0_4, .slice A0_5 l0_5.length c0_5, .slice A0_6 l0_6.length c0_6]) (t := 26) ?_; intro gb570 hg w3 hbox hb; have BK570 := Aside0.mk (hbox); have GW570 := gw_x hg HB; have GE570 := GW570; replace HB := Aside0.mk (below_step (below_x HB.out) hb); clear hb hbox hg))
 go_loopg [5, 6] k (fun kq v5 v6 w' => ∃ (x5_1 : Int) (x6_1 : Int), v5 = .int .i64 x5_1 ∧ v6 = .int .i64 x6_1 ∧ Aside0 (swarfref07_Worth.l0 kq l1 x5_1 x6_1 a0_0 a0_1 a0_2 l0_3 a0_4 l0_5 l0_6 = some r) ∧ Aside0 (kq ≤ k) ∧ Aside0 (w'.heap[gb570]? = some (.cells #[.int .i64 a0_0, .int .i64 a0_1, .int .i64 a0_2, (.slice A0_3 l0_3.length c0_3), .int .i64 a0_4, (.slice A0_5 l0_5.length c0_5), (.slice A0_6 l0_6.length c0_6)] 26 (0, 0))) ∧ Aside0 (Below w.heap.size w w'))
 case atStart => exact ⟨(0), (0), (by first | rfl | (simp; done) | (simp [*]; done)), (by first | rfl | (simp; done) | (simp [*]; done)), H', ⟨Nat.le_refl _⟩, ⟨blk_x BK570.out⟩, ⟨by exact below_y HB.out⟩⟩
 case round =>
  clear H'; obtain ⟨x5_1, x6_1, rfl, rfl, HA, HK1, BK570, HB⟩ := hrel; cases gk with
  | zero => exact absurd HA.out (by simp [swarfref07_Worth.l0])
  | succ k1 =>
   have H := HA.out; clear HA; simp only [swarfref07_Worth.l0] at H; by_cases c4 : x6_1 < (l1.length : Int)
   ·
    rw [if_pos c4] at H; have c4b0 : decide (x6_1 < (l1.length : Int)) = true := decide_eq_true c4; clear c4; by_cases c5 : 0 ≤ x6_1
    ·
     rw [if_pos c5] at H; have c5b0 : decide (0 ≤ x6_1) = true := decide_eq_true c5; clear c5; by_cases c6 : (rd l1 x6_1) ≥ 0
     ·
      rw [if_pos c6] at H; have c6b0 : decide (0 ≤ (rd l1 x6_1)) = true := decide_eq_true c6; clear c6; by_cases c7 : x6_1 < (l0_6.length : Int)
      ·
       rw [if_pos c7] at H; have c7b0 : decide (x6_1 < (l0_6.length : Int)) = true := decide_eq_true c7; clear c7; have H' := Aside0.mk H; clear H; have p571 : 0 ≤ (x6_1 : Int) := of_x; have q571 : x6_1 < (l1.length : Int) := of_x; obtain ⟨ad571, e571, hx571_0⟩ := Kd.at_int HR1.out x6_1 p571 q571; (cases e571); replace hx571_0 := cell_x HB hx571_0; replace p571 := eq_true p571; replace q571 := eq_true q571; obtain ⟨hfz8_0, _, _, _, _, _, _, _⟩ := cf7 BK570; have p572 : 0 ≤ (x6_1 : Int) := of_x; have q572 : x6_1 < (l0_6.length : Int) := of_x; obtain ⟨ad572, e572, hx572_0, hx572_1, hx572_2⟩ := at_T79 HR0_6.out x6_1 p572 q572; (cases e572); replace hx572_0 := cell_x HB hx572_0; replace hx572_1 := cell_x HB hx572_1; replace hx572_2 := cell_x HB hx572_2; replace p572 := eq_true p572; replace q572 := eq_true q572; go_wp2; go_roundg k1
       case measure => have := HK1.out; omega
       case rel => exact ⟨(wrap64 (x5_1 + ((rd_T79 l0_6 x6_1).f1))), (wrap64 (x6_1 + 1)), (by first | rfl | (simp; done) | (simp [*]; done)), (by first | rfl | (simp; done) | (simp [*]; done)), H', ⟨by have := HK1.out; omega⟩, ⟨blk_x BK570.out⟩, ⟨by exact below_y HB.out⟩⟩
      ·
       rw [if_neg c7] at H; exact absurd H (by simp)
     ·
      rw [if_neg c6] at H; have c6b0 : decide (0 ≤ (rd l1 x6_1)) = false := decide_eq_false c6; clear c6; have H' := Aside0.mk H; clear H; have p571 : 0 ≤ (x6_1 : Int) := of_x; have q571 : x6_1 < (l1.length : Int) := of_x; obtain ⟨ad571, e571, hx571_0⟩ := Kd.at_int HR1.out x6_1 p571 q571; (cases e571); replace hx571_0 := cell_x HB hx571_0; replace p571 := eq_true p571; replace q571 := eq_true q571; go_wp2; go_roundg k1
      case measure => have := HK1.out; omega
      case rel => exact ⟨(x5_1), (wrap64 (x6_1 + 1)), (by first | rfl | (simp; done) | (simp [*]; done)), (by first | rfl | (simp; done) | (simp [*]; done)), H', ⟨by have := HK1.out; omega⟩, ⟨blk_x BK570.out⟩, ⟨by exact below_y HB.out⟩⟩
    ·
     rw [if_neg c5] at H; exact absurd H (by simp)
   ·
    rw [if_neg c4] at H; have c4b0 : decide (x6_1 < (l1.length : Int)) = false := decide_eq_false c4; clear c4; obtain rfl := Option.some.inj H; go_wp2; go_ret; exact rt_y HB
end Go.Proofs.Ytodmemndaaiolaa.PC7
namespace Go.Proofs.Ytodmemndaaiolaa.PC7
set_option linter.unusedVariables false
set_option linter.unusedSimpArgs false
open Go.RowKit Go.Proofs.YtodmemndaaiolaaW.PrintWords Go.Proofs.YtodmemndaaiolaaW.PrintLast Go.Proofs.YtodmemndaaiolaaW.PrintMore
theorem sailing_ev {L U R V : Int} {holds : List S85} {sills : List S59} {lots : List S79} (hv : Valid L U R holds V sills lots) (s : List Int) (hs : s.length = lots.length) (hrg : ∀ y, y ∈ s → -1 ≤ y ∧ y < (holds.length : Int)) :
    ∃ q : Q4, ladenO L holds lots s = some q ∧ (sailO U V sills q false).length ≤ sills.length ∧ Ev (fun k => swarfref07_sail.f k L U R holds V sills lots s) (verdictE sills.length (sailO U V sills q true) (sailO U V sills q false), overE (sailO U V sills q true) (sailO U V sills q false)) := by
  have hsi : ∀ x, x ∈ sills → SillB x := fun x hx => sillE_zero (hv.si x hx)
  have hli := hv.light; have hun := hv.under; have hle := hv.leaves; have hln := hv.ln; have hsn := hv.sn; have hhn := hv.hn
  have hw : wrap64 (1000 * L) = 1000 * L := wrap64_id (by omega) (by omega)
  have hq0 : QOK (10000000 + 50000000 * ((0 : Nat) : Int)) ⟨wrap64 (1000 * L), wrap64 (1000 * L), wrap64 (1000 * L), wrap64 (1000 * L)⟩ := by
    rw [hw]; exact ⟨⟨by show 0 ≤ 1000 * L; omega, Int.le_refl _⟩, ⟨by show 0 ≤ 1000 * L; omega, Int.le_refl _⟩, by show 1000 * L ≤ _; omega, by show 1000 * L ≤ _; omega⟩
  obtain ⟨q, k1, k2, k3, k4⟩ := lad_both L U R V holds sills lots (fun x hx => ⟨(hv.ho x hx).2.1, (hv.ho x hx).2.2⟩) (fun c hc => by obtain ⟨a, b, c, _⟩ := hv.lo c hc; exact ⟨a, b, c⟩) (by omega) (by omega) s hs hrg lots.length 0 _ (by omega) hq0
  rw [List.drop_zero] at k1
  have oq : QOK 10000000000 q := ⟨k2.b0, k2.b1, by have := k2.h0; omega, by have := k2.h1; omega⟩
  have n1 := needsW_eq oq hun true
  have n2 := needsW_eq oq hun false
  simp only [if_true, Bool.false_eq_true, if_false] at n1 n2
  have b0 := oq.b0; have b1 := oq.b1
  have hlen : (sailO U V sills q false).length ≤ (sailO U V sills q true).length := by
    unfold sailO
    rw [sailW_eqB false _ sills hsi V hle.1 hle.2, sailW_eqB true _ sills hsi V hle.1 hle.2]
    exact (sailL_le _ _ V V _ _ (better_soonB sills hsi) (sillsOK_B hsi false) (sillsOK_B hsi true) hle.1 (Int.le_refl _) (by omega)).1
  have htop : (sailO U V sills q false).length ≤ sills.length := sailW_len _ _ _ _
  refine ⟨q, k1, htop, ?_⟩
  have hlg := lightest_ev L U R V holds sills lots (by omega) lots.length 0 [] (by omega) rfl
  have hhv := heaviest_ev L U R V holds sills lots (by omega) lots.length 0 [] (by omega) rfl
  rw [List.drop_zero, List.nil_append] at hlg hhv
  have hdr : Ev (fun k => swarfref07_drafts.f k L U R holds V sills lots s) (q.b0, q.h0, q.b1, q.h1) := by
    unfold swarfref07_drafts.f
    refine Ev.bind (show Ev (fun k => swarfref07_Lightest.f k L U R holds V sills lots) _ from hlg) ?_
    refine Ev.bind (show Ev (fun k => swarfref07_Ends.f k L U R holds V sills lots s (lots.map fun c => c.f0.f0)) _ from k3) ?_
    refine Ev.bind (show Ev (fun k => swarfref07_Heaviest.f k L U R holds V sills lots) _ from hhv) ?_
    exact Ev.bind (show Ev (fun k => swarfref07_Ends.f k L U R holds V sills lots s (lots.map fun c => c.f0.f1)) _ from k4) (Ev.now _)
  have hwl := way_ev L U R V holds sills lots (needsW U q true) true (by omega) hsi sills.length 0 V [] (by omega) rfl
  have hbd := way_ev L U R V holds sills lots (needsW U q false) false (by omega) hsi sills.length 0 V [] (by omega) rfl
  rw [List.drop_zero, List.nil_append] at hwl hbd
  unfold swarfref07_sail.f
  refine Ev.bind hdr ?_
  refine Ev.bind (show Ev (fun k => swarfref07_way.f k L U R holds V sills lots (wrap64 (mx q.b0 q.b1 + wrap64 (1000 * U))) true) _ from hwl) ?_
  refine Ev.bind (show Ev (fun k => swarfref07_way.f k L U R holds V sills lots (wrap64 (mx q.h0 q.h1 + wrap64 (1000 * U))) false) _ from hbd) ?_
  exact sail_l0 L U R V holds sills lots _ _ hlen (by omega) (sailO U V sills q false).length 0 (by omega)
theorem good_both {L U R V : Int} {holds : List S85} {sills : List S59} {lots : List S79} (hv : Valid L U R holds V sills lots) (s : List Int) (hs : s.length = lots.length) (hrg : ∀ y, y ∈ s → -1 ≤ y ∧ y < (holds.length : Int)) :
    goodO L U R holds V sills lots s = some (goodB L U R holds V sills lots s) ∧ Ev (fun k => swarfref07_Good.f k L U R holds V sills lots s) (goodB L U R holds V sills lots s) := by
  have hln := hv.ln; have hhn := hv.hn
  have hst := shipStowed_ev L U R V holds sills lots (fun c hc => by have := hv.lo c hc; omega) (fun x hx => (hv.ho x hx).1) (by omega) s (by omega)
  have hrs := refStowed_ev L U R V holds sills lots (fun c hc => by have := hv.lo c hc; omega) (by omega) s (by omega)
  have key : ∀ g : Bool, goodO L U R holds V sills lots s = some g → Ev (fun k => swarfref07_Good.f k L U R holds V sills lots s) g → goodO L U R holds V sills lots s = some (goodB L U R holds V sills lots s) ∧ Ev (fun k => swarfref07_Good.f k L U R holds V sills lots s) (goodB L U R holds V sills lots s) := fun g h1 h2 => by
    have : goodB L U R holds V sills lots s = g := by unfold goodB; rw [h1]; rfl
    rw [this]; exact ⟨h1, h2⟩
  by_cases h0 : stowedE holds lots s = 0
  · rw [h0] at hst hrs
    obtain ⟨q, hq, htop, hsail⟩ := sailing_ev hv s hs hrg
    obtain ⟨y, z, k0, k1, k2⟩ := apart_both L U R V hv.trim holds sills lots (fun x hx => ⟨(hv.ho x hx).2.1, (hv.ho x hx).2.2⟩) (fun c hc => by obtain ⟨a, b, c, _⟩ := hv.lo c hc; exact ⟨a, b, c⟩) (by omega) (by omega) s hs hrg s.length 0 0 0 (by omega) (by omega) (by omega)
    have hlev := levelB_ev L U R V holds sills lots y z k0 hv.trim
    have hap : Ev (fun k => ship_apart.f k L U R holds V sills lots s) (y, z) := k1
    have hrl : Ev (fun k => swarfref07_level.f k L U R holds V sills lots s) (decide (max z (-y) ≤ 1000 * R), y, z) := k2
    obtain ⟨b, hb⟩ : ∃ b, b = decide (max z (-y) ≤ 1000 * R) := ⟨_, rfl⟩
    rw [← hb] at hlev hrl
    refine key (b && decide ((sailO U V sills q false).length = sills.length)) ?_ ?_
    · unfold goodO
      refine Option.bind_eq_some_iff.2 ⟨0, limO_of hst, ?_⟩
      rw [if_pos rfl]
      refine Option.bind_eq_some_iff.2 ⟨(y, z), limO_of hap, ?_⟩
      refine Option.bind_eq_some_iff.2 ⟨b, limO_of hlev, ?_⟩
      cases b with
      | false => rfl
      | true =>
        rw [if_pos rfl]
        refine Option.bind_eq_some_iff.2 ⟨q, hq, ?_⟩
        by_cases c : (sailO U V sills q false).length = sills.length
        · rw [decide_eq_true c, decide_eq_false (by omega)]; rfl
        · rw [decide_eq_false c, decide_eq_true (show (sailO U V sills q false).length < sills.length by omega)]; rfl
    · unfold swarfref07_Good.f
      refine Ev.bind hrs ?_
      simp only [if_true]
      refine Ev.bind hrl (Ev.bind hsail ?_)
      cases b with
      | false => simp only [Bool.false_eq_true, if_false, Bool.false_and]; exact Ev.now _
      | true =>
        simp only [if_true, Bool.true_and]
        have : (verdictE sills.length (sailO U V sills q true) (sailO U V sills q false) == 1) = decide ((sailO U V sills q false).length = sills.length) := by
          unfold verdictE
          by_cases c : (sailO U V sills q false).length = sills.length
          · rw [if_pos c, decide_eq_true c]; rfl
          · rw [if_neg c, decide_eq_false c]
            by_cases c2 : (sailO U V sills q true).length < sills.length
            · rw [if_pos c2]; rfl
            · rw [if_neg c2]; rfl
        rw [this]; exact Ev.now _
  · refine key false ?_ ?_
    · unfold goodO
      refine Option.bind_eq_some_iff.2 ⟨_, limO_of hst, ?_⟩
      rw [if_neg h0]
    · unfold swarfref07_Good.f
      refine Ev.bind hrs ?_
      simp only [if_neg h0]; exact Ev.now _
theorem worth_ev (L U R V : Int) (holds : List S85) (sills : List S59) (lots : List S79) (s : List Int) (hs : s.length = lots.length) (hl : s.length ≤ 1000) (d : Nat) : ∀ (i : Nat) (a : Int), i + d = s.length → Ev (fun k => swarfref07_Worth.l0 k s a (i : Int) L U R holds V sills lots) (worthGo lots i (s.drop i) a) := by
  induction d with
  | zero =>
    intro i a hi
    rw [List.drop_eq_nil_of_le (by omega)]
    refine Ev.succ ?_
    simp (disch := omega) only [swarfref07_Worth.l0, if_neg, worthGo]; exact Ev.now _
  | succ d ih =>
    intro i a hi
    rw [drop_cons_of s i (by omega) 0]
    refine Ev.succ ?_
    simp (disch := omega) only [swarfref07_Worth.l0, if_pos, rdI, rd79, worthGo]
    rw [wrapS (by omega)]
    by_cases h : 0 ≤ s.getD i 0
    · simp only [if_pos h, ge_iff_le]; exact ih (i + 1) _ (by omega)
    · simp only [if_neg h, ge_iff_le]; exact ih (i + 1) _ (by omega)
theorem stowsL_len (H : Nat) : ∀ n, (stowsL H n).length = (H + 1) ^ n
  | 0 => rfl
  | n + 1 => by
    have ih := stowsL_len H n
    simp only [stowsL, List.length_flatMap, List.length_map, ih, List.map_const', List.sum_replicate_nat, List.length_range]
    rw [Nat.pow_succ, Nat.mul_comm]
theorem pow_bd {H n : Nat} (hH : H ≤ 3) (hn : n ≤ 6) : (H + 1) ^ n ≤ 4096 :=
  Nat.le_trans (Nat.pow_le_pow_left (show H + 1 ≤ 4 by omega) n) (Nat.le_trans (Nat.pow_le_pow_right (by decide) hn) (by decide))
def partL (H n : Nat) (b : List Int) (d m : Nat) : List (List Int) := (List.range' d m).flatMap fun (d : Nat) => (stowsL H n).map fun t => b ++ (((d : Int) - 1) :: t)
theorem part_all (H n : Nat) (b : List Int) : partL H n b 0 (H + 1) = (stowsL H (n + 1)).map fun t => b ++ t := by
  simp only [partL, stowsL, List.range_eq_range', List.map_flatMap, List.map_map]
  rfl
theorem stows_ev (L U R V : Int) (holds : List S85) (sills : List S59) (lots : List S79) (hH : holds.length ≤ 3) (hl : lots.length ≤ 6) (n : Nat) : ∀ b : List Int, b.length + n = lots.length → Ev (fun k => swarfref07_Stowages.f k L U R holds V sills lots b) ((stowsL holds.length n).map fun t => b ++ t) := by
  induction n with
  | zero =>
    intro b hb
    refine Ev.succ ?_
    simp (disch := omega) only [swarfref07_Stowages.f, if_pos]
    simp only [stowsL, List.map_cons, List.append_nil, List.map_nil]
    exact Ev.now _
  | succ n ih =>
    intro b hb
    have hpow := pow_bd hH (show n ≤ 6 by omega)
    have loop : ∀ (m d : Nat) (acc : List (List Int)), d + m = holds.length + 1 → acc.length ≤ 4096 * d → Ev (fun k => swarfref07_Stowages.l0 k b acc ((d : Int) - 1) L U R holds V sills lots) (acc ++ partL holds.length n b d m) := by
      intro m
      induction m with
      | zero =>
        intro d acc hd ha
        refine Ev.succ ?_
        simp (disch := omega) only [swarfref07_Stowages.l0, if_neg]
        simp only [partL, List.range'_zero, List.flatMap_nil, List.append_nil]
        exact Ev.now _
      | succ m ihm =>
        intro d acc hd ha
        have hr := ih (b ++ [(d : Int) - 1]) (by simp; omega)
        have hrl : ((stowsL holds.length n).map fun t => b ++ [(d : Int) - 1] ++ t).length ≤ 4096 := by rw [List.length_map, stowsL_len]; exact hpow
        refine Ev.succ ?_
        simp (disch := first | omega | (simp; omega)) only [swarfref07_Stowages.l0, if_pos, Option.bind_some, List.nil_append]
        refine Ev.bind hr ?_
        simp only [if_pos (show acc.length + ((stowsL holds.length n).map fun t => b ++ [(d : Int) - 1] ++ t).length < 5864062014805 by omega)]
        rw [wrap64_id (by omega) (by omega)]
        have h := ihm (d + 1) (acc ++ ((stowsL holds.length n).map fun t => b ++ [(d : Int) - 1] ++ t)) (by omega) (by rw [List.length_append]; omega)
        rw [show ((d + 1 : Nat) : Int) - 1 = (d : Int) - 1 + 1 by omega] at h
        have e : partL holds.length n b d (m + 1) = ((stowsL holds.length n).map fun t => b ++ [(d : Int) - 1] ++ t) ++ partL holds.length n b (d + 1) m := by
          simp only [partL, List.range'_succ, List.flatMap_cons, List.append_assoc, List.singleton_append]
        rw [e, ← List.append_assoc]
        exact h
    refine Ev.succ ?_
    simp (disch := omega) only [swarfref07_Stowages.f, if_neg]
    have h := loop (holds.length + 1) 0 [] (by omega) (by simp)
    rw [part_all, List.nil_append] at h
    exact h
end Go.Proofs.Ytodmemndaaiolaa.PC7
namespace Go.Proofs.Ytodmemndaaiolaa.PC7
open Go.RowKit Go.Proofs.YtodmemndaaiolaaW.PrintWords Go.Proofs.YtodmemndaaiolaaW.PrintLast Go.Proofs.YtodmemndaaiolaaW.PrintMore
attribute [local go_sem] max2_int min2_int max_two min_two max_three min_three max_four min_four
set_option linter.unusedVariables false
set_option linter.unusedSimpArgs false
mutual
def swarflaw07_wide.l0 : Nat → Int → Int → Int → Int → List (S85) → Int → List (S59) → List (S79) → Option (Bool)
 | 0, _, _, _, _, _, _, _, _ => none
 | k + 1, x3, x158000, x158001, x158002, x158003, x158004, x158005, x158006 => if x3 < (x158005.length : Int) then (swarflaw07_wide.j1 k x3 (decide (x3 < 20)) x158000 x158001 x158002 x158003 x158004 x158005 x158006) else (swarflaw07_wide.j1 k x3 false x158000 x158001 x158002 x158003 x158004 x158005 x158006)
def swarflaw07_wide.j1 : Nat → Int → Bool → Int → Int → Int → List (S85) → Int → List (S59) → List (S79) → Option (Bool)
 | 0, _, _, _, _, _, _, _, _, _ => none
 | k + 1, x3, x12, x158000, x158001, x158002, x158003, x158004, x158005, x158006 => if x12 = true then (if 0 ≤ x3 then (if x3 < (x158005.length : Int) then (if (((rd_T59 x158005 x3).f1).length : Int) > 20 then (some true) else (swarflaw07_wide.l0 k (wrap64 (x3 + 1)) x158000 x158001 x158002 x158003 x158004 x158005 x158006)) else (none)) else (none)) else (if (x158003.length : Int) > 20 then (some true) else (if (x158005.length : Int) > 20 then (some true) else (some (decide ((x158006.length : Int) > 20)))))
end
def swarflaw07_wide.f (k : Nat) (a0_0 : Int) (a0_1 : Int) (a0_2 : Int) (l0_3 : List (S85)) (a0_4 : Int) (l0_5 : List (S59)) (l0_6 : List (S79)) : Option (Bool) := swarflaw07_wide.l0 k 0 a0_0 a0_1 a0_2 l0_3 a0_4 l0_5 l0_6
set_option maxHeartbeats 8000000 in
set_option maxRecDepth 100000 in
theorem swarflaw07_wide.calls (k : Nat) (a0_0 : Int) (a0_1 : Int) (a0_2 : Int) (A0_3 : Option Addr) (c0_3 : Nat) (l0_3 : List (S85)) (a0_4 : Int) (A0_5 : Option Addr) (c0_5 : Nat) (l0_5 : List (S59)) (A0_6 : Option Addr) (c0_6 : Nat) (l0_6 : List (S79)) (r : Bool) (w : World) (hr0_3 : Kd.C k85 w A0_3 l0_3.length l0_3) (hc0_3 : l0_3.length ≤ c0_3) (hr0_5 : Kd.C k59 w A0_5 l0_5.length l0_5) (hc0_5 : l0_5.length ≤ c0_5) (hr0_6 : Kd.C k79 w A0_6 l0_6.length l0_6) (hc0_6 : l0_6.length ≤ c0_6) (h : swarflaw07_wide.f k a0_0 a0_1 a0_2 l0_3 a0_4 l0_5 l0_6 = some r) :
  Calls Try.prog 14 #[.agg #[.int .i64 a0_0, .int .i64 a0_1, .int .i64 a0_2, .slice A0_3 l0_3.length c0_3, .int .i64 a0_4, .slice A0_5 l0_5.length c0_5, .slice A0_6 l0_6.length c0_6]] w fun e w' => e = .returned (.bool r) ∧ Below w.heap.size w w' := by
 have hu26 := Try.underlying26
 have HR0_3 := Aside0.mk hr0_3
 have HC0_3 := Aside0.mk hc0_3
 clear hr0_3 hc0_3
 have HR0_5 := Aside0.mk hr0_5
 have HC0_5 := Aside0.mk hc0_5
 clear hr0_5 hc0_5
 have HR0_6 := Aside0.mk hr0_6
 have HC0_6 := Aside0.mk hc0_6
 clear hr0_6 hc0_6
 have HB := Aside0.mk (Below.refl w.heap.size w)
 have H : (swarflaw07_wide.l0 k 0 a0_0 a0_1 a0_2 l0_3 a0_4 l0_5 l0_6) = some r := h
 clear h
 have H' := Aside0.mk H
 clear H
 go_enter Try.func14, Try.ntmps14
 go_wp2_with (first | ((with_reducible refine gate_dst (N := 1) rfl ?_); (try (refine gate_guard (by rfl) ?_; dsimp only)); refine box_x (N := 1) (cs := #[.int .i64 a0_0, .int .i64 a0_1, .int .i64 a0_2, .slice A0_3 l0_3.length c0_3, .int .i64 a0_4, .slice A0_5 l0_5.length c0_5, .slice A0_6 l0_6.length c0_6]) (t := 26) ?_; intro gb157 hg w2 hbox hb; have BK157 := Aside0.mk (hbox); have GW157 := gw_x hg HB; have GE157 := GW157; replace HB := Aside0.mk (below_step (below_x HB.out) hb); clear hb hbox hg))
 go_loopg [3] k (fun kq v3 w' => ∃ (x3_1 : Int), v3 = .int .i64 x3_1 ∧ Aside0 (swarflaw07_wide.l0 kq x3_1 a0_0 a0_1 a0_2 l0_3 a0_4 l0_5 l0_6 = some r) ∧ Aside0 (kq ≤ k) ∧ Aside0 (w'.heap[gb157]? = some (.cells #[.int .i64 a0_0, .int .i64 a0_1, .int .i64 a0_2, (.slice A0_3 l0_3.length c0_3), .int .i64 a0_4, (.slice A0_5 l0_5.length c0_5), (.slice A0_6 l0_6.length c0_6)] 26 (0, 0))) ∧ Aside0 (Below w.heap.size w w'))
 case atStart => exact ⟨(0), (by first | rfl | (simp; done) | (simp [*]; done)), H', ⟨Nat.le_refl _⟩, ⟨blk_x BK157.out⟩, ⟨by exact below_y HB.out⟩⟩
 case round =>
  clear H'; obtain ⟨x3_1, rfl, HA, HK1, BK157, HB⟩ := hrel; cases gk with
  | zero => exact absurd HA.out (by simp [swarflaw07_wide.l0])
  | succ k1 =>
   have H := HA.out; clear HA; simp only [swarflaw07_wide.l0] at H; have HC3 := Aside0.mk H; clear H
   go_upto_region 2 with (fail)
   go_cut [12] (fun v12 wc => ∃ (kq : Nat) (x12_2 : Bool), v12 = .bool x12_2 ∧ Aside0 (swarflaw07_wide.j1 kq x3_1 x12_2 a0_0 a0_1 a0_2 l0_3 a0_4 l0_5 l0_6 = some r) ∧ Aside0 (kq ≤ k1) ∧ Aside0 (wc.heap[gb157]? = some (.cells #[.int .i64 a0_0, .int .i64 a0_1, .int .i64 a0_2, (.slice A0_3 l0_3.length c0_3), .int .i64 a0_4, (.slice A0_5 l0_5.length c0_5), (.slice A0_6 l0_6.length c0_6)] 26 (0, 0))) ∧ Aside0 (Below w.heap.size w wc))
   case first =>
    have H := HC3.out; clear HC3; by_cases c4 : x3_1 < (l0_5.length : Int)
    ·
     rw [if_pos c4] at H; have c4b0 : decide (x3_1 < (l0_5.length : Int)) = true := decide_eq_true c4; clear c4
     (first | rw [c4b0] | (simp only [i64_w, i32_w]; rw [c4b0]) | skip)
     have H' := Aside0.mk H; clear H; obtain ⟨hfz5_0, _, _, _, _, _, _, _⟩ := cf7 BK157; go_wp2; go_meet
     case rel => exact ⟨_, (decide (x3_1 < 20)), (by first | rfl | (simp; done) | (simp [*]; done)), H', ⟨by have := HK1.out; first | omega | exact Nat.le_refl _⟩, ⟨blk_x BK157.out⟩, ⟨by exact below_y HB.out⟩⟩
    ·
     rw [if_neg c4] at H; have c4b0 : decide (x3_1 < (l0_5.length : Int)) = false := decide_eq_false c4; clear c4
     (first | rw [c4b0] | (simp only [i64_w, i32_w]; rw [c4b0]) | skip)
     have H' := Aside0.mk H; clear H; obtain ⟨hfz6_0, _, _, _, _, _, _, _⟩ := cf7 BK157; go_wp2; go_meet
     case rel => exact ⟨_, (false), (by first | rfl | (simp; done) | (simp [*]; done)), H', ⟨by have := HK1.out; first | omega | exact Nat.le_refl _⟩, ⟨blk_x BK157.out⟩, ⟨by exact below_y HB.out⟩⟩
   case rest =>
    clear HC3; obtain ⟨kq, x12_2, rfl, HA, HJ2, BK157, HB⟩ := hcut; cases kq with
    | zero => exact absurd HA.out (by simp [swarflaw07_wide.j1])
    | succ kj2 =>
     have H := HA.out; clear HA; simp only [swarflaw07_wide.j1] at H; by_cases c7 : x12_2 = true
     ·
      subst c7; (have H1 : (if 0 ≤ x3_1 then (if x3_1 < (l0_5.length : Int) then (if (((rd_T59 l0_5 x3_1).f1).length : Int) > 20 then (some true) else (swarflaw07_wide.l0 kj2 (wrap64 (x3_1 + 1)) a0_0 a0_1 a0_2 l0_3 a0_4 l0_5 l0_6)) else (none)) else (none)) = some r := by rw [if_pos rfl] at H; exact H); clear H; have H := H1; clear H1; by_cases c8 : 0 ≤ x3_1
      ·
       rw [if_pos c8] at H; have c8b0 : decide (0 ≤ x3_1) = true := decide_eq_true c8; clear c8; by_cases c9 : x3_1 < (l0_5.length : Int)
       ·
        rw [if_pos c9] at H; have c9b0 : decide (x3_1 < (l0_5.length : Int)) = true := decide_eq_true c9; clear c9; by_cases c10 : (((rd_T59 l0_5 x3_1).f1).length : Int) > 20
        ·
         rw [if_pos c10] at H; have c10b0 : decide (20 < (((rd_T59 l0_5 x3_1).f1).length : Int)) = true := decide_eq_true c10; have c10b1 : decide (20 < ((rd_T59 l0_5 x3_1).f1).length) = true := decide_eq_true (by omega); clear c10; obtain rfl := Option.some.inj H; obtain ⟨hfz11_0, _, _, _, _, _, _, _⟩ := cf7 BK157; have p158 : 0 ≤ (x3_1 : Int) := of_x; have q158 : x3_1 < (l0_5.length : Int) := of_x; obtain ⟨ad158, A158_2, c158_2, e158, hx158_0, hx158_1, hx158_2, hl158_2, hi158_2⟩ := at_T59 HR0_5.out x3_1 p158 q158; (cases e158); replace hx158_0 := cell_x HB hx158_0; replace hx158_1 := cell_x HB hx158_1; replace hx158_2 := cell_x HB hx158_2; have HR158_2 := Aside0.mk hi158_2; have HC158_2 := Aside0.mk hl158_2; clear hi158_2 hl158_2; replace p158 := eq_true p158; replace q158 := eq_true q158; go_wp2; go_ret; exact rt_y HB
        ·
         rw [if_neg c10] at H; have c10b0 : decide (20 < (((rd_T59 l0_5 x3_1).f1).length : Int)) = false := decide_eq_false c10; have c10b1 : decide (20 < ((rd_T59 l0_5 x3_1).f1).length) = false := decide_eq_false (by omega); clear c10; have H' := Aside0.mk H; clear H; obtain ⟨hfz12_0, _, _, _, _, _, _, _⟩ := cf7 BK157; have p158 : 0 ≤ (x3_1 : Int) := of_x; have q158 : x3_1 < (l0_5.length : Int) := of_x; obtain ⟨ad158, A158_2, c158_2, e158, hx158_0, hx158_1, hx158_2, hl158_2, hi158_2⟩ := at_T59 HR0_5.out x3_1 p158 q158; (cases e158); replace hx158_0 := cell_x HB hx158_0; replace hx158_1 := cell_x HB hx158_1; replace hx158_2 := cell_x HB hx158_2; have HR158_2 := Aside0.mk hi158_2; have HC158_2 := Aside0.mk hl158_2; clear hi158_2 hl158_2; replace p158 := eq_true p158; replace q158 := eq_true q158; go_wp2; go_roundg kj2
         case measure => have := HK1.out; have := HJ2.out; omega
         case rel => exact ⟨(wrap64 (x3_1 + 1)), (by first | rfl | (simp; done) | (simp [*]; done)), H', ⟨by have := HK1.out; have := HJ2.out; omega⟩, ⟨blk_x BK157.out⟩, ⟨by exact below_y HB.out⟩⟩
       ·
        rw [if_neg c9] at H; exact absurd H (by simp)
      ·
       rw [if_neg c8] at H; exact absurd H (by simp)
     ·
      replace c7 := Bool.eq_false_iff.mpr c7; subst c7; replace H : (if (l0_3.length : Int) > 20 then (some true) else (if (l0_5.length : Int) > 20 then (some true) else (some (decide ((l0_6.length : Int) > 20))))) = some r := ifn_x H; by_cases c13 : (l0_3.length : Int) > 20
      ·
       rw [if_pos c13] at H; have c13b0 : decide (20 < (l0_3.length : Int)) = true := decide_eq_true c13; have c13b1 : decide (20 < l0_3.length) = true := decide_eq_true (by omega); clear c13; obtain rfl := Option.some.inj H; obtain ⟨hfz14_0, _, _, _, _, _, _, _⟩ := cf7 BK157; go_wp2; go_ret; exact rt_y HB
      ·
       rw [if_neg c13] at H; have c13b0 : decide (20 < (l0_3.length : Int)) = false := decide_eq_false c13; have c13b1 : decide (20 < l0_3.length) = false := decide_eq_false (by omega); clear c13; by_cases c15 : (l0_5.length : Int) > 20
       ·
        rw [if_pos c15] at H; have c15b0 : decide (20 < (l0_5.length : Int)) = true := decide_eq_true c15; have c15b1 : decide (20 < l0_5.length) = true := decide_eq_true (by omega); clear c15; obtain rfl := Option.some.inj H; obtain ⟨hfz16_0, _, _, _, _, _, _, _⟩ := cf7 BK157; go_wp2; go_ret; exact rt_y HB
       ·
        rw [if_neg c15] at H; have c15b0 : decide (20 < (l0_5.length : Int)) = false := decide_eq_false c15; have c15b1 : decide (20 < l0_5.length) = false := decide_eq_false (by omega); clear c15; obtain rfl := Option.some.inj H; obtain ⟨hfz17_0, _, _, _, _, _, _, _⟩ := cf7 BK157; go_wp2; go_ret; exact rt_y HB
end Go.Proofs.Ytodmemndaaiolaa.PC7
namespace Go.Proofs.Ytodmemndaaiolaa.PC7
set_option linter.unusedVariables false
set_option linter.unusedSimpArgs false
open Go.RowKit Go.Proofs.YtodmemndaaiolaaW.PrintWords Go.Proofs.YtodmemndaaiolaaW.PrintLast Go.Proofs.YtodmemndaaiolaaW.PrintMore
theorem wide_l0 (L U R V : Int) (holds : List S85) (sills : List S59) (lots : List S79) (d : Nat) :
    ∀ i : Nat, i + d = min sills.length 20 → (∀ j, j < i → (sills.getD j z59).f1.length ≤ 20) → Res (fun k => swarflaw07_wide.l0 k (i : Int) L U R holds V sills lots) (fun b => b = false → holds.length ≤ 20 ∧ sills.length ≤ 20 ∧ lots.length ≤ 20 ∧ ∀ j, j < sills.length → (sills.getD j z59).f1.length ≤ 20) := by
  induction d with
  | zero =>
    intro i hi hj
    have fin : Res (fun k => swarflaw07_wide.j1 k (i : Int) false L U R holds V sills lots) (fun b => b = false → holds.length ≤ 20 ∧ sills.length ≤ 20 ∧ lots.length ≤ 20 ∧ ∀ j, j < sills.length → (sills.getD j z59).f1.length ≤ 20) := by
      refine Res.succ ?_
      simp only [swarflaw07_wide.j1, Bool.false_eq_true, if_false]
      by_cases h1 : (holds.length : Int) > 20
      · simp only [if_pos h1]; exact Res.now (fun h => by cases h)
      · by_cases h2 : (sills.length : Int) > 20
        · simp only [if_neg h1, if_pos h2]; exact Res.now (fun h => by cases h)
        · simp only [if_neg h1, if_neg h2]
          refine Res.now (fun h => ?_)
          have h3 := of_decide_eq_false h
          exact ⟨by omega, by omega, by omega, fun j hjl => hj j (by omega)⟩
    refine Res.succ ?_
    by_cases h : (i : Int) < (sills.length : Int)
    · simp only [swarflaw07_wide.l0, if_pos h]
      rw [decide_eq_false (by omega)]; exact fin
    · simp only [swarflaw07_wide.l0, if_neg h]; exact fin
  | succ d ih =>
    intro i hi hj
    refine Res.succ ?_
    simp (disch := omega) only [swarflaw07_wide.l0, if_pos]
    rw [decide_eq_true (by omega)]
    refine Res.succ ?_
    simp (disch := omega) only [swarflaw07_wide.j1, if_true, if_pos, rd59]
    by_cases h : ((sills.getD i z59).f1.length : Int) > 20
    · simp only [if_pos h]; exact Res.now (fun h => by cases h)
    · simp only [if_neg h]
      rw [wrapS (by omega)]
      refine ih (i + 1) (by omega) (fun j hji => ?_)
      by_cases e : j = i
      · subst e; omega
      · exact hj j (by omega)
theorem wide_res (L U R V : Int) (holds : List S85) (sills : List S59) (lots : List S79) : Res (fun k => swarflaw07_wide.f k L U R holds V sills lots) (fun b => b = false → Narrow holds sills lots ∧ holds.length ≤ 20 ∧ sills.length ≤ 20 ∧ lots.length ≤ 20 ∧ ∀ s, s ∈ sills → s.f1.length ≤ 20) := by
  refine (wide_l0 L U R V holds sills lots (min sills.length 20) 0 (by omega) (fun j h => by omega)).mono fun b hb h => ?_
  obtain ⟨a, b, c, d⟩ := hb h
  have hs : ∀ s, s ∈ sills → s.f1.length ≤ 20 := fun s hs => by
    obtain ⟨i, hi, rfl⟩ := List.getElem_of_mem hs
    have := d i hi
    rwa [getD_get _ _ _ hi] at this
  exact ⟨⟨by omega, by omega, fun s h => by have := hs s h; omega, by omega⟩, a, b, c, hs⟩
end Go.Proofs.Ytodmemndaaiolaa.PC7
namespace Go.Proofs.Ytodmemndaaiolaa.PC7
open Go.RowKit Go.Proofs.YtodmemndaaiolaaW.PrintWords Go.Proofs.YtodmemndaaiolaaW.PrintLast Go.Proofs.YtodmemndaaiolaaW.PrintMore
attribute [local go_sem] max2_int min2_int max_two min_two max_three min_three max_four min_four
set_option linter.unusedVariables false
set_option linter.unusedSimpArgs false
end Go.Proofs.Ytodmemndaaiolaa.PC7
namespace Go.Proofs.Ytodmemndaaiolaa.PC7
set_option linter.unusedVariables false
set_option linter.unusedSimpArgs false
open Go.RowKit Go.Proofs.YtodmemndaaiolaaW.PrintWords Go.Proofs.YtodmemndaaiolaaW.PrintLast Go.Proofs.YtodmemndaaiolaaW.PrintMore
structure StowTo (holds : List S85) (lots : List S79) (s room : List Int) : Prop where
  rl : room.length = holds.length
  rg : ∀ y, y ∈ s → -1 ≤ y ∧ y < (holds.length : Int)
  ro : ∀ h : Nat, h < holds.length → room.getD h 0 = used lots h 0 s ∧ used lots h 0 s ≤ (holds.getD h z85).f0 ∧ 0 ≤ used lots h 0 s
theorem StowTo.skip {holds : List S85} {lots : List S79} {s room : List Int} (h : StowTo holds lots s room) : StowTo holds lots (s ++ [-1]) room :=
  ⟨h.rl, mem_snoc h.rg ⟨by omega, by omega⟩, fun k hk => by
    have := h.ro k hk
    rw [used_snoc, if_neg (by omega)]
    simpa using this⟩
theorem StowTo.put {holds : List S85} {lots : List S79} {s room : List Int} (h : StowTo holds lots s room) (g : Nat) (hg : g < holds.length) (h0 : 0 ≤ (lots.getD s.length z79).f0.f1) (hle : room.getD g 0 + (lots.getD s.length z79).f0.f1 ≤ (holds.getD g z85).f0) :
    StowTo holds lots (s ++ [(g : Int)]) (room.set g (room.getD g 0 + (lots.getD s.length z79).f0.f1)) := by
  refine ⟨by rw [List.length_set]; exact h.rl, mem_snoc h.rg ⟨by omega, by omega⟩, fun k hk => ?_⟩
  have hk1 := h.ro k hk
  have hl : k < room.length := by rw [h.rl]; exact hk
  rw [used_snoc, Nat.zero_add]
  by_cases e : k = g
  · subst e
    rw [if_pos rfl, List.getD, List.getElem?_set_self hl]
    refine ⟨?_, ?_, ?_⟩
    · show room.getD k 0 + _ = _; rw [hk1.1]
    · rw [← hk1.1]; exact hle
    · omega
  · rw [if_neg (by omega), List.getD, List.getElem?_set_ne (by omega)]
    simpa using hk1
end Go.Proofs.Ytodmemndaaiolaa.PC7
namespace Go.Proofs.Ytodmemndaaiolaa.PC7
open Go.RowKit Go.Proofs.YtodmemndaaiolaaW.PrintWords Go.Proofs.YtodmemndaaiolaaW.PrintLast Go.Proofs.YtodmemndaaiolaaW.PrintMore
attribute [local go_sem] max2_int min2_int max_two min_two max_three min_three max_four min_four
set_option linter.unusedVariables false
set_option linter.unusedSimpArgs false
attribute [local go_sem high] eqA56
noncomputable def swarflaw07_awake.f (k : Nat)  : Option (Bool) := (swarflaw07_voyage.f).bind fun bt198 => ((ship_Drafts.f bt198.1 bt198.2.1 bt198.2.2.1 bt198.2.2.2.1 bt198.2.2.2.2.1 bt198.2.2.2.2.2.1 bt198.2.2.2.2.2.2 (([0, 1, (-1)] : List Int))).bind fun bt214 => ((swarflaw07_voyage.f).bind fun bt221 => ((ship_Sail.f bt221.1 bt221.2.1 bt221.2.2.1 bt221.2.2.2.1 bt221.2.2.2.2.1 bt221.2.2.2.2.2.1 bt221.2.2.2.2.2.2 (([0, 1, (-1)] : List Int))).bind fun bt237 => ((swarflaw07_voyage.f).bind fun bt242 => ((ship_Best.f bt242.1 bt242.2.1 bt242.2.2.1 bt242.2.2.2.1 bt242.2.2.2.2.1 bt242.2.2.2.2.2.1 bt242.2.2.2.2.2.2).bind fun bt255 => (if bt214.2.2.2.2 = 0 then (if bt237.2.2 = 0 then (if bt255.2.2 = 0 then ((swarflaw07_rng.f 1290000 1340000).bind fun bt260 => (if (bt214.1 == bt260.1 && (bt214.2.1 == bt260.2)) = true then ((swarflaw07_rng.f 1260000 1310000).bind fun bt262 => (if (bt214.2.2.1 == bt262.1 && (bt214.2.2.2.1 == bt262.2)) = true then (if bt237.1 = 1 then (if bt255.2.1 = 95 then ((swarfkit_EqualInts.f k bt255.1 (([0, (-1), 1] : List Int))).bind fun t267 => (if t267 = true then ((swarflaw07_rng.f 90 100).bind fun bt268 => ((swarflaw07_rng.f 240 250).bind fun bt270 => ((swarfkit_EqualRanges.f k bt237.2.1 (([(⟨bt268.1, bt268.2⟩ : S56), (⟨bt270.1, bt270.2⟩ : S56)] : List (S56)))).bind fun t275 => (some t275)))) else (some false))) else (some false)) else (some false)) else (some false))) else (some false))) else (some false)) else (some false)) else (some false)))))))
theorem swarflaw07_awake.mono : ∀ k, LeO (swarflaw07_awake.f k ) (swarflaw07_awake.f (k + 1) ) := by
 intro  k
 unfold swarflaw07_awake.f
 repeat' (with_reducible first | exact swarfkit_EqualInts.mono _ _ _ | exact swarfkit_EqualRanges.mono _ _ _ | exact LeO.refl _ | exact LeO.none _ | refine LeO.ite ?_ ?_ | refine LeO.bind ?_ (fun _ => ?_))
def swarflaw07_awake.T4 : Bool × List (List Nat × List Nat) := (true, [([], []), ([0], [0]), ([1], [1]), ([2], [2]), ([3, 2], [2, 3]), ([2, 4], [2, 4]), ([5, 2], [5]), ([6], [6]), ([7, 6], [6, 7]), ([6, 8], [6, 8]), ([9, 6], [9]), ([10], [10]), ([10, 10], [10]), ([11, 12, 10], [10, 11, 12]), ([10, 13], [10, 13]), ([14, 12], [14]), ([15], [15]), ([15, 15], [15]), ([16, 17, 15], [15, 16, 17]), ([15, 18], [15, 18]), ([19, 17], [19]), ([20], [20]), ([21, 20], [20, 21]), ([20, 22], [20, 22]), ([23, 20], [23]), ([24], [24]), ([25, 24], [24, 25]), ([24, 26], [24, 26]), ([27, 24], [27]), ([28], [28]), ([28], [28]), ([29, 30, 28, 28], [28, 29, 30]), ([28, 31], [28, 31]), ([32, 31], [32]), ([33], [33]), ([33, 33], [33]), ([35, 33], [33]), ([35, 36, 33], [33, 35, 36]), ([34, 37, 36, 33], [33, 34, 37]), ([33, 38], [33, 38]), ([39, 38, 0, 1, 2, 3, 4, 5, 6, 7, 8, 9, 10, 11, 12, 13, 14, 15, 16, 17, 18, 19, 20, 21, 22, 23, 24, 25, 26, 27, 28, 29, 30, 31, 32, 33, 34, 35, 36, 37, 38, 39], [39])])
def swarflaw07_awake.B4 : List Nat := [0, 1, 3, 7, 15, 31, 63, 127, 255, 511, 1023, 2047, 2047, 8191, 16383, 32767, 65535, 65535, 262143, 524287, 1048575, 2097151, 4194303, 8388607, 16777215, 33554431, 67108863, 134217727, 268435455, 536870911, 536870911, 2147483647, 4294967295, 8589934591, 17179869183, 17179869183, 51539607551, 120259084287, 274877906943, 549755813887, 1099511627775]
theorem swarflaw07_awake.tab4 : rtab .any (opsOf Try.f15 4) = swarflaw07_awake.T4 := by kernel_rfl
theorem swarflaw07_awake.bits4 : waitsOk swarflaw07_awake.T4.2 swarflaw07_awake.B4 = true := by kernel_rfl
end Go.Proofs.Ytodmemndaaiolaa.PC7
namespace Go.Proofs.Ytodmemndaaiolaa.PC7
set_option linter.unusedVariables false
set_option linter.unusedSimpArgs false
open Go.RowKit Go.Proofs.YtodmemndaaiolaaW.PrintWords Go.Proofs.YtodmemndaaiolaaW.PrintLast Go.Proofs.YtodmemndaaiolaaW.PrintMore
theorem awake_ev : Ev (fun k => swarflaw07_awake.f k) true := by
  have h1 : ∀ k, swarflaw07_awake.f k = ((swarfkit_EqualInts.f k [0, -1, 1] [0, -1, 1]).bind fun t267 => if t267 = true then (swarfkit_EqualRanges.f k [⟨90, 100⟩, ⟨240, 250⟩] [⟨90, 100⟩, ⟨240, 250⟩]).bind fun t275 => some t275 else some false) := by
    intro k
    unfold swarflaw07_awake.f
    rw [voyage_f]
    simp only [Option.bind_some]
    rw [v_drafts]
    simp only [Option.bind_some]
    rw [v_sail]
    simp only [Option.bind_some]
    rw [v_best]
    simp only [Option.bind_some, swarflaw07_rng.f, if_true, beq_self_eq_true, Bool.and_self]
  have e1 : Ev (fun k => swarfkit_EqualInts.f k [0, -1, 1] [0, -1, 1]) true := ev_of_mono (fun k => swarfkit_EqualInts.mono _ _ k) (K := 10) (by kernel_rfl)
  have e2 : Ev (fun k => swarfkit_EqualRanges.f k [⟨90, 100⟩, ⟨240, 250⟩] [⟨90, 100⟩, ⟨240, 250⟩]) true := ev_of_mono (fun k => swarfkit_EqualRanges.mono _ _ k) (K := 10) (by kernel_rfl)
  have e3 : Ev (fun k => (swarfkit_EqualInts.f k [0, -1, 1] [0, -1, 1]).bind fun t267 => if t267 = true then (swarfkit_EqualRanges.f k [⟨90, 100⟩, ⟨240, 250⟩] [⟨90, 100⟩, ⟨240, 250⟩]).bind fun t275 => some t275 else some false) true := by
    refine Ev.bind e1 ?_
    simp only [if_true]
    exact Ev.tail e2
  obtain ⟨K, hK⟩ := e3
  exact ⟨K, fun k hk => (h1 k).trans (hK k hk)⟩
theorem leO_up {α : Type} {g : Nat → Option α} (hm : ∀ k, LeO (g k) (g (k + 1))) {k K : Nat} (hk : k ≤ K) {r : α} (h : g k = some r) : g K = some r := by
  induction hk with
  | refl => exact h
  | step _ ih => exact hm _ _ ih
theorem awake_true {k : Nat} {r : Bool} (h : swarflaw07_awake.f k = some r) : r = true := by
  obtain ⟨K, hK⟩ := awake_ev
  have h1 := leO_up (g := fun k => swarflaw07_awake.f k) swarflaw07_awake.mono (Nat.le_max_left k K) h
  have h2 := hK (max k K) (Nat.le_max_right k K)
  exact Option.some.inj (h1.symm.trans h2)
end Go.Proofs.Ytodmemndaaiolaa.PC7
namespace Go.Proofs.Ytodmemndaaiolaa.PC7
open Go.RowKit Go.Proofs.YtodmemndaaiolaaW.PrintWords Go.Proofs.YtodmemndaaiolaaW.PrintLast Go.Proofs.YtodmemndaaiolaaW.PrintMore
attribute [local go_sem] max2_int min2_int max_two min_two max_three min_three max_four min_four
set_option linter.unusedVariables false
set_option linter.unusedSimpArgs false
def swarfkit_Feed_In.f (s0_0 : Int) (a1_0 : Int) (a1_1 : Int) : Option (Int × Int) := (swarfkit_Feed_Between.f s0_0 a1_0 a1_1).bind fun bt1050 => ((swarfkit_Feed_Between.f bt1050.2 a1_0 a1_1).bind fun bt1052 => ((swarfkit_Feed_Either.f bt1052.2 (([a1_0, a1_1, bt1050.1, bt1052.1] : List Int))).bind fun bt1057 => (some (bt1057.1, bt1057.2))))
end Go.Proofs.Ytodmemndaaiolaa.PC7
namespace Go.Proofs.Ytodmemndaaiolaa.PC7
set_option linter.unusedVariables false
set_option linter.unusedSimpArgs false
open Go.RowKit Go.Proofs.YtodmemndaaiolaaW.PrintWords Go.Proofs.YtodmemndaaiolaaW.PrintLast Go.Proofs.YtodmemndaaiolaaW.PrintMore
def feedL (s : Int) : List S56 → Option (List Int × Int)
 | [] => some ([], s)
 | x :: r => (swarfkit_Feed_In.f s x.f0 x.f1).bind fun a => (feedL a.2 r).bind fun b => some (a.1 :: b.1, b.2)
def factS (s : Int) : List S59 → Option (List Int × List (List Int) × Int)
 | [] => some ([], [], s)
 | x :: r => (swarfkit_Feed_In.f s x.f0.f0 x.f0.f1).bind fun a => (feedL a.2 (x.f1.map (·.f1))).bind fun l => (factS l.2 r).bind fun b => some (a.1 :: b.1, l.1 :: b.2.1, b.2.2)
theorem blk_kb {w w' : World} {g b : Nat} {o : Obj} (h : w.heap[b]? = some o) (hk : KeepBut w w' g none) (hne : b ≠ g) : w'.heap[b]? = some o := (hk.2 b (blk_lt h) hne (by simp)).trans h
end Go.Proofs.Ytodmemndaaiolaa.PC7
namespace Go.Proofs.Ytodmemndaaiolaa.PC7
set_option linter.unusedVariables false
open Go.RowKit Go.Proofs.YtodmemndaaiolaaW.PrintWords Go.Proofs.YtodmemndaaiolaaW.PrintLast Go.Proofs.YtodmemndaaiolaaW.PrintMore
def feedX (s x : Int) : Int := Go.bits .xor .u64 s (IntKind.u64.wrap (IntKind.u64.wrap x * 15485907386658061715))
def feedAll (l : List Int) : Int := l.foldl (fun s x => feedN (feedX s x)) 88172645463325252
def swarfkit_FeedOf.f (l0 : List Int) : Option (Int) := if l0.length ≤ 140737488351232 then some (feedAll l0) else none
structure FeedNew (w0 w W : World) (g : Nat) (x : Int) : Prop where
 is : IsS90 w0 W g x
 be : Below w0.heap.size w0 W
 bw : Below w.heap.size w W
 ge : w.heap.size ≤ g
theorem FeedNew.next {w0 w W : World} {g : Nat} {x : Int} (h : FeedNew w0 w W g x) (y : Int) : FeedNew w0 w (W.setCell ⟨g, 0, none⟩ (.int .u64 y)) g y :=
 ⟨h.is.set_0 y, below_set h.be h.is.ge, below_set h.bw h.ge, h.ge⟩
theorem FeedNew.drew {w0 w W : World} {g : Nat} {x : Int} (h : FeedNew w0 w W g x) : FeedNew w0 w W.drew g x := ⟨h.is.drew, h.be.drew, h.bw.drew, h.ge⟩
theorem below_next {w0 w w1 w2 : World} {g : Nat} (hb : Below w.heap.size w w1) (h1 : Below w0.heap.size w0 w1) (h2 : Below w0.heap.size w0 w2) (hk : KeepBut w1 w2 g none) (hg : w.heap.size ≤ g) : Below w.heap.size w w2 :=
 ⟨(h2.os.trans h1.os.symm).trans hb.os, (h2.tape.trans h1.tape.symm).trans hb.tape, (h2.output.trans h1.output.symm).trans hb.output, Nat.le_trans hb.size hk.1,
  fun k hlt => (hk.2 k (Nat.lt_of_lt_of_le hlt hb.size) (by omega) (by simp)).trans (hb.block k hlt)⟩
theorem feedAll_step (l : List Int) (i : Nat) (h : i < l.length) : feedAll (l.take (i + 1)) = feedN (feedX (feedAll (l.take i)) (rd l (i : Int))) := by
 unfold feedAll
 rw [List.take_succ_eq_append_getElem h, List.foldl_append]
 simp [rd, List.getD, h]
set_option maxHeartbeats 4000000 in
set_option maxRecDepth 100000 in
theorem swarfkit_FeedOf.calls (A0 : Option Addr) (c0 : Nat) (l0 : List Int) (r : Int) (w0 w : World) (hB : Below w0.heap.size w0 w) (hr0 : Kd.C (Kd.int .i64) w0 A0 l0.length l0) (hc0 : l0.length ≤ c0) (h : swarfkit_FeedOf.f l0 = some r) :
  Calls Try.prog 16 #[.slice A0 l0.length c0] w fun e w' => ∃ g_ : Nat, e = .returned (.pointer (some ⟨g_, 0, none⟩)) ∧ IsS90 w0 w' g_ r ∧ Below w0.heap.size w0 w' ∧ Below w.heap.size w w' := by
 simp only [swarfkit_FeedOf.f] at h
 by_cases hl : l0.length ≤ 140737488351232
 case neg => rw [if_neg hl] at h; cases h
 rw [if_pos hl] at h
 obtain rfl := Option.some.inj h
 clear h
 have hu90 := Try.underlying90
 have HB := Aside0.mk hB
 have HR0 := Aside0.mk hr0
 clear hB hr0
 go_enter Try.func16, Try.ntmps16
 go_wp2
 have F := Aside0.mk (FeedNew.mk (IsS90.new w0 w (88172645463325252) HB.out) (below_alloc HB.out _) (below_alloc (Below.refl _ _) _) (Nat.le_refl _))
 go_loopw [4] (fun i wr => ∃ k : Nat, k ≤ l0.length ∧ i = .int .i64 k ∧ Aside0 (FeedNew w0 w wr w.heap.size (feedAll (l0.take k)))) (fun i _ => l0.length - (intOf i).toNat)
 case atStart => exact ⟨0, Nat.zero_le _, rfl, F⟩
 case round =>
  clear F; obtain ⟨k, hk, rfl, F⟩ := hrel; have hcell := (blk_cell F.out.is.1 0).trans rfl; have hfree := blk_frozen F.out.is.1 0; by_cases hlt : k < l0.length
  ·
   (have hlz : (k : Int) < (l0.length : Int) := by omega); obtain ⟨ad, e, hx⟩ := Kd.at_int HR0.out (k : Int) (by omega) hlz; (cases e); rw [Int.toNat_natCast] at hx; replace hx := (F.out.be.cell (World.block_lt_of_cell? w0 _ hx)).trans hx; have HF := Aside0.mk (feedAll_step l0 k hlt); generalize feedAll (l0.take k) = s at *; generalize rd l0 (k : Int) = x at *; go_wp2
   go_region
   clear hcell hfree hx; have F1 := Aside0.mk (F.out.next (feedX s x)).drew; generalize hx1 : bits BinOp.xor IntKind.u64 s (IntKind.u64.wrap (IntKind.u64.wrap x * 15485907386658061715)) = x1; have hy1 : feedX s x = x1 := hx1; rw [hy1] at F1 HF; generalize hw1 : (wr.setCell ⟨w.heap.size, 0, none⟩ (.int .u64 x1)).drew = w1; rw [hw1] at F1; clear hx1 hw1 hy1 F; have HC := Aside0.mk (swarfkit_Feed_next.calls w.heap.size x1 (feedM (feedN x1)) (feedN x1) w0 w1 F1.out.is F1.out.be rfl)
   go_wp2_with (go_at_call 53; refine HC.out.mono ?_; rintro e w2 ⟨rfl, hI2, hB2, hK2⟩; have F2 := Aside0.mk (FeedNew.mk hI2 hB2 (below_next F1.out.bw F1.out.be hB2 hK2 F1.out.ge) F1.out.ge); clear hI2 hB2 hK2 HC)
   go_roundw
   case rel => exact ⟨k + 1, by omega, by go_num, by rw [HF.out]; exact F2⟩
   case measure => simp [intOf]; omega
  ·
   (have : k = l0.length := by omega); subst this; go_wp2; go_ret; rw [List.take_length] at F; exact ⟨_, rfl, F.out.is, F.out.be, F.out.bw⟩
end Go.Proofs.Ytodmemndaaiolaa.PC7
namespace Go.Proofs.Ytodmemndaaiolaa.PC7
open Go.RowKit Go.Proofs.YtodmemndaaiolaaW.PrintWords Go.Proofs.YtodmemndaaiolaaW.PrintLast Go.Proofs.YtodmemndaaiolaaW.PrintMore
attribute [local go_sem] max2_int min2_int max_two min_two max_three min_three max_four min_four
set_option linter.unusedVariables false
set_option linter.unusedSimpArgs false
attribute [local go_sem high] eqA56
set_option maxHeartbeats 8000000 in
set_option maxRecDepth 100000 in
theorem swarflaw07_awake.calls (k : Nat)  (r : Bool) (w : World) (h : swarflaw07_awake.f k  = some r) :
  Calls Try.prog 15 #[] w fun e w' => e = .returned (.bool r) ∧ Below w.heap.size w w' := by
 have hrt := Aside0.mk (awake_true h)
 have hu56 := Try.underlying56
 have HB := Aside0.mk (Below.refl w.heap.size w)
 have H : ((swarflaw07_voyage.f).bind fun bt198 => ((ship_Drafts.f bt198.1 bt198.2.1 bt198.2.2.1 bt198.2.2.2.1 bt198.2.2.2.2.1 bt198.2.2.2.2.2.1 bt198.2.2.2.2.2.2 (([0, 1, (-1)] : List Int))).bind fun bt214 => ((swarflaw07_voyage.f).bind fun bt221 => ((ship_Sail.f bt221.1 bt221.2.1 bt221.2.2.1 bt221.2.2.2.1 bt221.2.2.2.2.1 bt221.2.2.2.2.2.1 bt221.2.2.2.2.2.2 (([0, 1, (-1)] : List Int))).bind fun bt237 => ((swarflaw07_voyage.f).bind fun bt242 => ((ship_Best.f bt242.1 bt242.2.1 bt242.2.2.1 bt242.2.2.2.1 bt242.2.2.2.2.1 bt242.2.2.2.2.2.1 bt242.2.2.2.2.2.2).bind fun bt255 => (if bt214.2.2.2.2 = 0 then (if bt237.2.2 = 0 then (if bt255.2.2 = 0 then ((swarflaw07_rng.f 1290000 1340000).bind fun bt260 => (if (bt214.1 == bt260.1 && (bt214.2.1 == bt260.2)) = true then ((swarflaw07_rng.f 1260000 1310000).bind fun bt262 => (if (bt214.2.2.1 == bt262.1 && (bt214.2.2.2.1 == bt262.2)) = true then (if bt237.1 = 1 then (if bt255.2.1 = 95 then ((swarfkit_EqualInts.f k bt255.1 (([0, (-1), 1] : List Int))).bind fun t267 => (if t267 = true then ((swarflaw07_rng.f 90 100).bind fun bt268 => ((swarflaw07_rng.f 240 250).bind fun bt270 => ((swarfkit_EqualRanges.f k bt237.2.1 (([(⟨bt268.1, bt268.2⟩ : S56), (⟨bt270.1, bt270.2⟩ : S56)] : List (S56)))).bind fun t275 => (some t275)))) else (some false))) else (some false)) else (some false)) else (some false))) else (some false))) else (some false)) else (some false)) else (some false)))))))) = some r := h
 clear h
 replace H := Option.bind_eq_some_iff.mp H
 obtain ⟨⟨t198, t199, t200, t201, t204, t205, t208⟩, A10, H⟩ := H
 try dsimp only at H
 have A1 := Aside0.mk A10
 clear A10
 obtain ⟨y211, hy211⟩ : ∃ y_ : List Int, y_ = (([0, 1, (-1)] : List Int)) := ⟨_, rfl⟩
 replace H : ((ship_Drafts.f t198 t199 t200 t201 t204 t205 t208 y211).bind fun bt214 => ((swarflaw07_voyage.f).bind fun bt221 => ((ship_Sail.f bt221.1 bt221.2.1 bt221.2.2.1 bt221.2.2.2.1 bt221.2.2.2.2.1 bt221.2.2.2.2.2.1 bt221.2.2.2.2.2.2 (([0, 1, (-1)] : List Int))).bind fun bt237 => ((swarflaw07_voyage.f).bind fun bt242 => ((ship_Best.f bt242.1 bt242.2.1 bt242.2.2.1 bt242.2.2.2.1 bt242.2.2.2.2.1 bt242.2.2.2.2.2.1 bt242.2.2.2.2.2.2).bind fun bt255 => (if bt214.2.2.2.2 = 0 then (if bt237.2.2 = 0 then (if bt255.2.2 = 0 then ((swarflaw07_rng.f 1290000 1340000).bind fun bt260 => (if (bt214.1 == bt260.1 && (bt214.2.1 == bt260.2)) = true then ((swarflaw07_rng.f 1260000 1310000).bind fun bt262 => (if (bt214.2.2.1 == bt262.1 && (bt214.2.2.2.1 == bt262.2)) = true then (if bt237.1 = 1 then (if bt255.2.1 = 95 then ((swarfkit_EqualInts.f k bt255.1 (([0, (-1), 1] : List Int))).bind fun t267 => (if t267 = true then ((swarflaw07_rng.f 90 100).bind fun bt268 => ((swarflaw07_rng.f 240 250).bind fun bt270 => ((swarfkit_EqualRanges.f k bt237.2.1 (([(⟨bt268.1, bt268.2⟩ : S56), (⟨bt270.1, bt270.2⟩ : S56)] : List (S56)))).bind fun t275 => (some t275)))) else (some false))) else (some false)) else (some false)) else (some false))) else (some false))) else (some false)) else (some false)) else (some false))))))) = some r := by first | (rw [hy211]; with_reducible exact H) | (have H2_ := (Option.bind_some _ _).symm.trans H; rw [hy211]; with_reducible exact H2_) | (have H2_ := (Option.bind_some _ _).symm.trans H; with_reducible exact H2_) | with_reducible exact H | (rw [hy211]; exact H) | exact H
 have Ny211 := Aside0.mk hy211
 clear hy211
 replace H := Option.bind_eq_some_iff.mp H
 obtain ⟨⟨t214, t215, t216, t217, t218⟩, A20, H⟩ := H
 try dsimp only at H
 have A2 := Aside0.mk A20
 clear A20
 replace H := Option.bind_eq_some_iff.mp H
 obtain ⟨⟨t221, t222, t223, t224, t227, t228, t231⟩, A30, H⟩ := H
 try dsimp only at H
 have A3 := Aside0.mk A30
 clear A30
 obtain ⟨y234, hy234⟩ : ∃ y_ : List Int, y_ = (([0, 1, (-1)] : List Int)) := ⟨_, rfl⟩
 replace H : ((ship_Sail.f t221 t222 t223 t224 t227 t228 t231 y234).bind fun bt237 => ((swarflaw07_voyage.f).bind fun bt242 => ((ship_Best.f bt242.1 bt242.2.1 bt242.2.2.1 bt242.2.2.2.1 bt242.2.2.2.2.1 bt242.2.2.2.2.2.1 bt242.2.2.2.2.2.2).bind fun bt255 => (if t218 = 0 then (if bt237.2.2 = 0 then (if bt255.2.2 = 0 then ((swarflaw07_rng.f 1290000 1340000).bind fun bt260 => (if (t214 == bt260.1 && (t215 == bt260.2)) = true then ((swarflaw07_rng.f 1260000 1310000).bind fun bt262 => (if (t216 == bt262.1 && (t217 == bt262.2)) = true then (if bt237.1 = 1 then (if bt255.2.1 = 95 then ((swarfkit_EqualInts.f k bt255.1 (([0, (-1), 1] : List Int))).bind fun t267 => (if t267 = true then ((swarflaw07_rng.f 90 100).bind fun bt268 => ((swarflaw07_rng.f 240 250).bind fun bt270 => ((swarfkit_EqualRanges.f k bt237.2.1 (([(⟨bt268.1, bt268.2⟩ : S56), (⟨bt270.1, bt270.2⟩ : S56)] : List (S56)))).bind fun t275 => (some t275)))) else (some false))) else (some false)) else (some false)) else (some false))) else (some false))) else (some false)) else (some false)) else (some false))))) = some r := by first | (rw [hy234]; with_reducible exact H) | (have H2_ := (Option.bind_some _ _).symm.trans H; rw [hy234]; with_reducible exact H2_) | (have H2_ := (Option.bind_some _ _).symm.trans H; with_reducible exact H2_) | with_reducible exact H | (rw [hy234]; exact H) | exact H
 have Ny234 := Aside0.mk hy234
 clear hy234
 replace H := Option.bind_eq_some_iff.mp H
 obtain ⟨⟨t237, t238, t241⟩, A40, H⟩ := H
 try dsimp only at H
 have A4 := Aside0.mk A40
 clear A40
 replace H := Option.bind_eq_some_iff.mp H
 obtain ⟨⟨t242, t243, t244, t245, t248, t249, t252⟩, A50, H⟩ := H
 try dsimp only at H
 have A5 := Aside0.mk A50
 clear A50
 replace H := Option.bind_eq_some_iff.mp H
 obtain ⟨⟨t255, t258, t259⟩, A60, H⟩ := H
 try dsimp only at H
 have A6 := Aside0.mk A60
 clear A60
 by_cases c7 : t218 = 0
 ·
  rw [if_pos c7] at H; have c7b0 : (t218 == 0) = true := beq_iff_eq.mpr c7; have c7b1 : (t218 != 0) = false := bne_eq_false_iff_eq.mpr c7; clear c7; by_cases c8 : t241 = 0
  ·
   rw [if_pos c8] at H; have c8b0 : (t241 == 0) = true := beq_iff_eq.mpr c8; have c8b1 : (t241 != 0) = false := bne_eq_false_iff_eq.mpr c8; clear c8; by_cases c9 : t259 = 0
   ·
    rw [if_pos c9] at H; have c9b0 : (t259 == 0) = true := beq_iff_eq.mpr c9; have c9b1 : (t259 != 0) = false := bne_eq_false_iff_eq.mpr c9; clear c9; replace H := Option.bind_eq_some_iff.mp H; obtain ⟨⟨t260, t261⟩, A100, H⟩ := H
    try dsimp only at H
    have A10 := Aside0.mk A100; clear A100; by_cases c11 : (t214 == t260 && (t215 == t261)) = true
    ·
     rw [if_pos c11] at H; have c11b0 : (t214 == t260 && (t215 == t261)) = true := c11
     (try (have c11b1 : decide (t214 = t260 && (t215 == t261)) = true := by simpa using c11))
     (try (have c11b2 : (t214 == t260 && (t215 == t261)) = true := by simpa using c11))
     clear c11; replace H := Option.bind_eq_some_iff.mp H; obtain ⟨⟨t262, t263⟩, A120, H⟩ := H
     try dsimp only at H
     have A12 := Aside0.mk A120; clear A120; by_cases c13 : (t216 == t262 && (t217 == t263)) = true
     ·
      rw [if_pos c13] at H; have c13b0 : (t216 == t262 && (t217 == t263)) = true := c13
      (try (have c13b1 : decide (t216 = t262 && (t217 == t263)) = true := by simpa using c13))
      (try (have c13b2 : (t216 == t262 && (t217 == t263)) = true := by simpa using c13))
      clear c13; by_cases c14 : t237 = 1
      ·
       rw [if_pos c14] at H; have c14b0 : (t237 == 1) = true := beq_iff_eq.mpr c14; have c14b1 : (t237 != 1) = false := bne_eq_false_iff_eq.mpr c14; clear c14; by_cases c15 : t258 = 95
       ·
        rw [if_pos c15] at H; have c15b0 : (t258 == 95) = true := beq_iff_eq.mpr c15; have c15b1 : (t258 != 95) = false := bne_eq_false_iff_eq.mpr c15; clear c15; obtain ⟨y264, hy264⟩ : ∃ y_ : List Int, y_ = (([0, (-1), 1] : List Int)) := ⟨_, rfl⟩; (replace H : ((swarfkit_EqualInts.f k t255 y264).bind fun t267 => (if t267 = true then ((swarflaw07_rng.f 90 100).bind fun bt268 => ((swarflaw07_rng.f 240 250).bind fun bt270 => ((swarfkit_EqualRanges.f k t238 (([(⟨bt268.1, bt268.2⟩ : S56), (⟨bt270.1, bt270.2⟩ : S56)] : List (S56)))).bind fun t275 => (some t275)))) else (some false))) = some r := by first | (rw [hy264]; with_reducible exact H) | (have H2_ := (Option.bind_some _ _).symm.trans H; rw [hy264]; with_reducible exact H2_) | (have H2_ := (Option.bind_some _ _).symm.trans H; with_reducible exact H2_) | with_reducible exact H | (rw [hy264]; exact H) | exact H); have Ny264 := Aside0.mk hy264; clear hy264; replace H := Option.bind_eq_some_iff.mp H; obtain ⟨t267, A160, H⟩ := H
        try dsimp only at H
        have A16 := Aside0.mk A160; clear A160; by_cases c17 : t267 = true
        ·
         subst c17; (have H1 : ((swarflaw07_rng.f 90 100).bind fun bt268 => ((swarflaw07_rng.f 240 250).bind fun bt270 => ((swarfkit_EqualRanges.f k t238 (([(⟨bt268.1, bt268.2⟩ : S56), (⟨bt270.1, bt270.2⟩ : S56)] : List (S56)))).bind fun t275 => (some t275)))) = some r := by rw [if_pos rfl] at H; exact H); clear H; have H := H1; clear H1; replace H := Option.bind_eq_some_iff.mp H; obtain ⟨⟨t268, t269⟩, A180, H⟩ := H
         try dsimp only at H
         have A18 := Aside0.mk A180; clear A180; replace H := Option.bind_eq_some_iff.mp H; obtain ⟨⟨t270, t271⟩, A190, H⟩ := H
         try dsimp only at H
         have A19 := Aside0.mk A190; clear A190; obtain ⟨y272, hy272⟩ : ∃ y_ : List (S56), y_ = (([(⟨t268, t269⟩ : S56), (⟨t270, t271⟩ : S56)] : List (S56))) := ⟨_, rfl⟩; (replace H : ((swarfkit_EqualRanges.f k t238 y272).bind fun t275 => (some t275)) = some r := by first | (rw [hy272]; with_reducible exact H) | (have H2_ := (Option.bind_some _ _).symm.trans H; rw [hy272]; with_reducible exact H2_) | (have H2_ := (Option.bind_some _ _).symm.trans H; with_reducible exact H2_) | with_reducible exact H | (rw [hy272]; exact H) | exact H); have Ny272 := Aside0.mk hy272; clear hy272; replace H := Option.bind_eq_some_iff.mp H; obtain ⟨t275, A200, H⟩ := H; replace H : (some t275) = some r := H; have A20 := Aside0.mk A200; clear A200; obtain rfl := Option.some.inj H; go_enter Try.func15, Try.ntmps15
         try go_wp2_with (first | (refine goesG_x 52 rfl (some 11) Try.func52 #[] ?_; (with_reducible refine (swarflaw07_voyage.calls  t198 t199 t200 t201 t204 t205 t208 _ A1.out).mono ?_); rintro e w21 ⟨v202, v206, v209, rfl, ho0, ho1, ho2, hb⟩; refine ⟨_, rfl, ?_⟩; have HO203 := Aside0.mk (Kd.R_lower (Kd.R_mono (ok' := fun k_ => True) ho0 (fun _ hk_ => trivial)) (below_size (below_x HB.out))); have HO207 := Aside0.mk (Kd.N_lower (Kd.N_mono (ok' := fun k_ => some k_ ≠ (v202 : Value).ownBlock ∧ some k_ ≠ (v209 : Value).ownBlock) ho1 (fun k_ hk_ => ⟨hk_.2.1, hk_.2.2⟩)) (below_size (below_x HB.out))); have HO210 := Aside0.mk (Kd.R_lower (Kd.R_mono (ok' := fun k_ => True) ho2 (fun _ hk_ => trivial)) (below_size (below_x HB.out))); replace HB := Aside0.mk (below_step (below_x HB.out) hb); (try clear hb); (try clear hk); (try clear hi); (try clear ho0); (try clear ho1); (try clear ho2)) | ((with_reducible refine gate_dst (N := 12) rfl ?_); (try (refine gate_guard (by rfl) ?_; dsimp only)); refine Kd.R_lit (Kd.int .i64) _ 3 ?hg (N := 12) ?hd (xs := ([0, 1, (-1)] : List Int)) (inner := [.int .i64 0, .int .i64 1, .int .i64 (-1)]) (ok := fun _ => True) (okp := fun _ => True) ?hr ?hp (fun _ hk => hk) trivial (Below.refl _ _) (Nat.le_refl _) (by simp) ?_; (case hd => rfl); (case hg => rfl); (case hr => first | (go_simp; done) | (go_simp; rfl)); (case hp => exact (Reps.one (show Kd.M (Kd.int .i64) _ _ _ 0 [.int .i64 0] from rfl) (Reps.one (show Kd.M (Kd.int .i64) _ _ _ 1 [.int .i64 1] from rfl) (Reps.one (show Kd.M (Kd.int .i64) _ _ _ (-1) [.int .i64 (-1)] from rfl) (Reps.none _ _))))); intro v212 w22 ho23 hb hg_ hnew_; clear hg_ hnew_; (first | rw [← Ny211.out] at ho23 | (simp only [Int.reduceToNat] at ho23; rw [← Ny211.out] at ho23)); replace HO203 := Aside0.mk (Kd.R_below (Kd.R_x HO203.out) hb); replace HO207 := Aside0.mk (Kd.N_elder' (Kd.N_x HO207.out) (Kd.R_base ho23) hb); replace HO210 := Aside0.mk (Kd.R_below (Kd.R_x HO210.out) hb); have HO213 := Aside0.mk (Kd.R_lower ho23 (below_size (below_x HB.out))); replace HB := Aside0.mk (below_step (below_x HB.out) hb); clear hb ho23; obtain ⟨Ao24, co24, eo24⟩ := Kd.R_slice HO203.out; subst eo24; obtain ⟨Ao25, co25, eo25⟩ := Kd.N_slice HO207.out; subst eo25; obtain ⟨Ao26, co26, eo26⟩ := Kd.R_slice HO210.out; subst eo26; obtain ⟨Ao27, co27, eo27⟩ := Kd.R_slice HO213.out; subst eo27) | (refine goesG_x 35 rfl (some 13) Try.func35 #[.agg #[.int .i64 t198, .int .i64 t199, .int .i64 t200, .slice Ao24 t201.length co24, .int .i64 t204, .slice Ao25 t205.length co25, .slice Ao26 t208.length co26], .slice Ao27 y211.length co27] ?_; (with_reducible refine (ship_Drafts.calls t198 t199 t200 _ _ t201 t204 _ _ t205 _ _ t208 _ _ y211 t214 t215 t216 t217 t218 _ ?side1 ?side2 ?side3 ?side4 ?side5 ?side6 ?side7 ?side8 A2.out).mono ?_); (case side1 => exact Kd.C_y (Kd.R_reads' HO203.out).2.2); (case side2 => exact (Kd.R_reads' HO203.out).2.1); (case side3 => exact Kd.C_y (Kd.N_reads' HO207.out).2.2); (case side4 => exact (Kd.N_reads' HO207.out).2.1); (case side5 => exact Kd.C_y (Kd.R_reads' HO210.out).2.2); (case side6 => exact (Kd.R_reads' HO210.out).2.1); (case side7 => exact Kd.C_y (Kd.R_reads' HO213.out).2.2); (case side8 => exact (Kd.R_reads' HO213.out).2.1); rintro e w28 ⟨rfl, hb⟩; refine ⟨_, rfl, ?_⟩; replace HO203 := Aside0.mk (Kd.R_below (Kd.R_x HO203.out) hb); replace HO207 := Aside0.mk (Kd.N_below (Kd.N_x HO207.out) hb); replace HO210 := Aside0.mk (Kd.R_below (Kd.R_x HO210.out) hb); replace HO213 := Aside0.mk (Kd.R_below (Kd.R_x HO213.out) hb); replace HB := Aside0.mk (below_step (below_x HB.out) hb); (try clear hb); (try clear hk); (try clear hi)) | ((with_reducible refine gate_dst (N := 1) rfl ?_); (try (refine gate_guard (by rfl) ?_; dsimp only)); refine box_x (N := 1) (cs := #[.int .i64 0, .int .i64 0]) (t := 56) ?_; intro gb219 hg w29 hbox hb; replace HO203 := Aside0.mk (Kd.R_below (Kd.R_x HO203.out) hb); replace HO207 := Aside0.mk (Kd.N_below (Kd.N_elderB (Kd.N_x HO207.out) gb219 (Nat.le_of_eq hg.symm)) hb); replace HO210 := Aside0.mk (Kd.R_below (Kd.R_x HO210.out) hb); replace HO213 := Aside0.mk (Kd.R_below (Kd.R_x HO213.out) hb); have BK219 := Aside0.mk (hbox); have GW219 := gw_x hg HB; have GE219 := GW219; replace HB := Aside0.mk (below_step (below_x HB.out) hb); clear hb hbox hg) | ((with_reducible refine gate_dst (N := 2) rfl ?_); (try (refine gate_guard (by rfl) ?_; dsimp only)); refine box_x (N := 2) (cs := #[.int .i64 0, .int .i64 0]) (t := 56) ?_; intro gb220 hg w30 hbox hb; replace HO203 := Aside0.mk (Kd.R_below (Kd.R_x HO203.out) hb); replace HO207 := Aside0.mk (Kd.N_below (Kd.N_elderB (Kd.N_x HO207.out) gb220 (Nat.le_of_eq hg.symm)) hb); replace HO210 := Aside0.mk (Kd.R_below (Kd.R_x HO210.out) hb); replace HO213 := Aside0.mk (Kd.R_below (Kd.R_x HO213.out) hb); have BK220 := Aside0.mk (hbox); have GW220 := gw_x hg HB; have GE220 := GW220; replace HB := bl_x HB hb; have NB219_220 := nb_x hg BK219; have NB220_219 := nb_y hg BK219; replace BK219 := bk_x BK219 hb; clear hb hbox hg; have hnb31 := NB219_220.out; have hnc31 := NB220_219.out; obtain ⟨hfz32_0, _, _⟩ := cf2 BK219; obtain ⟨hfz33_0, _, _⟩ := cf2 BK220) | (refine goesG_x 52 rfl (some 18) Try.func52 #[] ?_; (with_reducible refine (swarflaw07_voyage.calls  t221 t222 t223 t224 t227 t228 t231 _ A3.out).mono ?_); rintro e w34 ⟨v225, v229, v232, rfl, ho0, ho1, ho2, hb⟩; refine ⟨_, rfl, ?_⟩; have HO226 := Aside0.mk (Kd.R_lower (Kd.R_new' (Kd.R_mono (ok' := fun k_ => True) ho0 (fun _ hk_ => trivial)) (Kd.R_lt (by (with_reducible repeat (first | apply Kd.R_alloc | apply Kd.R_drewN | apply Kd.R_drew)); exact (Kd.R_mono (Kd.R_mono (Kd.R_far (p := ⟨gb220, 1, none⟩) (Kd.R_far (p := ⟨gb220, 0, none⟩) (Kd.R_far (p := ⟨gb219, 1, none⟩) (Kd.R_far (p := ⟨gb219, 0, none⟩) (Kd.R_types (Kd.R_types HO203.out BK219.out (by decide)) BK220.out (by decide)) (fun _ hk => hk.1.2) (.int .i64 t214)) (fun _ hk => hk.1.2) (.int .i64 t215)) (fun _ hk => hk.2) (.int .i64 t216)) (fun _ hk => hk.2) (.int .i64 t217)) (fun _ h_ => h_.1)) (fun _ h_ => h_.1))))) (below_size (by exact below_y HB.out))); have HO230 := Aside0.mk (Kd.N_lower (Kd.N_mono (ok' := fun k_ => some k_ ≠ (v225 : Value).ownBlock ∧ some k_ ≠ (v232 : Value).ownBlock ∧ some k_ ≠ (.slice Ao24 t201.length co24 : Value).ownBlock ∧ some k_ ≠ (.slice Ao25 t205.length co25 : Value).ownBlock ∧ some k_ ≠ (.slice Ao26 t208.length co26 : Value).ownBlock ∧ some k_ ≠ (.slice Ao27 y211.length co27 : Value).ownBlock ∧ k_ ≠ gb219 ∧ k_ ≠ gb220) ho1 (fun k_ hk_ => ⟨hk_.2.1, hk_.2.2, (Kd.fresh' (Kd.R_lt (by (with_reducible repeat (first | apply Kd.R_alloc | apply Kd.R_drewN | apply Kd.R_drew)); exact (Kd.R_mono (Kd.R_mono (Kd.R_far (p := ⟨gb220, 1, none⟩) (Kd.R_far (p := ⟨gb220, 0, none⟩) (Kd.R_far (p := ⟨gb219, 1, none⟩) (Kd.R_far (p := ⟨gb219, 0, none⟩) (Kd.R_types (Kd.R_types HO203.out BK219.out (by decide)) BK220.out (by decide)) (fun _ hk => hk.1.2) (.int .i64 t214)) (fun _ hk => hk.1.2) (.int .i64 t215)) (fun _ hk => hk.2) (.int .i64 t216)) (fun _ hk => hk.2) (.int .i64 t217)) (fun _ h_ => h_.1)) (fun _ h_ => h_.1)))) k_ hk_.1), (Kd.fresh' (Kd.N_lt (by (with_reducible repeat (first | apply Kd.N_alloc | apply Kd.N_drewN | apply Kd.N_drew)); exact (Kd.N_mono (Kd.N_mono (Kd.N_far (p := ⟨gb220, 1, none⟩) (Kd.N_far (p := ⟨gb220, 0, none⟩) (Kd.N_far (p := ⟨gb219, 1, none⟩) (Kd.N_far (p := ⟨gb219, 0, none⟩) (Kd.N_mono (Kd.N_mono HO207.out (fun k_ hk => (⟨hk, hk.1.2⟩ : _ ∧ k_ ≠ gb219))) (fun k_ hk => (⟨hk, hk.1.2⟩ : _ ∧ k_ ≠ gb220))) (fun _ hk => hk.1.2) (.int .i64 t214)) (fun _ hk => hk.1.2) (.int .i64 t215)) (fun _ hk => hk.2) (.int .i64 t216)) (fun _ hk => hk.2) (.int .i64 t217)) (fun _ h_ => h_.1)) (fun _ h_ => h_.1)))) k_ hk_.1), (Kd.fresh' (Kd.R_lt (by (with_reducible repeat (first | apply Kd.R_alloc | apply Kd.R_drewN | apply Kd.R_drew)); exact (Kd.R_mono (Kd.R_mono (Kd.R_far (p := ⟨gb220, 1, none⟩) (Kd.R_far (p := ⟨gb220, 0, none⟩) (Kd.R_far (p := ⟨gb219, 1, none⟩) (Kd.R_far (p := ⟨gb219, 0, none⟩) (Kd.R_types (Kd.R_types HO210.out BK219.out (by decide)) BK220.out (by decide)) (fun _ hk => hk.1.2) (.int .i64 t214)) (fun _ hk => hk.1.2) (.int .i64 t215)) (fun _ hk => hk.2) (.int .i64 t216)) (fun _ hk => hk.2) (.int .i64 t217)) (fun _ h_ => h_.1)) (fun _ h_ => h_.1)))) k_ hk_.1), (Kd.fresh' (Kd.R_lt (by (with_reducible repeat (first | apply Kd.R_alloc | apply Kd.R_drewN | apply Kd.R_drew)); exact (Kd.R_mono (Kd.R_mono (Kd.R_far (p := ⟨gb220, 1, none⟩) (Kd.R_far (p := ⟨gb220, 0, none⟩) (Kd.R_far (p := ⟨gb219, 1, none⟩) (Kd.R_far (p := ⟨gb219, 0, none⟩) (Kd.R_types (Kd.R_types HO213.out BK219.out (by decide)) BK220.out (by decide)) (fun _ hk => hk.1.2) (.int .i64 t214)) (fun _ hk => hk.1.2) (.int .i64 t215)) (fun _ hk => hk.2) (.int .i64 t216)) (fun _ hk => hk.2) (.int .i64 t217)) (fun _ h_ => h_.1)) (fun _ h_ => h_.1)))) k_ hk_.1), (Kd.freshB (g := gb219) (o := .cells #[.int .i64 t214, .int .i64 t215] 56 (0, 0)) (blk_z BK219.out) k_ hk_.1), (Kd.freshB (g := gb220) (o := .cells #[.int .i64 t216, .int .i64 t217] 56 (0, 0)) (by (with_reducible repeat (first | refine blk_drewN ?_ _ | refine blk_drew ?_ | refine blk_alloc ?_ _)); refine blk_put (cs := #[.int .i64 t216, .int .i64 0]) ?_ 1 _ rfl; (with_reducible repeat (first | refine blk_drewN ?_ _ | refine blk_drew ?_ | refine blk_alloc ?_ _)); refine blk_put (cs := #[.int .i64 0, .int .i64 0]) ?_ 0 _ rfl; exact blk_w BK220.out) k_ hk_.1)⟩)) (below_size (by exact below_y HB.out))); replace HO203 := Aside0.mk (Kd.R_elder' (by (with_reducible repeat (first | apply Kd.R_alloc | apply Kd.R_drewN | apply Kd.R_drew)); exact (Kd.R_mono (Kd.R_mono (Kd.R_far (p := ⟨gb220, 1, none⟩) (Kd.R_far (p := ⟨gb220, 0, none⟩) (Kd.R_far (p := ⟨gb219, 1, none⟩) (Kd.R_far (p := ⟨gb219, 0, none⟩) (Kd.R_types (Kd.R_types HO203.out BK219.out (by decide)) BK220.out (by decide)) (fun _ hk => hk.1.2) (.int .i64 t214)) (fun _ hk => hk.1.2) (.int .i64 t215)) (fun _ hk => hk.2) (.int .i64 t216)) (fun _ hk => hk.2) (.int .i64 t217)) (fun _ h_ => h_.1)) (fun _ h_ => h_.1))) (Kd.R_base ho0) hb); replace HO207 := Aside0.mk (Kd.N_mono (Kd.N_told (Kd.N_told (Kd.N_told (Kd.N_old (by (with_reducible repeat (first | apply Kd.N_alloc | apply Kd.N_drewN | apply Kd.N_drew)); exact (Kd.N_mono (Kd.N_mono (Kd.N_far (p := ⟨gb220, 1, none⟩) (Kd.N_far (p := ⟨gb220, 0, none⟩) (Kd.N_far (p := ⟨gb219, 1, none⟩) (Kd.N_far (p := ⟨gb219, 0, none⟩) (Kd.N_mono (Kd.N_mono HO207.out (fun k_ hk => (⟨hk, hk.1.2⟩ : _ ∧ k_ ≠ gb219))) (fun k_ hk => (⟨hk, hk.1.2⟩ : _ ∧ k_ ≠ gb220))) (fun _ hk => hk.1.2) (.int .i64 t214)) (fun _ hk => hk.1.2) (.int .i64 t215)) (fun _ hk => hk.2) (.int .i64 t216)) (fun _ hk => hk.2) (.int .i64 t217)) (fun _ h_ => h_.1)) (fun _ h_ => h_.1))) hb) (Kd.R_base ho0)) (Kd.N_base ho1)) (Kd.R_base ho2)) (fun _ h_ => h_.1)); replace HO213 := Aside0.mk (Kd.R_below (by (with_reducible repeat (first | apply Kd.R_alloc | apply Kd.R_drewN | apply Kd.R_drew)); exact (Kd.R_mono (Kd.R_mono (Kd.R_far (p := ⟨gb220, 1, none⟩) (Kd.R_far (p := ⟨gb220, 0, none⟩) (Kd.R_far (p := ⟨gb219, 1, none⟩) (Kd.R_far (p := ⟨gb219, 0, none⟩) (Kd.R_types (Kd.R_types HO213.out BK219.out (by decide)) BK220.out (by decide)) (fun _ hk => hk.1.2) (.int .i64 t214)) (fun _ hk => hk.1.2) (.int .i64 t215)) (fun _ hk => hk.2) (.int .i64 t216)) (fun _ hk => hk.2) (.int .i64 t217)) (fun _ h_ => h_.1)) (fun _ h_ => h_.1))) hb); have HO233 := Aside0.mk (Kd.R_lower (Kd.R_new' (Kd.R_mono (ok' := fun k_ => True) ho2 (fun _ hk_ => trivial)) (Kd.R_lt (by (with_reducible repeat (first | apply Kd.R_alloc | apply Kd.R_drewN | apply Kd.R_drew)); exact (Kd.R_mono (Kd.R_mono (Kd.R_far (p := ⟨gb220, 1, none⟩) (Kd.R_far (p := ⟨gb220, 0, none⟩) (Kd.R_far (p := ⟨gb219, 1, none⟩) (Kd.R_far (p := ⟨gb219, 0, none⟩) (Kd.R_types (Kd.R_types HO210.out BK219.out (by decide)) BK220.out (by decide)) (fun _ hk => hk.1.2) (.int .i64 t214)) (fun _ hk => hk.1.2) (.int .i64 t215)) (fun _ hk => hk.2) (.int .i64 t216)) (fun _ hk => hk.2) (.int .i64 t217)) (fun _ h_ => h_.1)) (fun _ h_ => h_.1))))) (below_size (by exact below_y HB.out))); replace HO210 := Aside0.mk (Kd.R_elder' (by (with_reducible repeat (first | apply Kd.R_alloc | apply Kd.R_drewN | apply Kd.R_drew)); exact (Kd.R_mono (Kd.R_mono (Kd.R_far (p := ⟨gb220, 1, none⟩) (Kd.R_far (p := ⟨gb220, 0, none⟩) (Kd.R_far (p := ⟨gb219, 1, none⟩) (Kd.R_far (p := ⟨gb219, 0, none⟩) (Kd.R_types (Kd.R_types HO210.out BK219.out (by decide)) BK220.out (by decide)) (fun _ hk => hk.1.2) (.int .i64 t214)) (fun _ hk => hk.1.2) (.int .i64 t215)) (fun _ hk => hk.2) (.int .i64 t216)) (fun _ hk => hk.2) (.int .i64 t217)) (fun _ h_ => h_.1)) (fun _ h_ => h_.1))) (Kd.R_base ho2) hb); replace BK219 := Aside0.mk (blk_below (g := gb219) (o := .cells #[.int .i64 t214, .int .i64 t215] 56 (0, 0)) (blk_z BK219.out) hb); replace BK220 := Aside0.mk (blk_below (g := gb220) (o := .cells #[.int .i64 t216, .int .i64 t217] 56 (0, 0)) (by (with_reducible repeat (first | refine blk_drewN ?_ _ | refine blk_drew ?_ | refine blk_alloc ?_ _)); refine blk_put (cs := #[.int .i64 t216, .int .i64 0]) ?_ 1 _ rfl; (with_reducible repeat (first | refine blk_drewN ?_ _ | refine blk_drew ?_ | refine blk_alloc ?_ _)); refine blk_put (cs := #[.int .i64 0, .int .i64 0]) ?_ 0 _ rfl; exact blk_w BK220.out) hb); replace HB := bl_x HB hb; (try clear hb); (try clear hk); (try clear hi); (try clear ho0); (try clear ho1); (try clear ho2)) | ((with_reducible refine gate_dst (N := 19) rfl ?_); (try (refine gate_guard (by rfl) ?_; dsimp only)); refine Kd.R_lit (Kd.int .i64) _ 3 ?hg (N := 19) ?hd (xs := ([0, 1, (-1)] : List Int)) (inner := [.int .i64 0, .int .i64 1, .int .i64 (-1)]) (ok := fun _ => True) (okp := fun _ => True) ?hr ?hp (fun _ hk => hk) trivial (Below.refl _ _) (Nat.le_refl _) (by simp) ?_; (case hd => rfl); (case hg => rfl); (case hr => first | (go_simp; done) | (go_simp; rfl)); (case hp => exact (Reps.one (show Kd.M (Kd.int .i64) _ _ _ 0 [.int .i64 0] from rfl) (Reps.one (show Kd.M (Kd.int .i64) _ _ _ 1 [.int .i64 1] from rfl) (Reps.one (show Kd.M (Kd.int .i64) _ _ _ (-1) [.int .i64 (-1)] from rfl) (Reps.none _ _))))); intro v235 w35 ho36 hb hg_ hnew_; clear hg_ hnew_; (first | rw [← Ny234.out] at ho36 | (simp only [Int.reduceToNat] at ho36; rw [← Ny234.out] at ho36)); replace HO203 := Aside0.mk (Kd.R_below (Kd.R_x HO203.out) hb); replace HO207 := Aside0.mk (Kd.N_elder' (Kd.N_x HO207.out) (Kd.R_base ho36) hb); replace HO210 := Aside0.mk (Kd.R_below (Kd.R_x HO210.out) hb); replace HO226 := Aside0.mk (Kd.R_below (Kd.R_x HO226.out) hb); replace HO230 := Aside0.mk (Kd.N_elder' (Kd.N_x HO230.out) (Kd.R_base ho36) hb); replace HO233 := Aside0.mk (Kd.R_below (Kd.R_x HO233.out) hb); have HO236 := Aside0.mk (Kd.R_lower (Kd.R_new' ho36 (Kd.R_lt (Kd.R_x HO213.out))) (below_size (by exact below_y HB.out))); replace HO213 := Aside0.mk (Kd.R_elder' (Kd.R_x HO213.out) (Kd.R_base ho36) hb); replace BK219 := bk_x BK219 hb; replace BK220 := bk_x BK220 hb; replace HB := bl_x HB hb; clear hb ho36; obtain ⟨Ao37, co37, eo37⟩ := Kd.R_slice HO226.out; subst eo37; obtain ⟨Ao38, co38, eo38⟩ := Kd.N_slice HO230.out; subst eo38; obtain ⟨Ao39, co39, eo39⟩ := Kd.R_slice HO233.out; subst eo39; obtain ⟨Ao40, co40, eo40⟩ := Kd.R_slice HO236.out; subst eo40) | (refine goesG_x 22 rfl (some 20) Try.func22 #[.agg #[.int .i64 t221, .int .i64 t222, .int .i64 t223, .slice Ao37 t224.length co37, .int .i64 t227, .slice Ao38 t228.length co38, .slice Ao39 t231.length co39], .slice Ao40 y234.length co40] ?_; (with_reducible refine (ship_Sail.calls t221 t222 t223 _ _ t224 t227 _ _ t228 _ _ t231 _ _ y234 t237 t238 t241 _ ?side1 ?side2 ?side3 ?side4 ?side5 ?side6 ?side7 ?side8 A4.out).mono ?_); (case side1 => exact Kd.C_y (Kd.R_reads' HO226.out).2.2); (case side2 => exact (Kd.R_reads' HO226.out).2.1); (case side3 => exact Kd.C_y (Kd.N_reads' HO230.out).2.2); (case side4 => exact (Kd.N_reads' HO230.out).2.1); (case side5 => exact Kd.C_y (Kd.R_reads' HO233.out).2.2); (case side6 => exact (Kd.R_reads' HO233.out).2.1); (case side7 => exact Kd.C_y (Kd.R_reads' HO236.out).2.2); (case side8 => exact (Kd.R_reads' HO236.out).2.1); rintro e w41 ⟨v239, rfl, ho0, hb⟩; refine ⟨_, rfl, ?_⟩; replace HO203 := Aside0.mk (Kd.R_below (Kd.R_x HO203.out) hb); replace HO207 := Aside0.mk (Kd.N_elder' (Kd.N_x HO207.out) (Kd.R_base ho0) hb); replace HO210 := Aside0.mk (Kd.R_below (Kd.R_x HO210.out) hb); replace HO213 := Aside0.mk (Kd.R_below (Kd.R_x HO213.out) hb); replace HO226 := Aside0.mk (Kd.R_below (Kd.R_x HO226.out) hb); replace HO230 := Aside0.mk (Kd.N_elder' (Kd.N_x HO230.out) (Kd.R_base ho0) hb); replace HO233 := Aside0.mk (Kd.R_below (Kd.R_x HO233.out) hb); replace HO236 := Aside0.mk (Kd.R_below (Kd.R_x HO236.out) hb); have HO240 := Aside0.mk (Kd.R_lower (Kd.R_newB (Kd.R_newB ho0 (g := gb219) (o := .cells #[.int .i64 t214, .int .i64 t215] 56 (0, 0)) (blk_x BK219.out)) (g := gb220) (o := .cells #[.int .i64 t216, .int .i64 t217] 56 (0, 0)) (blk_x BK220.out)) (below_size (by exact below_y HB.out))); replace BK219 := bk_x BK219 hb; replace BK220 := bk_x BK220 hb; replace HB := bl_x HB hb; (try clear hb); (try clear hk); (try clear hi); (try clear ho0)) | (refine goesG_x 52 rfl (some 25) Try.func52 #[] ?_; (with_reducible refine (swarflaw07_voyage.calls  t242 t243 t244 t245 t248 t249 t252 _ A5.out).mono ?_); rintro e w42 ⟨v246, v250, v253, rfl, ho0, ho1, ho2, hb⟩; refine ⟨_, rfl, ?_⟩; have HO247 := Aside0.mk (Kd.R_lower (Kd.R_new' (Kd.R_new' (Kd.R_mono (ok' := fun k_ => True) ho0 (fun _ hk_ => trivial)) (Kd.R_lt (Kd.R_x HO203.out))) (Kd.R_lt (Kd.R_x HO226.out))) (below_size (by exact below_y HB.out))); have HO251 := Aside0.mk (Kd.N_lower (Kd.N_mono (ok' := fun k_ => some k_ ≠ (v246 : Value).ownBlock ∧ some k_ ≠ (v253 : Value).ownBlock ∧ some k_ ≠ (.slice Ao24 t201.length co24 : Value).ownBlock ∧ some k_ ≠ (.slice Ao25 t205.length co25 : Value).ownBlock ∧ some k_ ≠ (.slice Ao26 t208.length co26 : Value).ownBlock ∧ some k_ ≠ (.slice Ao27 y211.length co27 : Value).ownBlock ∧ some k_ ≠ (.slice Ao37 t224.length co37 : Value).ownBlock ∧ some k_ ≠ (.slice Ao38 t228.length co38 : Value).ownBlock ∧ some k_ ≠ (.slice Ao39 t231.length co39 : Value).ownBlock ∧ some k_ ≠ (.slice Ao40 y234.length co40 : Value).ownBlock ∧ some k_ ≠ (v239 : Value).ownBlock ∧ k_ ≠ gb219 ∧ k_ ≠ gb220) ho1 (fun k_ hk_ => ⟨hk_.2.1, hk_.2.2, (Kd.fresh' (Kd.R_lt (Kd.R_x HO203.out)) k_ hk_.1), (Kd.fresh' (Kd.N_lt (Kd.N_x HO207.out)) k_ hk_.1), (Kd.fresh' (Kd.R_lt (Kd.R_x HO210.out)) k_ hk_.1), (Kd.fresh' (Kd.R_lt (Kd.R_x HO213.out)) k_ hk_.1), (Kd.fresh' (Kd.R_lt (Kd.R_x HO226.out)) k_ hk_.1), (Kd.fresh' (Kd.N_lt (Kd.N_x HO230.out)) k_ hk_.1), (Kd.fresh' (Kd.R_lt (Kd.R_x HO233.out)) k_ hk_.1), (Kd.fresh' (Kd.R_lt (Kd.R_x HO236.out)) k_ hk_.1), (Kd.fresh' (Kd.R_lt (Kd.R_x HO240.out)) k_ hk_.1), (Kd.freshB (g := gb219) (o := .cells #[.int .i64 t214, .int .i64 t215] 56 (0, 0)) (blk_x BK219.out) k_ hk_.1), (Kd.freshB (g := gb220) (o := .cells #[.int .i64 t216, .int .i64 t217] 56 (0, 0)) (blk_x BK220.out) k_ hk_.1)⟩)) (below_size (by exact below_y HB.out))); replace HO203 := Aside0.mk (Kd.R_elder' (Kd.R_x HO203.out) (Kd.R_base ho0) hb); replace HO207 := Aside0.mk (Kd.N_mono (Kd.N_told (Kd.N_told (Kd.N_told (Kd.N_old (Kd.N_x HO207.out) hb) (Kd.R_base ho0)) (Kd.N_base ho1)) (Kd.R_base ho2)) (fun _ h_ => h_.1)); replace HO213 := Aside0.mk (Kd.R_below (Kd.R_x HO213.out) hb); replace HO226 := Aside0.mk (Kd.R_elder' (Kd.R_x HO226.out) (Kd.R_base ho0) hb); replace HO230 := Aside0.mk (Kd.N_mono (Kd.N_told (Kd.N_told (Kd.N_told (Kd.N_old (Kd.N_x HO230.out) hb) (Kd.R_base ho0)) (Kd.N_base ho1)) (Kd.R_base ho2)) (fun _ h_ => h_.1)); replace HO236 := Aside0.mk (Kd.R_below (Kd.R_x HO236.out) hb); replace HO240 := Aside0.mk (Kd.R_below (Kd.R_x HO240.out) hb); have HO254 := Aside0.mk (Kd.R_lower (Kd.R_new' (Kd.R_new' (Kd.R_mono (ok' := fun k_ => True) ho2 (fun _ hk_ => trivial)) (Kd.R_lt (Kd.R_x HO210.out))) (Kd.R_lt (Kd.R_x HO233.out))) (below_size (by exact below_y HB.out))); replace HO210 := Aside0.mk (Kd.R_elder' (Kd.R_x HO210.out) (Kd.R_base ho2) hb); replace HO233 := Aside0.mk (Kd.R_elder' (Kd.R_x HO233.out) (Kd.R_base ho2) hb); replace BK219 := bk_x BK219 hb; replace BK220 := bk_x BK220 hb; replace HB := bl_x HB hb; (try clear hb); (try clear hk); (try clear hi); (try clear ho0); (try clear ho1); (try clear ho2); obtain ⟨Ao43, co43, eo43⟩ := Kd.R_slice HO247.out; subst eo43; obtain ⟨Ao44, co44, eo44⟩ := Kd.N_slice HO251.out; subst eo44; obtain ⟨Ao45, co45, eo45⟩ := Kd.R_slice HO254.out; subst eo45) | (refine goesG_x 28 rfl (some 26) Try.func28 #[.agg #[.int .i64 t242, .int .i64 t243, .int .i64 t244, .slice Ao43 t245.length co43, .int .i64 t248, .slice Ao44 t249.length co44, .slice Ao45 t252.length co45]] ?_; (with_reducible refine (ship_Best.calls t242 t243 t244 _ _ t245 t248 _ _ t249 _ _ t252 t255 t258 t259 _ ?side1 ?side2 ?side3 ?side4 ?side5 ?side6 A6.out).mono ?_); (case side1 => exact Kd.C_y (Kd.R_reads' HO247.out).2.2); (case side2 => exact (Kd.R_reads' HO247.out).2.1); (case side3 => exact Kd.C_y (Kd.N_reads' HO251.out).2.2); (case side4 => exact (Kd.N_reads' HO251.out).2.1); (case side5 => exact Kd.C_y (Kd.R_reads' HO254.out).2.2); (case side6 => exact (Kd.R_reads' HO254.out).2.1); rintro e w46 ⟨v256, rfl, ho0, hb⟩; refine ⟨_, rfl, ?_⟩; replace HO203 := Aside0.mk (Kd.R_below (Kd.R_x HO203.out) hb); replace HO207 := Aside0.mk (Kd.N_elder' (Kd.N_x HO207.out) (Kd.R_base ho0) hb); replace HO210 := Aside0.mk (Kd.R_below (Kd.R_x HO210.out) hb); replace HO226 := Aside0.mk (Kd.R_below (Kd.R_x HO226.out) hb); replace HO230 := Aside0.mk (Kd.N_elder' (Kd.N_x HO230.out) (Kd.R_base ho0) hb); replace HO233 := Aside0.mk (Kd.R_below (Kd.R_x HO233.out) hb); replace HO240 := Aside0.mk (Kd.R_below (Kd.R_x HO240.out) hb); replace HO247 := Aside0.mk (Kd.R_below (Kd.R_x HO247.out) hb); replace HO251 := Aside0.mk (Kd.N_elder' (Kd.N_x HO251.out) (Kd.R_base ho0) hb); replace HO254 := Aside0.mk (Kd.R_below (Kd.R_x HO254.out) hb); have HO257 := Aside0.mk (Kd.R_lower (Kd.R_new' (Kd.R_new' ho0 (Kd.R_lt (Kd.R_x HO213.out))) (Kd.R_lt (Kd.R_x HO236.out))) (below_size (by exact below_y HB.out))); replace HO213 := Aside0.mk (Kd.R_elder' (Kd.R_x HO213.out) (Kd.R_base ho0) hb); replace HO236 := Aside0.mk (Kd.R_elder' (Kd.R_x HO236.out) (Kd.R_base ho0) hb); replace BK219 := bk_x BK219 hb; replace BK220 := bk_x BK220 hb; replace HB := bl_x HB hb; (try clear hb); (try clear hk); (try clear hi); (try clear ho0)))
         replace HO203 := Aside0.mk (Kd.R_drew HO203.out); replace HO207 := Aside0.mk (Kd.N_drew HO207.out); replace HO210 := Aside0.mk (Kd.R_drew HO210.out); replace HO213 := Aside0.mk (Kd.R_drew HO213.out); replace HO226 := Aside0.mk (Kd.R_drew HO226.out); replace HO230 := Aside0.mk (Kd.N_drew HO230.out); replace HO233 := Aside0.mk (Kd.R_drew HO233.out); replace HO236 := Aside0.mk (Kd.R_drew HO236.out); replace HO240 := Aside0.mk (Kd.R_drew HO240.out); replace HO247 := Aside0.mk (Kd.R_drew HO247.out); replace HO251 := Aside0.mk (Kd.N_drew HO251.out); replace HO254 := Aside0.mk (Kd.R_drew HO254.out); replace HO257 := Aside0.mk (Kd.R_drew HO257.out); replace BK219 := Aside0.mk (blk_drew BK219.out); replace BK220 := Aside0.mk (blk_drew BK220.out); replace HB := Aside0.mk (below_drew1 HB.out); refine start_ (n := 41) (S := fun w' => w'.cell? ⟨gb219, 0, none⟩ = some (.int .i64 t214) ∧ w'.cell? ⟨gb219, 1, none⟩ = some (.int .i64 t215) ∧ w'.cell? ⟨gb220, 0, none⟩ = some (.int .i64 t216) ∧ w'.cell? ⟨gb220, 1, none⟩ = some (.int .i64 t217)) (ds := []) #[false, false, false, false, false, false, false, false, false, false, false, false, false, false, false, false, false, false, false, false, false, false, false, false, false, false, false, false, false, false, false, false, false, false, false, false, false, false, false, false, false] (by kernel_rfl) rfl rfl ⟨(blk_cell BK219.out 0).trans rfl, (blk_cell BK219.out 1).trans rfl, (blk_cell BK220.out 0).trans rfl, (blk_cell BK220.out 1).trans rfl⟩ (fun hHeld => ?_); refine with_tabW swarflaw07_awake.tab4 swarflaw07_awake.bits4 (fun HT_ HW_ => ?_); generalize w46.drew = w47 at HO203 HO207 HO210 HO213 HO226 HO230 HO233 HO236 HO240 HO247 HO251 HO254 HO257 BK219 BK220 HB hHeld ⊢; refine pure_t 0 (some 30) (bz 41 1) HT_ ?_; refine pure_t 1 (some 31) (bz 41 3) HT_ ?_; refine pure_t 2 (some 32) (bz 41 7) HT_ ?_; refine pure_t 3 (some 33) (bz 41 15) HT_ ?_; refine pure_t 4 (some 34) (bz 41 31) HT_ ?_; refine pure_t 5 (some 35) (bz 41 63) HT_ ?_; refine pure_t 6 (some 36) (bz 41 127) HT_ ?_; refine pure_t 7 (some 37) (bz 41 255) HT_ ?_; refine pure_t 8 (some 38) (bz 41 511) HT_ ?_; refine pure_t 9 (some 39) (bz 41 1023) HT_ ?_; refine pure_t 10 (some 40) (bz 41 2047) HT_ ?_; refine take_t 11 (some 41) (bz 41 4095) HT_ HW_ hHeld ?_; (refine one_t 12 (some 42) (bz 41 8191) HT_ fun K hK => ?_); refine goes_x Try.func32 #[.int .i64 1290000, .int .i64 1340000] ?_
         with_reducible refine (swarflaw07_rng.calls 1290000 1340000 t260 t261 _ A10.out).mono ?_
         rintro e w48 ⟨rfl, hb⟩; refine ⟨_, rfl, ?_⟩; replace HO203 := Aside0.mk (Kd.R_below (Kd.R_x HO203.out) hb); replace HO207 := Aside0.mk (Kd.N_below (Kd.N_x HO207.out) hb); replace HO210 := Aside0.mk (Kd.R_below (Kd.R_x HO210.out) hb); replace HO213 := Aside0.mk (Kd.R_below (Kd.R_x HO213.out) hb); replace HO226 := Aside0.mk (Kd.R_below (Kd.R_x HO226.out) hb); replace HO230 := Aside0.mk (Kd.N_below (Kd.N_x HO230.out) hb); replace HO233 := Aside0.mk (Kd.R_below (Kd.R_x HO233.out) hb); replace HO236 := Aside0.mk (Kd.R_below (Kd.R_x HO236.out) hb); replace HO240 := Aside0.mk (Kd.R_below (Kd.R_x HO240.out) hb); replace HO247 := Aside0.mk (Kd.R_below (Kd.R_x HO247.out) hb); replace HO251 := Aside0.mk (Kd.N_below (Kd.N_x HO251.out) hb); replace HO254 := Aside0.mk (Kd.R_below (Kd.R_x HO254.out) hb); replace HO257 := Aside0.mk (Kd.R_below (Kd.R_x HO257.out) hb); replace BK219 := bk_x BK219 hb; replace BK220 := bk_x BK220 hb; replace HB := bl_x HB hb
         (try clear hb)
         (try clear hb2)
         (try clear hk)
         (try clear hi)
         refine hK.out _ _ ⟨(blk_cell BK219.out 0).trans rfl, (blk_cell BK219.out 1).trans rfl, (blk_cell BK220.out 0).trans rfl, (blk_cell BK220.out 1).trans rfl⟩ (fun hHeld => ?_); clear hK K; refine norm_y (some 42) ?_; refine pure_t 13 (some 43) (bz 41 16383) HT_ ?_; refine pure_t 14 (some 44) (bz 41 32767) HT_ ?_; refine pure_t 15 (some 45) (bz 41 65535) HT_ ?_; refine take_t 16 (some 46) (bz 41 131071) HT_ HW_ hHeld ?_; (refine one_t 17 (some 47) (bz 41 262143) HT_ fun K hK => ?_); refine goes_x Try.func32 #[.int .i64 1260000, .int .i64 1310000] ?_
         with_reducible refine (swarflaw07_rng.calls 1260000 1310000 t262 t263 _ A12.out).mono ?_
         rintro e w49 ⟨rfl, hb⟩; refine ⟨_, rfl, ?_⟩; replace HO203 := Aside0.mk (Kd.R_below (Kd.R_x HO203.out) hb); replace HO207 := Aside0.mk (Kd.N_below (Kd.N_x HO207.out) hb); replace HO210 := Aside0.mk (Kd.R_below (Kd.R_x HO210.out) hb); replace HO213 := Aside0.mk (Kd.R_below (Kd.R_x HO213.out) hb); replace HO226 := Aside0.mk (Kd.R_below (Kd.R_x HO226.out) hb); replace HO230 := Aside0.mk (Kd.N_below (Kd.N_x HO230.out) hb); replace HO233 := Aside0.mk (Kd.R_below (Kd.R_x HO233.out) hb); replace HO236 := Aside0.mk (Kd.R_below (Kd.R_x HO236.out) hb); replace HO240 := Aside0.mk (Kd.R_below (Kd.R_x HO240.out) hb); replace HO247 := Aside0.mk (Kd.R_below (Kd.R_x HO247.out) hb); replace HO251 := Aside0.mk (Kd.N_below (Kd.N_x HO251.out) hb); replace HO254 := Aside0.mk (Kd.R_below (Kd.R_x HO254.out) hb); replace HO257 := Aside0.mk (Kd.R_below (Kd.R_x HO257.out) hb); replace BK219 := bk_x BK219 hb; replace BK220 := bk_x BK220 hb; replace HB := bl_x HB hb
         (try clear hb)
         (try clear hb2)
         (try clear hk)
         (try clear hi)
         refine hK.out _ _ ⟨(blk_cell BK219.out 0).trans rfl, (blk_cell BK219.out 1).trans rfl, (blk_cell BK220.out 0).trans rfl, (blk_cell BK220.out 1).trans rfl⟩ (fun hHeld => ?_); clear hK K; refine norm_y (some 47) ?_; refine pure_t 18 (some 48) (bz 41 524287) HT_ ?_; refine pure_t 19 (some 49) (bz 41 1048575) HT_ ?_; refine pure_t 20 (some 50) (bz 41 2097151) HT_ ?_; refine pure_t 21 (some 51) (bz 41 4194303) HT_ ?_; refine pure_t 22 (some 52) (bz 41 8388607) HT_ ?_; refine pure_t 23 (some 53) (bz 41 16777215) HT_ ?_; refine pure_t 24 (some 54) (bz 41 33554431) HT_ ?_; refine pure_t 25 (some 55) (bz 41 67108863) HT_ ?_; refine pure_t 26 (some 56) (bz 41 134217727) HT_ ?_; refine pure_t 27 (some 57) (bz 41 268435455) HT_ ?_; refine pure_t 28 (some 58) (bz 41 536870911) HT_ ?_; refine pure_t 29 (some 59) (bz 41 1073741823) HT_ ?_; (refine one_t 30 (some 60) (bz 41 2147483647) HT_ fun K hK => ?_); refine Kd.R_lit_step (Kd.int .i64) _ 3 ?hg (N := 60) ?hd (xs := ([0, (-1), 1] : List Int)) (inner := [.int .i64 0, .int .i64 (-1), .int .i64 1]) (ok := fun _ => True) (okp := fun _ => True) ?hr ?hp (fun _ hk => hk) trivial (Below.refl _ _) (Nat.le_refl _) (by simp) ?_; (case hd => rfl); (case hg => rfl); (case hr => first | (go_simp; done) | (go_simp; rfl)); (case hp => exact (Reps.one (show Kd.M (Kd.int .i64) _ _ _ 0 [.int .i64 0] from rfl) (Reps.one (show Kd.M (Kd.int .i64) _ _ _ (-1) [.int .i64 (-1)] from rfl) (Reps.one (show Kd.M (Kd.int .i64) _ _ _ 1 [.int .i64 1] from rfl) (Reps.none _ _))))); intro v265 w50 ho51 hb hg_ hnew_; clear hg_ hnew_
         (first | rw [← Ny264.out] at ho51 | (simp only [Int.reduceToNat] at ho51; rw [← Ny264.out] at ho51))
         replace HO203 := Aside0.mk (Kd.R_below (Kd.R_x HO203.out) hb); replace HO207 := Aside0.mk (Kd.N_elder' (Kd.N_x HO207.out) (Kd.R_base ho51) hb); replace HO210 := Aside0.mk (Kd.R_below (Kd.R_x HO210.out) hb); replace HO226 := Aside0.mk (Kd.R_below (Kd.R_x HO226.out) hb); replace HO230 := Aside0.mk (Kd.N_elder' (Kd.N_x HO230.out) (Kd.R_base ho51) hb); replace HO233 := Aside0.mk (Kd.R_below (Kd.R_x HO233.out) hb); replace HO240 := Aside0.mk (Kd.R_below (Kd.R_x HO240.out) hb); replace HO247 := Aside0.mk (Kd.R_below (Kd.R_x HO247.out) hb); replace HO251 := Aside0.mk (Kd.N_elder' (Kd.N_x HO251.out) (Kd.R_base ho51) hb); replace HO254 := Aside0.mk (Kd.R_below (Kd.R_x HO254.out) hb); have HO266 := Aside0.mk (Kd.R_lower (Kd.R_new' (Kd.R_new' (Kd.R_new' ho51 (Kd.R_lt (Kd.R_x HO213.out))) (Kd.R_lt (Kd.R_x HO236.out))) (Kd.R_lt (Kd.R_x HO257.out))) (below_size (by exact below_y HB.out))); replace HO213 := Aside0.mk (Kd.R_elder' (Kd.R_x HO213.out) (Kd.R_base ho51) hb); replace HO236 := Aside0.mk (Kd.R_elder' (Kd.R_x HO236.out) (Kd.R_base ho51) hb); replace HO257 := Aside0.mk (Kd.R_elder' (Kd.R_x HO257.out) (Kd.R_base ho51) hb); replace BK219 := bk_x BK219 hb; replace BK220 := bk_x BK220 hb; replace HB := bl_x HB hb; clear hb ho51; obtain ⟨Ao52, co52, eo52⟩ := Kd.R_slice HO257.out
         (first | subst eo52 | (injection eo52 with f1_ f2_ f3_; have f4_ := f1_.symm; have f5_ := f3_.symm; clear f1_ f2_ f3_; subst f4_; subst f5_))
         obtain ⟨Ao53, co53, eo53⟩ := Kd.R_slice HO266.out
         (first | subst eo53 | (injection eo53 with f1_ f2_ f3_; have f4_ := f1_.symm; have f5_ := f3_.symm; clear f1_ f2_ f3_; subst f4_; subst f5_))
         refine hK.out _ _ ⟨(blk_cell BK219.out 0).trans rfl, (blk_cell BK219.out 1).trans rfl, (blk_cell BK220.out 0).trans rfl, (blk_cell BK220.out 1).trans rfl⟩ (fun hHeld => ?_); clear hK K; refine norm_y (some 60) ?_; (refine one_t 31 (some 61) (bz 41 4294967295) HT_ fun K hK => ?_); refine goes_x Try.func26 #[.slice Ao52 t255.length co52, .slice Ao53 y264.length co53] ?_
         with_reducible refine (swarfkit_EqualInts.calls k _ _ t255 _ _ y264 true _ ?side1 ?side2 ?side3 ?side4 A16.out).mono ?_
         (case side1 => exact Kd.C_y (Kd.R_reads' HO257.out).2.2)
         (case side2 => exact (Kd.R_reads' HO257.out).2.1)
         (case side3 => exact Kd.C_y (Kd.R_reads' HO266.out).2.2)
         (case side4 => exact (Kd.R_reads' HO266.out).2.1)
         rintro e w' ⟨rfl, ⟨nd, rfl⟩⟩; refine ⟨_, rfl, ?_⟩; refine hK.out _ _ ⟨(blk_cell BK219.out 0).trans rfl, (blk_cell BK219.out 1).trans rfl, (blk_cell BK220.out 0).trans rfl, (blk_cell BK220.out 1).trans rfl⟩ (fun hHeld => ?_); clear hK K; refine norm_y (some 61) ?_; refine pure_t 32 (some 62) (bz 41 8589934591) HT_ ?_; refine pure_t 33 (some 63) (bz 41 17179869183) HT_ ?_; refine pure_t 34 (some 64) (bz 41 34359738367) HT_ ?_; (refine one_t 35 (some 65) (bz 41 68719476735) HT_ fun K hK => ?_); refine goes_x Try.func32 #[.int .i64 90, .int .i64 100] ?_
         with_reducible refine (swarflaw07_rng.calls 90 100 t268 t269 _ A18.out).mono ?_
         rintro e w54 ⟨rfl, hb⟩; refine ⟨_, rfl, ?_⟩; replace HO203 := Aside0.mk (Kd.R_below (Kd.R_x HO203.out) hb); replace HO207 := Aside0.mk (Kd.N_below (Kd.N_x HO207.out) hb); replace HO210 := Aside0.mk (Kd.R_below (Kd.R_x HO210.out) hb); replace HO213 := Aside0.mk (Kd.R_below (Kd.R_x HO213.out) hb); replace HO226 := Aside0.mk (Kd.R_below (Kd.R_x HO226.out) hb); replace HO230 := Aside0.mk (Kd.N_below (Kd.N_x HO230.out) hb); replace HO233 := Aside0.mk (Kd.R_below (Kd.R_x HO233.out) hb); replace HO236 := Aside0.mk (Kd.R_below (Kd.R_x HO236.out) hb); replace HO240 := Aside0.mk (Kd.R_below (Kd.R_x HO240.out) hb); replace HO247 := Aside0.mk (Kd.R_below (Kd.R_x HO247.out) hb); replace HO251 := Aside0.mk (Kd.N_below (Kd.N_x HO251.out) hb); replace HO254 := Aside0.mk (Kd.R_below (Kd.R_x HO254.out) hb); replace HO257 := Aside0.mk (Kd.R_below (Kd.R_x HO257.out) hb); replace HO266 := Aside0.mk (Kd.R_below (Kd.R_x HO266.out) hb); replace BK219 := bk_x BK219 hb; replace BK220 := bk_x BK220 hb; replace HB := bl_x HB hb
         (try clear hb)
         (try clear hb2)
         (try clear hk)
         (try clear hi)
         refine hK.out _ _ ⟨(blk_cell BK219.out 0).trans rfl, (blk_cell BK219.out 1).trans rfl, (blk_cell BK220.out 0).trans rfl, (blk_cell BK220.out 1).trans rfl⟩ (fun hHeld => ?_); clear hK K; refine norm_y (some 65) ?_; (refine one_t 36 (some 66) (bz 41 137438953471) HT_ fun K hK => ?_); refine goes_x Try.func32 #[.int .i64 240, .int .i64 250] ?_
         with_reducible refine (swarflaw07_rng.calls 240 250 t270 t271 _ A19.out).mono ?_
         rintro e w55 ⟨rfl, hb⟩; refine ⟨_, rfl, ?_⟩; replace HO203 := Aside0.mk (Kd.R_below (Kd.R_x HO203.out) hb); replace HO207 := Aside0.mk (Kd.N_below (Kd.N_x HO207.out) hb); replace HO210 := Aside0.mk (Kd.R_below (Kd.R_x HO210.out) hb); replace HO213 := Aside0.mk (Kd.R_below (Kd.R_x HO213.out) hb); replace HO226 := Aside0.mk (Kd.R_below (Kd.R_x HO226.out) hb); replace HO230 := Aside0.mk (Kd.N_below (Kd.N_x HO230.out) hb); replace HO233 := Aside0.mk (Kd.R_below (Kd.R_x HO233.out) hb); replace HO236 := Aside0.mk (Kd.R_below (Kd.R_x HO236.out) hb); replace HO240 := Aside0.mk (Kd.R_below (Kd.R_x HO240.out) hb); replace HO247 := Aside0.mk (Kd.R_below (Kd.R_x HO247.out) hb); replace HO251 := Aside0.mk (Kd.N_below (Kd.N_x HO251.out) hb); replace HO254 := Aside0.mk (Kd.R_below (Kd.R_x HO254.out) hb); replace HO257 := Aside0.mk (Kd.R_below (Kd.R_x HO257.out) hb); replace HO266 := Aside0.mk (Kd.R_below (Kd.R_x HO266.out) hb); replace BK219 := bk_x BK219 hb; replace BK220 := bk_x BK220 hb; replace HB := bl_x HB hb
         (try clear hb)
         (try clear hb2)
         (try clear hk)
         (try clear hi)
         refine hK.out _ _ ⟨(blk_cell BK219.out 0).trans rfl, (blk_cell BK219.out 1).trans rfl, (blk_cell BK220.out 0).trans rfl, (blk_cell BK220.out 1).trans rfl⟩ (fun hHeld => ?_); clear hK K; refine norm_y (some 66) ?_; (refine one_t 37 (some 67) (bz 41 274877906943) HT_ fun K hK => ?_); refine Kd.R_lit_step k56 _ 56 ?hg (N := 67) ?hd (xs := ([(⟨t268, t269⟩ : S56), (⟨t270, t271⟩ : S56)] : List (S56))) (inner := [.int .i64 t268, .int .i64 t269, .int .i64 t270, .int .i64 t271]) (ok := fun _ => True) (okp := fun _ => True) ?hr ?hp (fun _ hk => hk) trivial (Below.refl _ _) (Nat.le_refl _) (by simp) ?_; (case hd => rfl); (case hg => rfl); (case hr => first | (go_simp; done) | (go_simp; rfl)); (case hp => exact (Reps.c2 (show Kd.M k56 _ _ _ (⟨t268, t269⟩ : S56) [.int .i64 t268, .int .i64 t269] from (k56_mkM _ _ _ (⟨t268, t269⟩ : S56) )) (Reps.c2 (show Kd.M k56 _ _ _ (⟨t270, t271⟩ : S56) [.int .i64 t270, .int .i64 t271] from (k56_mkM _ _ _ (⟨t270, t271⟩ : S56) )) (Reps.none _ _)))); intro v273 w56 ho57 hb hg_ hnew_; clear hg_ hnew_
         (first | rw [← Ny272.out] at ho57 | (simp only [Int.reduceToNat] at ho57; rw [← Ny272.out] at ho57))
         replace HO203 := Aside0.mk (Kd.R_below (Kd.R_x HO203.out) hb); replace HO207 := Aside0.mk (Kd.N_elder' (Kd.N_x HO207.out) (Kd.R_base ho57) hb); replace HO210 := Aside0.mk (Kd.R_below (Kd.R_x HO210.out) hb); replace HO213 := Aside0.mk (Kd.R_below (Kd.R_x HO213.out) hb); replace HO226 := Aside0.mk (Kd.R_below (Kd.R_x HO226.out) hb); replace HO230 := Aside0.mk (Kd.N_elder' (Kd.N_x HO230.out) (Kd.R_base ho57) hb); replace HO233 := Aside0.mk (Kd.R_below (Kd.R_x HO233.out) hb); replace HO236 := Aside0.mk (Kd.R_below (Kd.R_x HO236.out) hb); replace HO247 := Aside0.mk (Kd.R_below (Kd.R_x HO247.out) hb); replace HO251 := Aside0.mk (Kd.N_elder' (Kd.N_x HO251.out) (Kd.R_base ho57) hb); replace HO254 := Aside0.mk (Kd.R_below (Kd.R_x HO254.out) hb); replace HO257 := Aside0.mk (Kd.R_below (Kd.R_x HO257.out) hb); replace HO266 := Aside0.mk (Kd.R_below (Kd.R_x HO266.out) hb); have HO274 := Aside0.mk (Kd.R_lower (Kd.R_newB (Kd.R_newB (Kd.R_new' ho57 (Kd.R_lt (Kd.R_x HO240.out))) (g := gb219) (o := .cells #[.int .i64 t214, .int .i64 t215] 56 (0, 0)) (blk_x BK219.out)) (g := gb220) (o := .cells #[.int .i64 t216, .int .i64 t217] 56 (0, 0)) (blk_x BK220.out)) (below_size (by exact below_y HB.out))); replace HO240 := Aside0.mk (Kd.R_elder' (Kd.R_x HO240.out) (Kd.R_base ho57) hb); replace BK219 := bk_x BK219 hb; replace BK220 := bk_x BK220 hb; replace HB := bl_x HB hb; clear hb ho57; obtain ⟨Ao58, co58, eo58⟩ := Kd.R_slice HO240.out
         (first | subst eo58 | (injection eo58 with f1_ f2_ f3_; have f4_ := f1_.symm; have f5_ := f3_.symm; clear f1_ f2_ f3_; subst f4_; subst f5_))
         obtain ⟨Ao59, co59, eo59⟩ := Kd.R_slice HO274.out
         (first | subst eo59 | (injection eo59 with f1_ f2_ f3_; have f4_ := f1_.symm; have f5_ := f3_.symm; clear f1_ f2_ f3_; subst f4_; subst f5_))
         refine hK.out _ _ ⟨(blk_cell BK219.out 0).trans rfl, (blk_cell BK219.out 1).trans rfl, (blk_cell BK220.out 0).trans rfl, (blk_cell BK220.out 1).trans rfl⟩ (fun hHeld => ?_); clear hK K; refine norm_y (some 67) ?_; (refine one_t 38 (some 68) (bz 41 549755813887) HT_ fun K hK => ?_); refine goes_x Try.func24 #[.slice Ao58 t238.length co58, .slice Ao59 y272.length co59] ?_
         with_reducible refine (swarfkit_EqualRanges.calls k _ _ t238 _ _ y272 t275 _ ?side1 ?side2 ?side3 ?side4 A20.out).mono ?_
         (case side1 => exact Kd.C_y (Kd.R_reads' HO240.out).2.2)
         (case side2 => exact (Kd.R_reads' HO240.out).2.1)
         (case side3 => exact Kd.C_y (Kd.R_reads' HO274.out).2.2)
         (case side4 => exact (Kd.R_reads' HO274.out).2.1)
         rintro e w' ⟨rfl, ⟨nd, rfl⟩⟩; refine ⟨_, rfl, ?_⟩; refine hK.out _ _ ⟨(blk_cell BK219.out 0).trans rfl, (blk_cell BK219.out 1).trans rfl, (blk_cell BK220.out 0).trans rfl, (blk_cell BK220.out 1).trans rfl⟩ (fun hHeld => ?_); clear hK K; refine norm_y (some 68) ?_; refine pure_t 39 (some 69) (bz 41 1099511627775) HT_ ?_; refine pure_t 40 (some 0) (bz 41 2199023255551) HT_ ?_; refine done_ (done_of HT_.out (by kernel_rfl)) ?_
         try go_wp2
         go_ret; exact rt_y HB
        ·
         replace c17 := Bool.eq_false_iff.mpr c17; subst c17; replace H : (some false) = some r := ifn_x H; exact absurd ((Option.some.inj H).trans hrt.out) (by decide)
       ·
        rw [if_neg c15] at H; have c15b0 : (t258 == 95) = false := beq_eq_false_iff_ne.mpr c15; have c15b1 : (t258 != 95) = true := bne_iff_ne.mpr c15; exact absurd ((Option.some.inj H).trans hrt.out) (by decide)
      ·
       rw [if_neg c14] at H; have c14b0 : (t237 == 1) = false := beq_eq_false_iff_ne.mpr c14; have c14b1 : (t237 != 1) = true := bne_iff_ne.mpr c14; exact absurd ((Option.some.inj H).trans hrt.out) (by decide)
     ·
      rw [if_neg c13] at H; have c13b0 : (t216 == t262 && (t217 == t263)) = false := by simpa using c13
      (try (have c13b1 : decide (t216 = t262 && (t217 == t263)) = false := by simpa using c13))
      (try (have c13b2 : (t216 == t262 && (t217 == t263)) = false := by simpa using c13))
      (try (have c13b3 : ¬ (t216 = t262 && (t217 == t263)) := by simpa using c13))
      clear c13; exact absurd ((Option.some.inj H).trans hrt.out) (by decide)
    ·
     rw [if_neg c11] at H; have c11b0 : (t214 == t260 && (t215 == t261)) = false := by simpa using c11
     (try (have c11b1 : decide (t214 = t260 && (t215 == t261)) = false := by simpa using c11))
     (try (have c11b2 : (t214 == t260 && (t215 == t261)) = false := by simpa using c11))
     (try (have c11b3 : ¬ (t214 = t260 && (t215 == t261)) := by simpa using c11))
     clear c11; exact absurd ((Option.some.inj H).trans hrt.out) (by decide)
   ·
    rw [if_neg c9] at H; have c9b0 : (t259 == 0) = false := beq_eq_false_iff_ne.mpr c9; have c9b1 : (t259 != 0) = true := bne_iff_ne.mpr c9; exact absurd ((Option.some.inj H).trans hrt.out) (by decide)
  ·
   rw [if_neg c8] at H; have c8b0 : (t241 == 0) = false := beq_eq_false_iff_ne.mpr c8; have c8b1 : (t241 != 0) = true := bne_iff_ne.mpr c8; exact absurd ((Option.some.inj H).trans hrt.out) (by decide)
 ·
  rw [if_neg c7] at H; have c7b0 : (t218 == 0) = false := beq_eq_false_iff_ne.mpr c7; have c7b1 : (t218 != 0) = true := bne_iff_ne.mpr c7; exact absurd ((Option.some.inj H).trans hrt.out) (by decide)
end Go.Proofs.Ytodmemndaaiolaa.PC7
namespace Go.Proofs.Ytodmemndaaiolaa.PC7
set_option linter.unusedVariables false
set_option linter.unusedSimpArgs false
open Go.RowKit Go.Proofs.YtodmemndaaiolaaW.PrintWords Go.Proofs.YtodmemndaaiolaaW.PrintLast Go.Proofs.YtodmemndaaiolaaW.PrintMore
def turnH (h : S85) : S85 := ⟨h.f0, h.f2, h.f1⟩
def turnN (k : Nat) (l : List S85) : List S85 := (l.take k).map turnH ++ l.drop k
def turned12.T8 : Bool × List (List Nat × List Nat) := (true, [([], []), ([0], [0]), ([], []), ([], []), ([3], [3]), ([], []), ([], []), ([6], [6]), ([], []), ([7, 8], [7, 8]), ([9], [9]), ([10], [10]), ([], []), ([12], [12]), ([], []), ([13, 14], [13, 14]), ([15], [15]), ([16], [16]), ([1, 2, 0, 1, 2, 6, 7, 8, 9, 10, 11, 17], [1, 2]), ([18, 0, 1, 2, 6, 7, 8, 9, 10, 11, 17], [18]), ([19, 11, 0, 1, 2, 6, 7, 8, 9, 10, 11, 17], [11, 19]), ([4, 5, 0, 1, 2, 3, 4, 5, 6, 7, 8, 9, 10, 11, 12, 13, 14, 15, 16, 17, 18, 19, 20], [4, 5]), ([21, 0, 1, 2, 3, 4, 5, 6, 7, 8, 9, 10, 11, 12, 13, 14, 15, 16, 17, 18, 19, 20], [21]), ([22, 17, 20, 0, 1, 2, 3, 4, 5, 6, 7, 8, 9, 10, 11, 12, 13, 14, 15, 16, 17, 18, 19, 20], [17, 22])])
def turned12.B8 : List Nat := [0, 1, 0, 0, 8, 0, 0, 64, 0, 448, 960, 1984, 0, 4096, 0, 28672, 61440, 126976, 262087, 524231, 1048519, 2097151, 4194303, 8388607]
theorem turned12.tab8 : rtab .any (opsOf Try.f12 8) = turned12.T8 := by kernel_rfl
theorem turned12.bits8 : waitsOk turned12.T8.2 turned12.B8 = true := by kernel_rfl
def turned12.T17 : Bool × List (List Nat × List Nat) := (true, [([], []), ([0], [0]), ([1], [1]), ([2], [2]), ([3, 2], [2, 3]), ([2, 4], [2, 4]), ([5, 2], [5]), ([6], [6]), ([7, 6], [6, 7]), ([6, 8], [6, 8]), ([9, 6], [9]), ([10], [10]), ([11, 10], [10, 11]), ([10, 12], [10, 12]), ([13, 10], [13]), ([14], [14]), ([15, 14], [14, 15]), ([14, 16], [14, 16]), ([17, 14], [17]), ([18], [18]), ([19, 18], [18, 19]), ([18, 20], [18, 20]), ([21, 18], [21]), ([22], [22]), ([23, 22], [22, 23]), ([22, 24], [22, 24]), ([25, 22], [25]), ([26], [26]), ([27, 26], [26, 27]), ([26, 28], [26, 28]), ([29, 26], [29]), ([30], [30]), ([30], [30]), ([31, 32, 30], [30, 31, 32]), ([30, 33], [30, 33]), ([34, 30], [34]), ([35], [35]), ([35], [35]), ([36, 37, 35], [35, 36, 37]), ([35, 38], [35, 38]), ([39, 35], [39]), ([40], [40]), ([40], [40]), ([41, 42, 40], [40, 41, 42]), ([40, 43], [40, 43]), ([44, 40], [44]), ([45], [45]), ([45], [45]), ([47, 45], [45, 47]), ([48, 45], [45, 48]), ([45], [45]), ([50, 45], [45, 50]), ([51, 45], [45, 51]), ([49, 52, 45, 45], [45, 49, 52]), ([46, 53, 45], [45, 46, 53]), ([45, 54], [45, 54]), ([55, 53], [55]), ([56], [56]), ([56], [56]), ([57, 58, 56], [56, 57, 58]), ([56, 59], [56, 59]), ([60, 56], [60]), ([61], [61]), ([61], [61]), ([62, 63, 61], [61, 62, 63]), ([61, 64], [61, 64]), ([65, 61], [65]), ([66], [66]), ([66], [66]), ([67, 68, 66, 66], [66, 67, 68]), ([66, 69], [66, 69]), ([70, 69], [70]), ([71], [71]), ([71], [71]), ([72, 73, 71, 71], [71, 72, 73]), ([71, 74], [71, 74]), ([75, 74], [75]), ([76, 76], [76]), ([76, 77], [76, 77]), ([78, 77, 0, 1, 2, 3, 4, 5, 6, 7, 8, 9, 10, 11, 12, 13, 14, 15, 16, 17, 18, 19, 20, 21, 22, 23, 24, 25, 26, 27, 28, 29, 30, 31, 32, 33, 34, 35, 36, 37, 38, 39, 40, 41, 42, 43, 44, 45, 46, 47, 48, 49, 50, 51, 52, 53, 54, 55, 56, 57, 58, 59, 60, 61, 62, 63, 64, 65, 66, 67, 68, 69, 70, 71, 72, 73, 74, 75, 76, 77, 78], [78])])
def turned12.B17 : List Nat := [0, 1, 3, 7, 15, 31, 63, 127, 255, 511, 1023, 2047, 4095, 8191, 16383, 32767, 65535, 131071, 262143, 524287, 1048575, 2097151, 4194303, 8388607, 16777215, 33554431, 67108863, 134217727, 268435455, 536870911, 1073741823, 2147483647, 2147483647, 8589934591, 17179869183, 34359738367, 68719476735, 68719476735, 274877906943, 549755813887, 1099511627775, 2199023255551, 2199023255551, 8796093022207, 17592186044415, 35184372088831, 70368744177663, 70368744177663, 211106232532991, 492581209243647, 70368744177663, 1196268651020287, 3448068464705535, 8936830510563327, 18014398509481983, 36028797018963967, 72057594037927935, 144115188075855871, 144115188075855871, 576460752303423487, 1152921504606846975, 2305843009213693951, 4611686018427387903, 4611686018427387903, 18446744073709551615, 36893488147419103231, 73786976294838206463, 147573952589676412927, 147573952589676412927, 590295810358705651711, 1180591620717411303423, 2361183241434822606847, 4722366482869645213695, 4722366482869645213695, 18889465931478580854783, 37778931862957161709567, 75557863725914323419135, 151115727451828646838271, 302231454903657293676543, 604462909807314587353087]
theorem selfInts_l0 (l : List Int) (hl : l.length ≤ 1000000) (d : Nat) : ∀ i : Nat, i + d = l.length → Ev (fun k => swarfkit_EqualInts.l0 k l l true (i : Int)) true := by
  induction d with
  | zero =>
    intro i hi
    refine Ev.succ ?_
    simp (disch := omega) only [swarfkit_EqualInts.l0, if_true, if_neg]
    exact Ev.now _
  | succ d ih =>
    intro i hi
    refine Ev.succ ?_
    simp (disch := omega) only [swarfkit_EqualInts.l0, if_true, if_pos, beq_self_eq_true]
    rw [wrapS (by omega)]
    exact ih (i + 1) (by omega)
theorem selfInts_ev (l : List Int) (hl : l.length ≤ 1000000) : Ev (fun k => swarfkit_EqualInts.f k l l) true := by
  unfold swarfkit_EqualInts.f
  rw [beq_self_eq_true]
  exact selfInts_l0 l hl l.length 0 (by omega)
def swapQ (q : Q4) : Q4 := ⟨q.b1, q.b0, q.h1, q.h0⟩
end Go.Proofs.Ytodmemndaaiolaa.PC7
namespace Go.Proofs.YtodmemndaaiolaaW.PrintWords
open Go.ChangeShapes Go.WideShapes
theorem sized_ints {H : Type} {enc : TypeId × Value → H} {P : Program} {W : World} {base : Nat} {spare : Nat → Bool} {held : Bool} {t e : TypeId} {k : IntKind} {a : Option Addr} {len cap : Nat} {d : DataW H} {ps : List MemPlace} {ts : List TypeId} {ds : List (DataW H)} {j : Nat}
    (hsz : (DataW.weightsEach P ts ds).all (· ≤ reachBytes) = true) (ht : ts[j]? = some t) (hd : ds[j]? = some d) (hu : P.underlying t = some (.slice e)) (he : P.underlying e = some (.int k)) (hc : P.cellsOf e = 1) {B : Nat} (hB : P.bytesOf e = B)
    (h : DataW.Trod enc P W base spare held t (.slice a len cap) d ps) : len * B ≤ 140737488351232 := by
  obtain ⟨fuel, hf⟩ := h
  rcases open_ints hu he hc hf with ⟨hcs, _⟩ | ⟨x, l, c, zs, hcs, _, hl, _, hz, hx, _, _⟩
  · simp [Value.cells] at hcs
    obtain ⟨rfl, rfl, rfl⟩ := hcs
    simp
  · simp [Value.cells] at hcs
    obtain ⟨rfl, rfl, rfl⟩ := hcs
    obtain ⟨hx, _⟩ := Prod.mk.inj hx
    subst hx
    have z := sized_slice hsz ht hd hu
    rw [hB] at z
    have hl2 : len ≤ zs.length := by
      rw [hz]
      split
      · exact hl
      · exact Nat.le_refl _
    have h1 : (lits (H := H) k (zs.take len)).length + (lits (H := H) k (zs.drop len)).length = zs.length := by
      simp [lits]
      omega
    rw [h1] at z
    exact Nat.le_trans (Nat.mul_le_mul_right _ hl2) z
end Go.Proofs.YtodmemndaaiolaaW.PrintWords
