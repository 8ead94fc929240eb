/- lots left behind -/
import Derived.Test.YtodmemndaaiolaaCShipLighter1
import Derived.Test.YtodmemndaaiolaaCShipLighter2
import Derived.Test.YtodmemndaaiolaaCShipLighter3
import Derived.Test.YtodmemndaaiolaaCShipLighter4
import Derived.SizedLaws
import Derived.ChangeSlices
import Derived.Test.YtodmemndaaiolaaRows
import Derived.WalkKit
import Derived.ProofKit
import Derived.OpenShut
import Derived.ShutString
import Derived.ChangeOld
import Derived.Below
namespace Go.Proofs.Ytodmemndaaiolaa.PC7
open Go.RowKit Go.Proofs.YtodmemndaaiolaaW.PrintWords Go.Proofs.YtodmemndaaiolaaW.PrintLast Go.Proofs.YtodmemndaaiolaaW.PrintMore
attribute [local go_sem] max2_int min2_int max_two min_two max_three min_three max_four min_four
set_option linter.unusedVariables false
set_option linter.unusedSimpArgs false
attribute [local go_sem high] eqA56
set_option maxHeartbeats 8000000 in
set_option maxRecDepth 100000 in
theorem swarflaw07_awake.calls (k : Nat)  (r : Bool) (w : World) (h : swarflaw07_awake.f k  = some r) :
  Calls Try.prog 15 #[] w fun e w' => e = .returned (.bool r) ∧ Below w.heap.size w w' := by
 have hrt := Aside0.mk (awake_true h)
 have hu56 := Try.underlying56
 have HB := Aside0.mk (Below.refl w.heap.size w)
 have H : ((swarflaw07_voyage.f).bind fun bt198 => ((ship_Drafts.f bt198.1 bt198.2.1 bt198.2.2.1 bt198.2.2.2.1 bt198.2.2.2.2.1 bt198.2.2.2.2.2.1 bt198.2.2.2.2.2.2 (([0, 1, (-1)] : List Int))).bind fun bt214 => ((swarflaw07_voyage.f).bind fun bt221 => ((ship_Sail.f bt221.1 bt221.2.1 bt221.2.2.1 bt221.2.2.2.1 bt221.2.2.2.2.1 bt221.2.2.2.2.2.1 bt221.2.2.2.2.2.2 (([0, 1, (-1)] : List Int))).bind fun bt237 => ((swarflaw07_voyage.f).bind fun bt242 => ((ship_Best.f bt242.1 bt242.2.1 bt242.2.2.1 bt242.2.2.2.1 bt242.2.2.2.2.1 bt242.2.2.2.2.2.1 bt242.2.2.2.2.2.2).bind fun bt255 => (if bt214.2.2.2.2 = 0 then (if bt237.2.2 = 0 then (if bt255.2.2 = 0 then ((swarflaw07_rng.f 1290000 1340000).bind fun bt260 => (if (bt214.1 == bt260.1 && (bt214.2.1 == bt260.2)) = true then ((swarflaw07_rng.f 1260000 1310000).bind fun bt262 => (if (bt214.2.2.1 == bt262.1 && (bt214.2.2.2.1 == bt262.2)) = true then (if bt237.1 = 1 then (if bt255.2.1 = 95 then ((swarfkit_EqualInts.f k bt255.1 (([0, (-1), 1] : List Int))).bind fun t267 => (if t267 = true then ((swarflaw07_rng.f 90 100).bind fun bt268 => ((swarflaw07_rng.f 240 250).bind fun bt270 => ((swarfkit_EqualRanges.f k bt237.2.1 (([(⟨bt268.1, bt268.2⟩ : S56), (⟨bt270.1, bt270.2⟩ : S56)] : List (S56)))).bind fun t275 => (some t275)))) else (some false))) else (some false)) else (some false)) else (some false))) else (some false))) else (some false)) else (some false)) else (some false)))))))) = some r := h
 clear h
 replace H := Option.bind_eq_some_iff.mp H
 obtain ⟨⟨t198, t199, t200, t201, t204, t205, t208⟩, A10, H⟩ := H
 try dsimp only at H
 have A1 := Aside0.mk A10
 clear A10
 obtain ⟨y211, hy211⟩ : ∃ y_ : List Int, y_ = (([0, 1, (-1)] : List Int)) := ⟨_, rfl⟩
 replace H : ((ship_Drafts.f t198 t199 t200 t201 t204 t205 t208 y211).bind fun bt214 => ((swarflaw07_voyage.f).bind fun bt221 => ((ship_Sail.f bt221.1 bt221.2.1 bt221.2.2.1 bt221.2.2.2.1 bt221.2.2.2.2.1 bt221.2.2.2.2.2.1 bt221.2.2.2.2.2.2 (([0, 1, (-1)] : List Int))).bind fun bt237 => ((swarflaw07_voyage.f).bind fun bt242 => ((ship_Best.f bt242.1 bt242.2.1 bt242.2.2.1 bt242.2.2.2.1 bt242.2.2.2.2.1 bt242.2.2.2.2.2.1 bt242.2.2.2.2.2.2).bind fun bt255 => (if bt214.2.2.2.2 = 0 then (if bt237.2.2 = 0 then (if bt255.2.2 = 0 then ((swarflaw07_rng.f 1290000 1340000).bind fun bt260 => (if (bt214.1 == bt260.1 && (bt214.2.1 == bt260.2)) = true then ((swarflaw07_rng.f 1260000 1310000).bind fun bt262 => (if (bt214.2.2.1 == bt262.1 && (bt214.2.2.2.1 == bt262.2)) = true then (if bt237.1 = 1 then (if bt255.2.1 = 95 then ((swarfkit_EqualInts.f k bt255.1 (([0, (-1), 1] : List Int))).bind fun t267 => (if t267 = true then ((swarflaw07_rng.f 90 100).bind fun bt268 => ((swarflaw07_rng.f 240 250).bind fun bt270 => ((swarfkit_EqualRanges.f k bt237.2.1 (([(⟨bt268.1, bt268.2⟩ : S56), (⟨bt270.1, bt270.2⟩ : S56)] : List (S56)))).bind fun t275 => (some t275)))) else (some false))) else (some false)) else (some false)) else (some false))) else (some false))) else (some false)) else (some false)) else (some false))))))) = some r := by first | (rw [hy211]; with_reducible exact H) | (have H2_ := (Option.bind_some _ _).symm.trans H; rw [hy211]; with_reducible exact H2_) | (have H2_ := (Option.bind_some _ _).symm.trans H; with_reducible exact H2_) | with_reducible exact H | (rw [hy211]; exact H) | exact H
 have Ny211 := Aside0.mk hy211
 clear hy211
 replace H := Option.bind_eq_some_iff.mp H
 obtain ⟨⟨t214, t215, t216, t217, t218⟩, A20, H⟩ := H
 try dsimp only at H
 have A2 := Aside0.mk A20
 clear A20
 replace H := Option.bind_eq_some_iff.mp H
 obtain ⟨⟨t221, t222, t223, t224, t227, t228, t231⟩, A30, H⟩ := H
 try dsimp only at H
 have A3 := Aside0.mk A30
 clear A30
 obtain ⟨y234, hy234⟩ : ∃ y_ : List Int, y_ = (([0, 1, (-1)] : List Int)) := ⟨_, rfl⟩
 replace H : ((ship_Sail.f t221 t222 t223 t224 t227 t228 t231 y234).bind fun bt237 => ((swarflaw07_voyage.f).bind fun bt242 => ((ship_Best.f bt242.1 bt242.2.1 bt242.2.2.1 bt242.2.2.2.1 bt242.2.2.2.2.1 bt242.2.2.2.2.2.1 bt242.2.2.2.2.2.2).bind fun bt255 => (if t218 = 0 then (if bt237.2.2 = 0 then (if bt255.2.2 = 0 then ((swarflaw07_rng.f 1290000 1340000).bind fun bt260 => (if (t214 == bt260.1 && (t215 == bt260.2)) = true then ((swarflaw07_rng.f 1260000 1310000).bind fun bt262 => (if (t216 == bt262.1 && (t217 == bt262.2)) = true then (if bt237.1 = 1 then (if bt255.2.1 = 95 then ((swarfkit_EqualInts.f k bt255.1 (([0, (-1), 1] : List Int))).bind fun t267 => (if t267 = true then ((swarflaw07_rng.f 90 100).bind fun bt268 => ((swarflaw07_rng.f 240 250).bind fun bt270 => ((swarfkit_EqualRanges.f k bt237.2.1 (([(⟨bt268.1, bt268.2⟩ : S56), (⟨bt270.1, bt270.2⟩ : S56)] : List (S56)))).bind fun t275 => (some t275)))) else (some false))) else (some false)) else (some false)) else (some false))) else (some false))) else (some false)) else (some false)) else (some false))))) = some r := by first | (rw [hy234]; with_reducible exact H) | (have H2_ := (Option.bind_some _ _).symm.trans H; rw [hy234]; with_reducible exact H2_) | (have H2_ := (Option.bind_some _ _).symm.trans H; with_reducible exact H2_) | with_reducible exact H | (rw [hy234]; exact H) | exact H
 have Ny234 := Aside0.mk hy234
 clear hy234
 replace H := Option.bind_eq_some_iff.mp H
 obtain ⟨⟨t237, t238, t241⟩, A40, H⟩ := H
 try dsimp only at H
 have A4 := Aside0.mk A40
 clear A40
 replace H := Option.bind_eq_some_iff.mp H
 obtain ⟨⟨t242, t243, t244, t245, t248, t249, t252⟩, A50, H⟩ := H
 try dsimp only at H
 have A5 := Aside0.mk A50
 clear A50
 replace H := Option.bind_eq_some_iff.mp H
 obtain ⟨⟨t255, t258, t259⟩, A60, H⟩ := H
 try dsimp only at H
 have A6 := Aside0.mk A60
 clear A60
 by_cases c7 : t218 = 0
 ·
  rw [if_pos c7] at H
  have c7b0 : (t218 == 0) = true := beq_iff_eq.mpr c7
  have c7b1 : (t218 != 0) = false := bne_eq_false_iff_eq.mpr c7
  clear c7
  by_cases c8 : t241 = 0
  ·
   rw [if_pos c8] at H
   have c8b0 : (t241 == 0) = true := beq_iff_eq.mpr c8
   have c8b1 : (t241 != 0) = false := bne_eq_false_iff_eq.mpr c8
   clear c8
   by_cases c9 : t259 = 0
   ·
    rw [if_pos c9] at H
    have c9b0 : (t259 == 0) = true := beq_iff_eq.mpr c9
    have c9b1 : (t259 != 0) = false := bne_eq_false_iff_eq.mpr c9
    clear c9
    replace H := Option.bind_eq_some_iff.mp H
    obtain ⟨⟨t260, t261⟩, A100, H⟩ := H
    try dsimp only at H
    have A10 := Aside0.mk A100
    clear A100
    by_cases c11 : (t214 == t260 && (t215 == t261)) = true
    ·
     rw [if_pos c11] at H
     have c11b0 : (t214 == t260 && (t215 == t261)) = true := c11
     (try (have c11b1 : decide (t214 = t260 && (t215 == t261)) = true := by simpa using c11))
     (try (have c11b2 : (t214 == t260 && (t215 == t261)) = true := by simpa using c11))
     clear c11
     replace H := Option.bind_eq_some_iff.mp H
     obtain ⟨⟨t262, t263⟩, A120, H⟩ := H
     try dsimp only at H
     have A12 := Aside0.mk A120
     clear A120
     by_cases c13 : (t216 == t262 && (t217 == t263)) = true
     ·
      rw [if_pos c13] at H
      have c13b0 : (t216 == t262 && (t217 == t263)) = true := c13
      (try (have c13b1 : decide (t216 = t262 && (t217 == t263)) = true := by simpa using c13))
      (try (have c13b2 : (t216 == t262 && (t217 == t263)) = true := by simpa using c13))
      clear c13
      by_cases c14 : t237 = 1
      ·
       rw [if_pos c14] at H
       have c14b0 : (t237 == 1) = true := beq_iff_eq.mpr c14
       have c14b1 : (t237 != 1) = false := bne_eq_false_iff_eq.mpr c14
       clear c14
       by_cases c15 : t258 = 95
       ·
        rw [if_pos c15] at H
        have c15b0 : (t258 == 95) = true := beq_iff_eq.mpr c15
        have c15b1 : (t258 != 95) = false := bne_eq_false_iff_eq.mpr c15
        clear c15
        obtain ⟨y264, hy264⟩ : ∃ y_ : List Int, y_ = (([0, (-1), 1] : List Int)) := ⟨_, rfl⟩
        replace H : ((swarfkit_EqualInts.f k t255 y264).bind fun t267 => (if t267 = true then ((swarflaw07_rng.f 90 100).bind fun bt268 => ((swarflaw07_rng.f 240 250).bind fun bt270 => ((swarfkit_EqualRanges.f k t238 (([(⟨bt268.1, bt268.2⟩ : S56), (⟨bt270.1, bt270.2⟩ : S56)] : List (S56)))).bind fun t275 => (some t275)))) else (some false))) = some r := by first | (rw [hy264]; with_reducible exact H) | (have H2_ := (Option.bind_some _ _).symm.trans H; rw [hy264]; with_reducible exact H2_) | (have H2_ := (Option.bind_some _ _).symm.trans H; with_reducible exact H2_) | with_reducible exact H | (rw [hy264]; exact H) | exact H
        have Ny264 := Aside0.mk hy264
        clear hy264
        replace H := Option.bind_eq_some_iff.mp H
        obtain ⟨t267, A160, H⟩ := H
        try dsimp only at H
        have A16 := Aside0.mk A160
        clear A160
        by_cases c17 : t267 = true
        ·
         subst c17
         have H1 : ((swarflaw07_rng.f 90 100).bind fun bt268 => ((swarflaw07_rng.f 240 250).bind fun bt270 => ((swarfkit_EqualRanges.f k t238 (([(⟨bt268.1, bt268.2⟩ : S56), (⟨bt270.1, bt270.2⟩ : S56)] : List (S56)))).bind fun t275 => (some t275)))) = some r := by rw [if_pos rfl] at H; exact H
         clear H
         have H := H1
         clear H1
         replace H := Option.bind_eq_some_iff.mp H
         obtain ⟨⟨t268, t269⟩, A180, H⟩ := H
         try dsimp only at H
         have A18 := Aside0.mk A180
         clear A180
         replace H := Option.bind_eq_some_iff.mp H
         obtain ⟨⟨t270, t271⟩, A190, H⟩ := H
         try dsimp only at H
         have A19 := Aside0.mk A190
         clear A190
         obtain ⟨y272, hy272⟩ : ∃ y_ : List (S56), y_ = (([(⟨t268, t269⟩ : S56), (⟨t270, t271⟩ : S56)] : List (S56))) := ⟨_, rfl⟩
         replace H : ((swarfkit_EqualRanges.f k t238 y272).bind fun t275 => (some t275)) = some r := by first | (rw [hy272]; with_reducible exact H) | (have H2_ := (Option.bind_some _ _).symm.trans H; rw [hy272]; with_reducible exact H2_) | (have H2_ := (Option.bind_some _ _).symm.trans H; with_reducible exact H2_) | with_reducible exact H | (rw [hy272]; exact H) | exact H
         have Ny272 := Aside0.mk hy272
         clear hy272
         replace H := Option.bind_eq_some_iff.mp H
         obtain ⟨t275, A200, H⟩ := H
         replace H : (some t275) = some r := H
         have A20 := Aside0.mk A200
         clear A200
         obtain rfl := Option.some.inj H
         go_enter Try.func15, Try.ntmps15
         try go_wp2_with (first | ((with_reducible refine gate_callee (f := 52) rfl ?_); refine goesL_ (some 11) rfl rfl Try.func52 (by kernel_rfl) rfl #[] rfl (by (try simp only [List.map_toArray, List.map_cons, List.map_nil]); first | done | rfl | (simp only [List.length_drop, List.length_take]; rfl)) ?_; (with_reducible refine (swarflaw07_voyage.calls  t198 t199 t200 t201 t204 t205 t208 _ A1.out).mono ?_); rintro e w21 ⟨v202, v206, v209, rfl, ho0, ho1, ho2, hb⟩; refine ⟨_, rfl, ?_⟩; have HO203 := Aside0.mk (Kd.R_lower (Kd.R_mono (ok' := fun k_ => True) ho0 (fun _ hk_ => trivial)) (below_size (below_x HB.out))); have HO207 := Aside0.mk (Kd.N_lower (Kd.N_mono (ok' := fun k_ => some k_ ≠ (v202 : Value).ownBlock ∧ some k_ ≠ (v209 : Value).ownBlock) ho1 (fun k_ hk_ => ⟨hk_.2.1, hk_.2.2⟩)) (below_size (below_x HB.out))); have HO210 := Aside0.mk (Kd.R_lower (Kd.R_mono (ok' := fun k_ => True) ho2 (fun _ hk_ => trivial)) (below_size (below_x HB.out))); replace HB := Aside0.mk (below_step (below_x HB.out) hb); (try clear hb); (try clear hk); (try clear hi); (try clear ho0); (try clear ho1); (try clear ho2)) | ((with_reducible refine gate_dst (N := 12) rfl ?_); (try (refine gate_guard (by rfl) ?_; dsimp only)); refine Kd.R_lit (Kd.int .i64) _ 3 ?hg (N := 12) ?hd (xs := ([0, 1, (-1)] : List Int)) (inner := [.int .i64 0, .int .i64 1, .int .i64 (-1)]) (ok := fun _ => True) (okp := fun _ => True) ?hr ?hp (fun _ hk => hk) trivial (Below.refl _ _) (Nat.le_refl _) (by simp) ?_; (case hd => rfl); (case hg => rfl); (case hr => first | (go_simp; done) | (go_simp; rfl)); (case hp => exact (Reps.one (show Kd.M (Kd.int .i64) _ _ _ 0 [.int .i64 0] from rfl) (Reps.one (show Kd.M (Kd.int .i64) _ _ _ 1 [.int .i64 1] from rfl) (Reps.one (show Kd.M (Kd.int .i64) _ _ _ (-1) [.int .i64 (-1)] from rfl) (Reps.none _ _))))); intro v212 w22 ho23 hb hg_ hnew_; clear hg_ hnew_; (first | rw [← Ny211.out] at ho23 | (simp only [Int.reduceToNat] at ho23; rw [← Ny211.out] at ho23)); replace HO203 := Aside0.mk (Kd.R_below (Kd.R_x HO203.out) hb); replace HO207 := Aside0.mk (Kd.N_elder' (Kd.N_x HO207.out) (Kd.R_base ho23) hb); replace HO210 := Aside0.mk (Kd.R_below (Kd.R_x HO210.out) hb); have HO213 := Aside0.mk (Kd.R_lower ho23 (below_size (below_x HB.out))); replace HB := Aside0.mk (below_step (below_x HB.out) hb); clear hb ho23; obtain ⟨Ao24, co24, eo24⟩ := Kd.R_slice HO203.out; subst eo24; obtain ⟨Ao25, co25, eo25⟩ := Kd.N_slice HO207.out; subst eo25; obtain ⟨Ao26, co26, eo26⟩ := Kd.R_slice HO210.out; subst eo26; obtain ⟨Ao27, co27, eo27⟩ := Kd.R_slice HO213.out; subst eo27) | ((with_reducible refine gate_callee (f := 35) rfl ?_); refine goesL_ (some 13) rfl rfl Try.func35 (by kernel_rfl) rfl #[.agg #[.int .i64 t198, .int .i64 t199, .int .i64 t200, .slice Ao24 t201.length co24, .int .i64 t204, .slice Ao25 t205.length co25, .slice Ao26 t208.length co26], .slice Ao27 y211.length co27] rfl (by (try simp only [List.map_toArray, List.map_cons, List.map_nil]); first | done | rfl | (simp only [List.length_drop, List.length_take]; rfl)) ?_; (with_reducible refine (ship_Drafts.calls t198 t199 t200 _ _ t201 t204 _ _ t205 _ _ t208 _ _ y211 t214 t215 t216 t217 t218 _ ?side1 ?side2 ?side3 ?side4 ?side5 ?side6 ?side7 ?side8 A2.out).mono ?_); (case side1 => exact Kd.C_y (Kd.R_reads' HO203.out).2.2); (case side2 => exact (Kd.R_reads' HO203.out).2.1); (case side3 => exact Kd.C_y (Kd.N_reads' HO207.out).2.2); (case side4 => exact (Kd.N_reads' HO207.out).2.1); (case side5 => exact Kd.C_y (Kd.R_reads' HO210.out).2.2); (case side6 => exact (Kd.R_reads' HO210.out).2.1); (case side7 => exact Kd.C_y (Kd.R_reads' HO213.out).2.2); (case side8 => exact (Kd.R_reads' HO213.out).2.1); rintro e w28 ⟨rfl, hb⟩; refine ⟨_, rfl, ?_⟩; replace HO203 := Aside0.mk (Kd.R_below (Kd.R_x HO203.out) hb); replace HO207 := Aside0.mk (Kd.N_below (Kd.N_x HO207.out) hb); replace HO210 := Aside0.mk (Kd.R_below (Kd.R_x HO210.out) hb); replace HO213 := Aside0.mk (Kd.R_below (Kd.R_x HO213.out) hb); replace HB := Aside0.mk (below_step (below_x HB.out) hb); (try clear hb); (try clear hk); (try clear hi)) | ((with_reducible refine gate_dst (N := 1) rfl ?_); (try (refine gate_guard (by rfl) ?_; dsimp only)); refine box_event ?hg (N := 1) ?hd (cs := #[.int .i64 0, .int .i64 0]) (t := 56) ?hr ?_; (case hd => rfl); (case hg => rfl); (case hr => first | (go_simp; done) | (go_simp; rfl)); intro gb219 hg w29 hbox hb; replace HO203 := Aside0.mk (Kd.R_below (Kd.R_x HO203.out) hb); replace HO207 := Aside0.mk (Kd.N_below (Kd.N_elderB (Kd.N_x HO207.out) gb219 (Nat.le_of_eq hg.symm)) hb); replace HO210 := Aside0.mk (Kd.R_below (Kd.R_x HO210.out) hb); replace HO213 := Aside0.mk (Kd.R_below (Kd.R_x HO213.out) hb); have BK219 := Aside0.mk (hbox); have GW219 := Aside0.mk ((by rw [hg]; exact (below_size (below_x HB.out)) : w.heap.size ≤ gb219)); have GE219 := Aside0.mk ((by rw [hg]; exact (below_size (below_x HB.out)) : w.heap.size ≤ gb219)); replace HB := Aside0.mk (below_step (below_x HB.out) hb); clear hb hbox hg) | ((with_reducible refine gate_dst (N := 2) rfl ?_); (try (refine gate_guard (by rfl) ?_; dsimp only)); refine box_event ?hg (N := 2) ?hd (cs := #[.int .i64 0, .int .i64 0]) (t := 56) ?hr ?_; (case hd => rfl); (case hg => rfl); (case hr => first | (go_simp; done) | (go_simp; rfl)); intro gb220 hg w30 hbox hb; replace HO203 := Aside0.mk (Kd.R_below (Kd.R_x HO203.out) hb); replace HO207 := Aside0.mk (Kd.N_below (Kd.N_elderB (Kd.N_x HO207.out) gb220 (Nat.le_of_eq hg.symm)) hb); replace HO210 := Aside0.mk (Kd.R_below (Kd.R_x HO210.out) hb); replace HO213 := Aside0.mk (Kd.R_below (Kd.R_x HO213.out) hb); have BK220 := Aside0.mk (hbox); have GW220 := Aside0.mk ((by rw [hg]; exact (below_size (by exact below_y HB.out)) : w.heap.size ≤ gb220)); have GE220 := Aside0.mk ((by rw [hg]; exact (below_size (by exact below_y HB.out)) : w.heap.size ≤ gb220)); replace HB := bl_x HB hb; have NB219_220 := Aside0.mk ((by rw [hg]; exact Nat.ne_of_lt (blk_lt (g := gb219) (o := .cells #[.int .i64 0, .int .i64 0] 56 (0, 0)) (blk_x BK219.out)) : gb219 ≠ gb220)); have NB220_219 := Aside0.mk ((by rw [hg]; exact Nat.ne_of_gt (blk_lt (g := gb219) (o := .cells #[.int .i64 0, .int .i64 0] 56 (0, 0)) (blk_x BK219.out)) : gb220 ≠ gb219)); replace BK219 := Aside0.mk (blk_below (blk_x BK219.out) hb); clear hb hbox hg; have hnb31 := NB219_220.out; have hnc31 := NB220_219.out; obtain ⟨_, _⟩ := cz2 BK219; have hfz32_0 := blk_frozen BK219.out; obtain ⟨_, _⟩ := cz2 BK220; have hfz33_0 := blk_frozen BK220.out) | ((with_reducible refine gate_callee (f := 52) rfl ?_); refine goesL_ (some 18) rfl rfl Try.func52 (by kernel_rfl) rfl #[] rfl (by (try simp only [List.map_toArray, List.map_cons, List.map_nil]); first | done | rfl | (simp only [List.length_drop, List.length_take]; rfl)) ?_; (with_reducible refine (swarflaw07_voyage.calls  t221 t222 t223 t224 t227 t228 t231 _ A3.out).mono ?_); rintro e w34 ⟨v225, v229, v232, rfl, ho0, ho1, ho2, hb⟩; refine ⟨_, rfl, ?_⟩; have HO226 := Aside0.mk (Kd.R_lower (Kd.R_new' (Kd.R_mono (ok' := fun k_ => True) ho0 (fun _ hk_ => trivial)) (Kd.R_lt (by (with_reducible repeat (first | apply Kd.R_alloc | apply Kd.R_drewN | apply Kd.R_drew)); exact (Kd.R_mono (Kd.R_mono (Kd.R_far (p := ⟨gb220, 1, none⟩) (Kd.R_far (p := ⟨gb220, 0, none⟩) (Kd.R_far (p := ⟨gb219, 1, none⟩) (Kd.R_far (p := ⟨gb219, 0, none⟩) (Kd.R_types (Kd.R_types HO203.out BK219.out (by decide)) BK220.out (by decide)) (fun _ hk => hk.1.2) (.int .i64 t214)) (fun _ hk => hk.1.2) (.int .i64 t215)) (fun _ hk => hk.2) (.int .i64 t216)) (fun _ hk => hk.2) (.int .i64 t217)) (fun _ h_ => h_.1)) (fun _ h_ => h_.1))))) (below_size (by exact below_y HB.out))); have HO230 := Aside0.mk (Kd.N_lower (Kd.N_mono (ok' := fun k_ => some k_ ≠ (v225 : Value).ownBlock ∧ some k_ ≠ (v232 : Value).ownBlock ∧ some k_ ≠ (.slice Ao24 t201.length co24 : Value).ownBlock ∧ some k_ ≠ (.slice Ao25 t205.length co25 : Value).ownBlock ∧ some k_ ≠ (.slice Ao26 t208.length co26 : Value).ownBlock ∧ some k_ ≠ (.slice Ao27 y211.length co27 : Value).ownBlock ∧ k_ ≠ gb219 ∧ k_ ≠ gb220) ho1 (fun k_ hk_ => ⟨hk_.2.1, hk_.2.2, (Kd.fresh' (Kd.R_lt (by (with_reducible repeat (first | apply Kd.R_alloc | apply Kd.R_drewN | apply Kd.R_drew)); exact (Kd.R_mono (Kd.R_mono (Kd.R_far (p := ⟨gb220, 1, none⟩) (Kd.R_far (p := ⟨gb220, 0, none⟩) (Kd.R_far (p := ⟨gb219, 1, none⟩) (Kd.R_far (p := ⟨gb219, 0, none⟩) (Kd.R_types (Kd.R_types HO203.out BK219.out (by decide)) BK220.out (by decide)) (fun _ hk => hk.1.2) (.int .i64 t214)) (fun _ hk => hk.1.2) (.int .i64 t215)) (fun _ hk => hk.2) (.int .i64 t216)) (fun _ hk => hk.2) (.int .i64 t217)) (fun _ h_ => h_.1)) (fun _ h_ => h_.1)))) k_ hk_.1), (Kd.fresh' (Kd.N_lt (by (with_reducible repeat (first | apply Kd.N_alloc | apply Kd.N_drewN | apply Kd.N_drew)); exact (Kd.N_mono (Kd.N_mono (Kd.N_far (p := ⟨gb220, 1, none⟩) (Kd.N_far (p := ⟨gb220, 0, none⟩) (Kd.N_far (p := ⟨gb219, 1, none⟩) (Kd.N_far (p := ⟨gb219, 0, none⟩) (Kd.N_mono (Kd.N_mono HO207.out (fun k_ hk => (⟨hk, hk.1.2⟩ : _ ∧ k_ ≠ gb219))) (fun k_ hk => (⟨hk, hk.1.2⟩ : _ ∧ k_ ≠ gb220))) (fun _ hk => hk.1.2) (.int .i64 t214)) (fun _ hk => hk.1.2) (.int .i64 t215)) (fun _ hk => hk.2) (.int .i64 t216)) (fun _ hk => hk.2) (.int .i64 t217)) (fun _ h_ => h_.1)) (fun _ h_ => h_.1)))) k_ hk_.1), (Kd.fresh' (Kd.R_lt (by (with_reducible repeat (first | apply Kd.R_alloc | apply Kd.R_drewN | apply Kd.R_drew)); exact (Kd.R_mono (Kd.R_mono (Kd.R_far (p := ⟨gb220, 1, none⟩) (Kd.R_far (p := ⟨gb220, 0, none⟩) (Kd.R_far (p := ⟨gb219, 1, none⟩) (Kd.R_far (p := ⟨gb219, 0, none⟩) (Kd.R_types (Kd.R_types HO210.out BK219.out (by decide)) BK220.out (by decide)) (fun _ hk => hk.1.2) (.int .i64 t214)) (fun _ hk => hk.1.2) (.int .i64 t215)) (fun _ hk => hk.2) (.int .i64 t216)) (fun _ hk => hk.2) (.int .i64 t217)) (fun _ h_ => h_.1)) (fun _ h_ => h_.1)))) k_ hk_.1), (Kd.fresh' (Kd.R_lt (by (with_reducible repeat (first | apply Kd.R_alloc | apply Kd.R_drewN | apply Kd.R_drew)); exact (Kd.R_mono (Kd.R_mono (Kd.R_far (p := ⟨gb220, 1, none⟩) (Kd.R_far (p := ⟨gb220, 0, none⟩) (Kd.R_far (p := ⟨gb219, 1, none⟩) (Kd.R_far (p := ⟨gb219, 0, none⟩) (Kd.R_types (Kd.R_types HO213.out BK219.out (by decide)) BK220.out (by decide)) (fun _ hk => hk.1.2) (.int .i64 t214)) (fun _ hk => hk.1.2) (.int .i64 t215)) (fun _ hk => hk.2) (.int .i64 t216)) (fun _ hk => hk.2) (.int .i64 t217)) (fun _ h_ => h_.1)) (fun _ h_ => h_.1)))) k_ hk_.1), (Kd.freshB (g := gb219) (o := .cells #[.int .i64 t214, .int .i64 t215] 56 (0, 0)) (by (with_reducible repeat (first | refine blk_drewN ?_ _ | refine blk_drew ?_ | refine blk_alloc ?_ _)); refine blk_far ?_ NB219_220.out _; (with_reducible repeat (first | refine blk_drewN ?_ _ | refine blk_drew ?_ | refine blk_alloc ?_ _)); refine blk_far ?_ NB219_220.out _; (with_reducible repeat (first | refine blk_drewN ?_ _ | refine blk_drew ?_ | refine blk_alloc ?_ _)); refine blk_put (cs := #[.int .i64 t214, .int .i64 0]) ?_ 1 _ rfl; (with_reducible repeat (first | refine blk_drewN ?_ _ | refine blk_drew ?_ | refine blk_alloc ?_ _)); refine blk_put (cs := #[.int .i64 0, .int .i64 0]) ?_ 0 _ rfl; (with_reducible repeat (first | refine blk_drewN ?_ _ | refine blk_drew ?_ | refine blk_alloc ?_ _)); exact BK219.out) k_ hk_.1), (Kd.freshB (g := gb220) (o := .cells #[.int .i64 t216, .int .i64 t217] 56 (0, 0)) (by (with_reducible repeat (first | refine blk_drewN ?_ _ | refine blk_drew ?_ | refine blk_alloc ?_ _)); refine blk_put (cs := #[.int .i64 t216, .int .i64 0]) ?_ 1 _ rfl; (with_reducible repeat (first | refine blk_drewN ?_ _ | refine blk_drew ?_ | refine blk_alloc ?_ _)); refine blk_put (cs := #[.int .i64 0, .int .i64 0]) ?_ 0 _ rfl; exact blk_w BK220.out) k_ hk_.1)⟩)) (below_size (by exact below_y HB.out))); replace HO203 := Aside0.mk (Kd.R_elder' (by (with_reducible repeat (first | apply Kd.R_alloc | apply Kd.R_drewN | apply Kd.R_drew)); exact (Kd.R_mono (Kd.R_mono (Kd.R_far (p := ⟨gb220, 1, none⟩) (Kd.R_far (p := ⟨gb220, 0, none⟩) (Kd.R_far (p := ⟨gb219, 1, none⟩) (Kd.R_far (p := ⟨gb219, 0, none⟩) (Kd.R_types (Kd.R_types HO203.out BK219.out (by decide)) BK220.out (by decide)) (fun _ hk => hk.1.2) (.int .i64 t214)) (fun _ hk => hk.1.2) (.int .i64 t215)) (fun _ hk => hk.2) (.int .i64 t216)) (fun _ hk => hk.2) (.int .i64 t217)) (fun _ h_ => h_.1)) (fun _ h_ => h_.1))) (Kd.R_base ho0) hb); replace HO207 := Aside0.mk (Kd.N_mono (Kd.N_told (Kd.N_told (Kd.N_told (Kd.N_old (by (with_reducible repeat (first | apply Kd.N_alloc | apply Kd.N_drewN | apply Kd.N_drew)); exact (Kd.N_mono (Kd.N_mono (Kd.N_far (p := ⟨gb220, 1, none⟩) (Kd.N_far (p := ⟨gb220, 0, none⟩) (Kd.N_far (p := ⟨gb219, 1, none⟩) (Kd.N_far (p := ⟨gb219, 0, none⟩) (Kd.N_mono (Kd.N_mono HO207.out (fun k_ hk => (⟨hk, hk.1.2⟩ : _ ∧ k_ ≠ gb219))) (fun k_ hk => (⟨hk, hk.1.2⟩ : _ ∧ k_ ≠ gb220))) (fun _ hk => hk.1.2) (.int .i64 t214)) (fun _ hk => hk.1.2) (.int .i64 t215)) (fun _ hk => hk.2) (.int .i64 t216)) (fun _ hk => hk.2) (.int .i64 t217)) (fun _ h_ => h_.1)) (fun _ h_ => h_.1))) hb) (Kd.R_base ho0)) (Kd.N_base ho1)) (Kd.R_base ho2)) (fun _ h_ => h_.1)); replace HO213 := Aside0.mk (Kd.R_below (by (with_reducible repeat (first | apply Kd.R_alloc | apply Kd.R_drewN | apply Kd.R_drew)); exact (Kd.R_mono (Kd.R_mono (Kd.R_far (p := ⟨gb220, 1, none⟩) (Kd.R_far (p := ⟨gb220, 0, none⟩) (Kd.R_far (p := ⟨gb219, 1, none⟩) (Kd.R_far (p := ⟨gb219, 0, none⟩) (Kd.R_types (Kd.R_types HO213.out BK219.out (by decide)) BK220.out (by decide)) (fun _ hk => hk.1.2) (.int .i64 t214)) (fun _ hk => hk.1.2) (.int .i64 t215)) (fun _ hk => hk.2) (.int .i64 t216)) (fun _ hk => hk.2) (.int .i64 t217)) (fun _ h_ => h_.1)) (fun _ h_ => h_.1))) hb); have HO233 := Aside0.mk (Kd.R_lower (Kd.R_new' (Kd.R_mono (ok' := fun k_ => True) ho2 (fun _ hk_ => trivial)) (Kd.R_lt (by (with_reducible repeat (first | apply Kd.R_alloc | apply Kd.R_drewN | apply Kd.R_drew)); exact (Kd.R_mono (Kd.R_mono (Kd.R_far (p := ⟨gb220, 1, none⟩) (Kd.R_far (p := ⟨gb220, 0, none⟩) (Kd.R_far (p := ⟨gb219, 1, none⟩) (Kd.R_far (p := ⟨gb219, 0, none⟩) (Kd.R_types (Kd.R_types HO210.out BK219.out (by decide)) BK220.out (by decide)) (fun _ hk => hk.1.2) (.int .i64 t214)) (fun _ hk => hk.1.2) (.int .i64 t215)) (fun _ hk => hk.2) (.int .i64 t216)) (fun _ hk => hk.2) (.int .i64 t217)) (fun _ h_ => h_.1)) (fun _ h_ => h_.1))))) (below_size (by exact below_y HB.out))); replace HO210 := Aside0.mk (Kd.R_elder' (by (with_reducible repeat (first | apply Kd.R_alloc | apply Kd.R_drewN | apply Kd.R_drew)); exact (Kd.R_mono (Kd.R_mono (Kd.R_far (p := ⟨gb220, 1, none⟩) (Kd.R_far (p := ⟨gb220, 0, none⟩) (Kd.R_far (p := ⟨gb219, 1, none⟩) (Kd.R_far (p := ⟨gb219, 0, none⟩) (Kd.R_types (Kd.R_types HO210.out BK219.out (by decide)) BK220.out (by decide)) (fun _ hk => hk.1.2) (.int .i64 t214)) (fun _ hk => hk.1.2) (.int .i64 t215)) (fun _ hk => hk.2) (.int .i64 t216)) (fun _ hk => hk.2) (.int .i64 t217)) (fun _ h_ => h_.1)) (fun _ h_ => h_.1))) (Kd.R_base ho2) hb); replace BK219 := Aside0.mk (blk_below (g := gb219) (o := .cells #[.int .i64 t214, .int .i64 t215] 56 (0, 0)) (by (with_reducible repeat (first | refine blk_drewN ?_ _ | refine blk_drew ?_ | refine blk_alloc ?_ _)); refine blk_far ?_ NB219_220.out _; (with_reducible repeat (first | refine blk_drewN ?_ _ | refine blk_drew ?_ | refine blk_alloc ?_ _)); refine blk_far ?_ NB219_220.out _; (with_reducible repeat (first | refine blk_drewN ?_ _ | refine blk_drew ?_ | refine blk_alloc ?_ _)); refine blk_put (cs := #[.int .i64 t214, .int .i64 0]) ?_ 1 _ rfl; (with_reducible repeat (first | refine blk_drewN ?_ _ | refine blk_drew ?_ | refine blk_alloc ?_ _)); refine blk_put (cs := #[.int .i64 0, .int .i64 0]) ?_ 0 _ rfl; (with_reducible repeat (first | refine blk_drewN ?_ _ | refine blk_drew ?_ | refine blk_alloc ?_ _)); exact BK219.out) hb); replace BK220 := Aside0.mk (blk_below (g := gb220) (o := .cells #[.int .i64 t216, .int .i64 t217] 56 (0, 0)) (by (with_reducible repeat (first | refine blk_drewN ?_ _ | refine blk_drew ?_ | refine blk_alloc ?_ _)); refine blk_put (cs := #[.int .i64 t216, .int .i64 0]) ?_ 1 _ rfl; (with_reducible repeat (first | refine blk_drewN ?_ _ | refine blk_drew ?_ | refine blk_alloc ?_ _)); refine blk_put (cs := #[.int .i64 0, .int .i64 0]) ?_ 0 _ rfl; exact blk_w BK220.out) hb); replace HB := bl_x HB hb; (try clear hb); (try clear hk); (try clear hi); (try clear ho0); (try clear ho1); (try clear ho2)) | ((with_reducible refine gate_dst (N := 19) rfl ?_); (try (refine gate_guard (by rfl) ?_; dsimp only)); refine Kd.R_lit (Kd.int .i64) _ 3 ?hg (N := 19) ?hd (xs := ([0, 1, (-1)] : List Int)) (inner := [.int .i64 0, .int .i64 1, .int .i64 (-1)]) (ok := fun _ => True) (okp := fun _ => True) ?hr ?hp (fun _ hk => hk) trivial (Below.refl _ _) (Nat.le_refl _) (by simp) ?_; (case hd => rfl); (case hg => rfl); (case hr => first | (go_simp; done) | (go_simp; rfl)); (case hp => exact (Reps.one (show Kd.M (Kd.int .i64) _ _ _ 0 [.int .i64 0] from rfl) (Reps.one (show Kd.M (Kd.int .i64) _ _ _ 1 [.int .i64 1] from rfl) (Reps.one (show Kd.M (Kd.int .i64) _ _ _ (-1) [.int .i64 (-1)] from rfl) (Reps.none _ _))))); intro v235 w35 ho36 hb hg_ hnew_; clear hg_ hnew_; (first | rw [← Ny234.out] at ho36 | (simp only [Int.reduceToNat] at ho36; rw [← Ny234.out] at ho36)); replace HO203 := Aside0.mk (Kd.R_below (Kd.R_x HO203.out) hb); replace HO207 := Aside0.mk (Kd.N_elder' (Kd.N_x HO207.out) (Kd.R_base ho36) hb); replace HO210 := Aside0.mk (Kd.R_below (Kd.R_x HO210.out) hb); replace HO226 := Aside0.mk (Kd.R_below (Kd.R_x HO226.out) hb); replace HO230 := Aside0.mk (Kd.N_elder' (Kd.N_x HO230.out) (Kd.R_base ho36) hb); replace HO233 := Aside0.mk (Kd.R_below (Kd.R_x HO233.out) hb); have HO236 := Aside0.mk (Kd.R_lower (Kd.R_new' ho36 (Kd.R_lt (Kd.R_x HO213.out))) (below_size (by exact below_y HB.out))); replace HO213 := Aside0.mk (Kd.R_elder' (Kd.R_x HO213.out) (Kd.R_base ho36) hb); replace BK219 := Aside0.mk (blk_below (blk_x BK219.out) hb); replace BK220 := Aside0.mk (blk_below (blk_x BK220.out) hb); replace HB := bl_x HB hb; clear hb ho36; obtain ⟨Ao37, co37, eo37⟩ := Kd.R_slice HO226.out; subst eo37; obtain ⟨Ao38, co38, eo38⟩ := Kd.N_slice HO230.out; subst eo38; obtain ⟨Ao39, co39, eo39⟩ := Kd.R_slice HO233.out; subst eo39; obtain ⟨Ao40, co40, eo40⟩ := Kd.R_slice HO236.out; subst eo40) | ((with_reducible refine gate_callee (f := 22) rfl ?_); refine goesL_ (some 20) rfl rfl Try.func22 (by kernel_rfl) rfl #[.agg #[.int .i64 t221, .int .i64 t222, .int .i64 t223, .slice Ao37 t224.length co37, .int .i64 t227, .slice Ao38 t228.length co38, .slice Ao39 t231.length co39], .slice Ao40 y234.length co40] rfl (by (try simp only [List.map_toArray, List.map_cons, List.map_nil]); first | done | rfl | (simp only [List.length_drop, List.length_take]; rfl)) ?_; (with_reducible refine (ship_Sail.calls t221 t222 t223 _ _ t224 t227 _ _ t228 _ _ t231 _ _ y234 t237 t238 t241 _ ?side1 ?side2 ?side3 ?side4 ?side5 ?side6 ?side7 ?side8 A4.out).mono ?_); (case side1 => exact Kd.C_y (Kd.R_reads' HO226.out).2.2); (case side2 => exact (Kd.R_reads' HO226.out).2.1); (case side3 => exact Kd.C_y (Kd.N_reads' HO230.out).2.2); (case side4 => exact (Kd.N_reads' HO230.out).2.1); (case side5 => exact Kd.C_y (Kd.R_reads' HO233.out).2.2); (case side6 => exact (Kd.R_reads' HO233.out).2.1); (case side7 => exact Kd.C_y (Kd.R_reads' HO236.out).2.2); (case side8 => exact (Kd.R_reads' HO236.out).2.1); rintro e w41 ⟨v239, rfl, ho0, hb⟩; refine ⟨_, rfl, ?_⟩; replace HO203 := Aside0.mk (Kd.R_below (Kd.R_x HO203.out) hb); replace HO207 := Aside0.mk (Kd.N_elder' (Kd.N_x HO207.out) (Kd.R_base ho0) hb); replace HO210 := Aside0.mk (Kd.R_below (Kd.R_x HO210.out) hb); replace HO213 := Aside0.mk (Kd.R_below (Kd.R_x HO213.out) hb); replace HO226 := Aside0.mk (Kd.R_below (Kd.R_x HO226.out) hb); replace HO230 := Aside0.mk (Kd.N_elder' (Kd.N_x HO230.out) (Kd.R_base ho0) hb); replace HO233 := Aside0.mk (Kd.R_below (Kd.R_x HO233.out) hb); replace HO236 := Aside0.mk (Kd.R_below (Kd.R_x HO236.out) hb); have HO240 := Aside0.mk (Kd.R_lower (Kd.R_newB (Kd.R_newB ho0 (g := gb219) (o := .cells #[.int .i64 t214, .int .i64 t215] 56 (0, 0)) (blk_x BK219.out)) (g := gb220) (o := .cells #[.int .i64 t216, .int .i64 t217] 56 (0, 0)) (blk_x BK220.out)) (below_size (by exact below_y HB.out))); replace BK219 := Aside0.mk (blk_below (blk_x BK219.out) hb); replace BK220 := Aside0.mk (blk_below (blk_x BK220.out) hb); replace HB := bl_x HB hb; (try clear hb); (try clear hk); (try clear hi); (try clear ho0)) | ((with_reducible refine gate_callee (f := 52) rfl ?_); refine goesL_ (some 25) rfl rfl Try.func52 (by kernel_rfl) rfl #[] rfl (by (try simp only [List.map_toArray, List.map_cons, List.map_nil]); first | done | rfl | (simp only [List.length_drop, List.length_take]; rfl)) ?_; (with_reducible refine (swarflaw07_voyage.calls  t242 t243 t244 t245 t248 t249 t252 _ A5.out).mono ?_); rintro e w42 ⟨v246, v250, v253, rfl, ho0, ho1, ho2, hb⟩; refine ⟨_, rfl, ?_⟩; have HO247 := Aside0.mk (Kd.R_lower (Kd.R_new' (Kd.R_new' (Kd.R_mono (ok' := fun k_ => True) ho0 (fun _ hk_ => trivial)) (Kd.R_lt (Kd.R_x HO203.out))) (Kd.R_lt (Kd.R_x HO226.out))) (below_size (by exact below_y HB.out))); have HO251 := Aside0.mk (Kd.N_lower (Kd.N_mono (ok' := fun k_ => some k_ ≠ (v246 : Value).ownBlock ∧ some k_ ≠ (v253 : Value).ownBlock ∧ some k_ ≠ (.slice Ao24 t201.length co24 : Value).ownBlock ∧ some k_ ≠ (.slice Ao25 t205.length co25 : Value).ownBlock ∧ some k_ ≠ (.slice Ao26 t208.length co26 : Value).ownBlock ∧ some k_ ≠ (.slice Ao27 y211.length co27 : Value).ownBlock ∧ some k_ ≠ (.slice Ao37 t224.length co37 : Value).ownBlock ∧ some k_ ≠ (.slice Ao38 t228.length co38 : Value).ownBlock ∧ some k_ ≠ (.slice Ao39 t231.length co39 : Value).ownBlock ∧ some k_ ≠ (.slice Ao40 y234.length co40 : Value).ownBlock ∧ some k_ ≠ (v239 : Value).ownBlock ∧ k_ ≠ gb219 ∧ k_ ≠ gb220) ho1 (fun k_ hk_ => ⟨hk_.2.1, hk_.2.2, (Kd.fresh' (Kd.R_lt (Kd.R_x HO203.out)) k_ hk_.1), (Kd.fresh' (Kd.N_lt (Kd.N_x HO207.out)) k_ hk_.1), (Kd.fresh' (Kd.R_lt (Kd.R_x HO210.out)) k_ hk_.1), (Kd.fresh' (Kd.R_lt (Kd.R_x HO213.out)) k_ hk_.1), (Kd.fresh' (Kd.R_lt (Kd.R_x HO226.out)) k_ hk_.1), (Kd.fresh' (Kd.N_lt (Kd.N_x HO230.out)) k_ hk_.1), (Kd.fresh' (Kd.R_lt (Kd.R_x HO233.out)) k_ hk_.1), (Kd.fresh' (Kd.R_lt (Kd.R_x HO236.out)) k_ hk_.1), (Kd.fresh' (Kd.R_lt (Kd.R_x HO240.out)) k_ hk_.1), (Kd.freshB (g := gb219) (o := .cells #[.int .i64 t214, .int .i64 t215] 56 (0, 0)) (blk_x BK219.out) k_ hk_.1), (Kd.freshB (g := gb220) (o := .cells #[.int .i64 t216, .int .i64 t217] 56 (0, 0)) (blk_x BK220.out) k_ hk_.1)⟩)) (below_size (by exact below_y HB.out))); replace HO203 := Aside0.mk (Kd.R_elder' (Kd.R_x HO203.out) (Kd.R_base ho0) hb); replace HO207 := Aside0.mk (Kd.N_mono (Kd.N_told (Kd.N_told (Kd.N_told (Kd.N_old (Kd.N_x HO207.out) hb) (Kd.R_base ho0)) (Kd.N_base ho1)) (Kd.R_base ho2)) (fun _ h_ => h_.1)); replace HO213 := Aside0.mk (Kd.R_below (Kd.R_x HO213.out) hb); replace HO226 := Aside0.mk (Kd.R_elder' (Kd.R_x HO226.out) (Kd.R_base ho0) hb); replace HO230 := Aside0.mk (Kd.N_mono (Kd.N_told (Kd.N_told (Kd.N_told (Kd.N_old (Kd.N_x HO230.out) hb) (Kd.R_base ho0)) (Kd.N_base ho1)) (Kd.R_base ho2)) (fun _ h_ => h_.1)); replace HO236 := Aside0.mk (Kd.R_below (Kd.R_x HO236.out) hb); replace HO240 := Aside0.mk (Kd.R_below (Kd.R_x HO240.out) hb); have HO254 := Aside0.mk (Kd.R_lower (Kd.R_new' (Kd.R_new' (Kd.R_mono (ok' := fun k_ => True) ho2 (fun _ hk_ => trivial)) (Kd.R_lt (Kd.R_x HO210.out))) (Kd.R_lt (Kd.R_x HO233.out))) (below_size (by exact below_y HB.out))); replace HO210 := Aside0.mk (Kd.R_elder' (Kd.R_x HO210.out) (Kd.R_base ho2) hb); replace HO233 := Aside0.mk (Kd.R_elder' (Kd.R_x HO233.out) (Kd.R_base ho2) hb); replace BK219 := Aside0.mk (blk_below (blk_x BK219.out) hb); replace BK220 := Aside0.mk (blk_below (blk_x BK220.out) hb); replace HB := bl_x HB hb; (try clear hb); (try clear hk); (try clear hi); (try clear ho0); (try clear ho1); (try clear ho2); obtain ⟨Ao43, co43, eo43⟩ := Kd.R_slice HO247.out; subst eo43; obtain ⟨Ao44, co44, eo44⟩ := Kd.N_slice HO251.out; subst eo44; obtain ⟨Ao45, co45, eo45⟩ := Kd.R_slice HO254.out; subst eo45) | ((with_reducible refine gate_callee (f := 28) rfl ?_); refine goesL_ (some 26) rfl rfl Try.func28 (by kernel_rfl) rfl #[.agg #[.int .i64 t242, .int .i64 t243, .int .i64 t244, .slice Ao43 t245.length co43, .int .i64 t248, .slice Ao44 t249.length co44, .slice Ao45 t252.length co45]] rfl (by (try simp only [List.map_toArray, List.map_cons, List.map_nil]); first | done | rfl | (simp only [List.length_drop, List.length_take]; rfl)) ?_; (with_reducible refine (ship_Best.calls t242 t243 t244 _ _ t245 t248 _ _ t249 _ _ t252 t255 t258 t259 _ ?side1 ?side2 ?side3 ?side4 ?side5 ?side6 A6.out).mono ?_); (case side1 => exact Kd.C_y (Kd.R_reads' HO247.out).2.2); (case side2 => exact (Kd.R_reads' HO247.out).2.1); (case side3 => exact Kd.C_y (Kd.N_reads' HO251.out).2.2); (case side4 => exact (Kd.N_reads' HO251.out).2.1); (case side5 => exact Kd.C_y (Kd.R_reads' HO254.out).2.2); (case side6 => exact (Kd.R_reads' HO254.out).2.1); rintro e w46 ⟨v256, rfl, ho0, hb⟩; refine ⟨_, rfl, ?_⟩; replace HO203 := Aside0.mk (Kd.R_below (Kd.R_x HO203.out) hb); replace HO207 := Aside0.mk (Kd.N_elder' (Kd.N_x HO207.out) (Kd.R_base ho0) hb); replace HO210 := Aside0.mk (Kd.R_below (Kd.R_x HO210.out) hb); replace HO226 := Aside0.mk (Kd.R_below (Kd.R_x HO226.out) hb); replace HO230 := Aside0.mk (Kd.N_elder' (Kd.N_x HO230.out) (Kd.R_base ho0) hb); replace HO233 := Aside0.mk (Kd.R_below (Kd.R_x HO233.out) hb); replace HO240 := Aside0.mk (Kd.R_below (Kd.R_x HO240.out) hb); replace HO247 := Aside0.mk (Kd.R_below (Kd.R_x HO247.out) hb); replace HO251 := Aside0.mk (Kd.N_elder' (Kd.N_x HO251.out) (Kd.R_base ho0) hb); replace HO254 := Aside0.mk (Kd.R_below (Kd.R_x HO254.out) hb); have HO257 := Aside0.mk (Kd.R_lower (Kd.R_new' (Kd.R_new' ho0 (Kd.R_lt (Kd.R_x HO213.out))) (Kd.R_lt (Kd.R_x HO236.out))) (below_size (by exact below_y HB.out))); replace HO213 := Aside0.mk (Kd.R_elder' (Kd.R_x HO213.out) (Kd.R_base ho0) hb); replace HO236 := Aside0.mk (Kd.R_elder' (Kd.R_x HO236.out) (Kd.R_base ho0) hb); replace BK219 := Aside0.mk (blk_below (blk_x BK219.out) hb); replace BK220 := Aside0.mk (blk_below (blk_x BK220.out) hb); replace HB := bl_x HB hb; (try clear hb); (try clear hk); (try clear hi); (try clear ho0)))
         replace HO203 := Aside0.mk (Kd.R_drew HO203.out)
         replace HO207 := Aside0.mk (Kd.N_drew HO207.out)
         replace HO210 := Aside0.mk (Kd.R_drew HO210.out)
         replace HO213 := Aside0.mk (Kd.R_drew HO213.out)
         replace HO226 := Aside0.mk (Kd.R_drew HO226.out)
         replace HO230 := Aside0.mk (Kd.N_drew HO230.out)
         replace HO233 := Aside0.mk (Kd.R_drew HO233.out)
         replace HO236 := Aside0.mk (Kd.R_drew HO236.out)
         replace HO240 := Aside0.mk (Kd.R_drew HO240.out)
         replace HO247 := Aside0.mk (Kd.R_drew HO247.out)
         replace HO251 := Aside0.mk (Kd.N_drew HO251.out)
         replace HO254 := Aside0.mk (Kd.R_drew HO254.out)
         replace HO257 := Aside0.mk (Kd.R_drew HO257.out)
         replace BK219 := Aside0.mk (blk_drew BK219.out)
         replace BK220 := Aside0.mk (blk_drew BK220.out)
         replace HB := Aside0.mk (below_drew1 HB.out)
         refine start_ (n := 41) (S := fun w' => w'.cell? ⟨gb219, 0, none⟩ = some (.int .i64 t214) ∧ w'.cell? ⟨gb219, 1, none⟩ = some (.int .i64 t215) ∧ w'.cell? ⟨gb220, 0, none⟩ = some (.int .i64 t216) ∧ w'.cell? ⟨gb220, 1, none⟩ = some (.int .i64 t217)) (ds := []) #[false, false, false, false, false, false, false, false, false, false, false, false, false, false, false, false, false, false, false, false, false, false, false, false, false, false, false, false, false, false, false, false, false, false, false, false, false, false, false, false, false] (by kernel_rfl) rfl rfl ⟨(blk_cell BK219.out 0).trans rfl, (blk_cell BK219.out 1).trans rfl, (blk_cell BK220.out 0).trans rfl, (blk_cell BK220.out 1).trans rfl⟩ (fun hHeld => ?_); refine with_tabW swarflaw07_awake.tab4 swarflaw07_awake.bits4 (fun HT_ HW_ => ?_)
         generalize w46.drew = w47 at HO203 HO207 HO210 HO213 HO226 HO230 HO233 HO236 HO240 HO247 HO251 HO254 HO257 BK219 BK220 HB hHeld ⊢
         refine pure_ (i := 0) (N := some 30) (v := ?_) (a' := ?_) (bz 41 1) rfl rfl (any_of HT_.out (by kernel_rfl)) (fun _ _ _ h => h) (Or.inl ⟨by rfl, ?_⟩) ?_ ?_
         rotate_left
         ·
          intro w'
          go_simp
          with_reducible rfl
         rotate_left
         ·
          simp only [Act.put, put_x, i64_w, i32_w]
          rfl
         refine pure_ (i := 1) (N := some 31) (v := ?_) (a' := ?_) (bz 41 3) rfl rfl (any_of HT_.out (by kernel_rfl)) (fun _ _ _ h => h) (Or.inl ⟨by rfl, ?_⟩) ?_ ?_
         rotate_left
         ·
          intro w'
          go_simp
          with_reducible rfl
         rotate_left
         ·
          simp only [Act.put, put_x, i64_w, i32_w]
          rfl
         refine pure_ (i := 2) (N := some 32) (v := ?_) (a' := ?_) (bz 41 7) rfl rfl (any_of HT_.out (by kernel_rfl)) (fun _ _ _ h => h) (Or.inl ⟨by rfl, ?_⟩) ?_ ?_
         rotate_left
         ·
          intro w'
          go_simp
          with_reducible rfl
         rotate_left
         ·
          simp only [Act.put, put_x, i64_w, i32_w]
          rfl
         refine pure_ (i := 3) (N := some 33) (v := ?_) (a' := ?_) (bz 41 15) rfl rfl (any_of HT_.out (by kernel_rfl)) (fun _ _ _ h => h) (Or.inl ⟨by rfl, ?_⟩) ?_ ?_
         rotate_left
         ·
          intro w'
          go_simp
          with_reducible rfl
         rotate_left
         ·
          simp only [Act.put, put_x, i64_w, i32_w]
          rfl
         refine pure_ (i := 4) (N := some 34) (v := ?_) (a' := ?_) (bz 41 31) rfl rfl (any_of HT_.out (by kernel_rfl)) (fun _ _ _ h => h) (Or.inl ⟨by rfl, ?_⟩) ?_ ?_
         rotate_left
         ·
          intro w'
          go_simp
          with_reducible rfl
         rotate_left
         ·
          simp only [Act.put, put_x, i64_w, i32_w]
          rfl
         refine pure_ (i := 5) (N := some 35) (v := ?_) (a' := ?_) (bz 41 63) rfl rfl (any_of HT_.out (by kernel_rfl)) (fun _ _ _ h => h) (Or.inl ⟨by rfl, ?_⟩) ?_ ?_
         rotate_left
         ·
          intro w'
          go_simp
          with_reducible rfl
         rotate_left
         ·
          simp only [Act.put, put_x, i64_w, i32_w]
          rfl
         refine pure_ (i := 6) (N := some 36) (v := ?_) (a' := ?_) (bz 41 127) rfl rfl (any_of HT_.out (by kernel_rfl)) (fun _ _ _ h => h) (Or.inl ⟨by rfl, ?_⟩) ?_ ?_
         rotate_left
         ·
          intro w'
          go_simp
          with_reducible rfl
         rotate_left
         ·
          simp only [Act.put, put_x, i64_w, i32_w]
          rfl
         refine pure_ (i := 7) (N := some 37) (v := ?_) (a' := ?_) (bz 41 255) rfl rfl (any_of HT_.out (by kernel_rfl)) (fun _ _ _ h => h) (Or.inl ⟨by rfl, ?_⟩) ?_ ?_
         rotate_left
         ·
          intro w'
          go_simp
          with_reducible rfl
         rotate_left
         ·
          simp only [Act.put, put_x, i64_w, i32_w]
          rfl
         refine pure_ (i := 8) (N := some 38) (v := ?_) (a' := ?_) (bz 41 511) rfl rfl (any_of HT_.out (by kernel_rfl)) (fun _ _ _ h => h) (Or.inl ⟨by rfl, ?_⟩) ?_ ?_
         rotate_left
         ·
          intro w'
          go_simp
          with_reducible rfl
         rotate_left
         ·
          simp only [Act.put, put_x, i64_w, i32_w]
          rfl
         refine pure_ (i := 9) (N := some 39) (v := ?_) (a' := ?_) (bz 41 1023) rfl rfl (any_of HT_.out (by kernel_rfl)) (fun _ _ _ h => h) (Or.inl ⟨by rfl, ?_⟩) ?_ ?_
         rotate_left
         ·
          intro w'
          go_simp
          with_reducible rfl
         rotate_left
         ·
          simp only [Act.put, put_x, i64_w, i32_w]
          rfl
         refine pure_ (i := 10) (N := some 40) (v := ?_) (a' := ?_) (bz 41 2047) rfl rfl (any_of HT_.out (by kernel_rfl)) (fun _ _ _ h => h) (Or.inl ⟨by rfl, ?_⟩) ?_ ?_
         rotate_left
         ·
          intro w'
          go_simp
          with_reducible rfl
         rotate_left
         ·
          simp only [Act.put, put_x, i64_w, i32_w]
          rfl
         refine take_ (i := 11) (N := some 41) (v := ?_) (a' := ?_) (bz 41 4095) rfl rfl (take_ofW HT_.out HW_.out (by kernel_rfl)) (fun _ _ _ h => h) (Or.inl ⟨by rfl, ?_⟩) hHeld ?_ ?_
         rotate_left
         ·
          rintro w' ⟨s0, s1, s2, s3⟩
          go_simp
          with_reducible rfl
         rotate_left
         ·
          simp only [Act.put, put_x, i64_w, i32_w]
          rfl
         refine one_ (i := 12) (N := some 42) (bz 41 8191) rfl rfl (one_of HT_.out (by kernel_rfl)) (by decide) (fun K hK => ?_)
         refine goes_ Try.func32 (by kernel_rfl) rfl #[.int .i64 1290000, .int .i64 1340000] (by rfl) rfl rfl (by (try simp only [List.map_toArray, List.map_cons, List.map_nil]); first | done | rfl | (simp only [List.length_drop, List.length_take]; rfl)) ?_
         with_reducible refine (swarflaw07_rng.calls 1290000 1340000 t260 t261 _ A10.out).mono ?_
         rintro e w48 ⟨rfl, hb⟩
         refine ⟨_, rfl, ?_⟩
         replace HO203 := Aside0.mk (Kd.R_below (Kd.R_x HO203.out) hb)
         replace HO207 := Aside0.mk (Kd.N_below (Kd.N_x HO207.out) hb)
         replace HO210 := Aside0.mk (Kd.R_below (Kd.R_x HO210.out) hb)
         replace HO213 := Aside0.mk (Kd.R_below (Kd.R_x HO213.out) hb)
         replace HO226 := Aside0.mk (Kd.R_below (Kd.R_x HO226.out) hb)
         replace HO230 := Aside0.mk (Kd.N_below (Kd.N_x HO230.out) hb)
         replace HO233 := Aside0.mk (Kd.R_below (Kd.R_x HO233.out) hb)
         replace HO236 := Aside0.mk (Kd.R_below (Kd.R_x HO236.out) hb)
         replace HO240 := Aside0.mk (Kd.R_below (Kd.R_x HO240.out) hb)
         replace HO247 := Aside0.mk (Kd.R_below (Kd.R_x HO247.out) hb)
         replace HO251 := Aside0.mk (Kd.N_below (Kd.N_x HO251.out) hb)
         replace HO254 := Aside0.mk (Kd.R_below (Kd.R_x HO254.out) hb)
         replace HO257 := Aside0.mk (Kd.R_below (Kd.R_x HO257.out) hb)
         replace BK219 := Aside0.mk (blk_below (blk_x BK219.out) hb)
         replace BK220 := Aside0.mk (blk_below (blk_x BK220.out) hb)
         replace HB := bl_x HB hb
         (try clear hb)
         (try clear hb2)
         (try clear hk)
         (try clear hi)
         refine hK.out _ _ ⟨(blk_cell BK219.out 0).trans rfl, (blk_cell BK219.out 1).trans rfl, (blk_cell BK220.out 0).trans rfl, (blk_cell BK220.out 1).trans rfl⟩ (fun hHeld => ?_)
         clear hK K
         refine norm_ (a' := ?_) ?_ ?_
         rotate_left
         ·
          show Act.put _ (some 42) _ = _
          simp only [Act.put, put_x, i64_w, i32_w]
          rfl
         refine pure_ (i := 13) (N := some 43) (v := ?_) (a' := ?_) (bz 41 16383) rfl rfl (any_of HT_.out (by kernel_rfl)) (fun _ _ _ h => h) (Or.inl ⟨by rfl, ?_⟩) ?_ ?_
         rotate_left
         ·
          intro w'
          go_simp
          with_reducible rfl
         rotate_left
         ·
          simp only [Act.put, put_x, i64_w, i32_w]
          rfl
         refine pure_ (i := 14) (N := some 44) (v := ?_) (a' := ?_) (bz 41 32767) rfl rfl (any_of HT_.out (by kernel_rfl)) (fun _ _ _ h => h) (Or.inl ⟨by rfl, ?_⟩) ?_ ?_
         rotate_left
         ·
          intro w'
          go_simp
          with_reducible rfl
         rotate_left
         ·
          simp only [Act.put, put_x, i64_w, i32_w]
          rfl
         refine pure_ (i := 15) (N := some 45) (v := ?_) (a' := ?_) (bz 41 65535) rfl rfl (any_of HT_.out (by kernel_rfl)) (fun _ _ _ h => h) (Or.inl ⟨by rfl, ?_⟩) ?_ ?_
         rotate_left
         ·
          intro w'
          go_simp
          with_reducible rfl
         rotate_left
         ·
          simp only [Act.put, put_x, i64_w, i32_w]
          rfl
         refine take_ (i := 16) (N := some 46) (v := ?_) (a' := ?_) (bz 41 131071) rfl rfl (take_ofW HT_.out HW_.out (by kernel_rfl)) (fun _ _ _ h => h) (Or.inl ⟨by rfl, ?_⟩) hHeld ?_ ?_
         rotate_left
         ·
          rintro w' ⟨s0, s1, s2, s3⟩
          go_simp
          with_reducible rfl
         rotate_left
         ·
          simp only [Act.put, put_x, i64_w, i32_w]
          rfl
         refine one_ (i := 17) (N := some 47) (bz 41 262143) rfl rfl (one_of HT_.out (by kernel_rfl)) (by decide) (fun K hK => ?_)
         refine goes_ Try.func32 (by kernel_rfl) rfl #[.int .i64 1260000, .int .i64 1310000] (by rfl) rfl rfl (by (try simp only [List.map_toArray, List.map_cons, List.map_nil]); first | done | rfl | (simp only [List.length_drop, List.length_take]; rfl)) ?_
         with_reducible refine (swarflaw07_rng.calls 1260000 1310000 t262 t263 _ A12.out).mono ?_
         rintro e w49 ⟨rfl, hb⟩
         refine ⟨_, rfl, ?_⟩
         replace HO203 := Aside0.mk (Kd.R_below (Kd.R_x HO203.out) hb)
         replace HO207 := Aside0.mk (Kd.N_below (Kd.N_x HO207.out) hb)
         replace HO210 := Aside0.mk (Kd.R_below (Kd.R_x HO210.out) hb)
         replace HO213 := Aside0.mk (Kd.R_below (Kd.R_x HO213.out) hb)
         replace HO226 := Aside0.mk (Kd.R_below (Kd.R_x HO226.out) hb)
         replace HO230 := Aside0.mk (Kd.N_below (Kd.N_x HO230.out) hb)
         replace HO233 := Aside0.mk (Kd.R_below (Kd.R_x HO233.out) hb)
         replace HO236 := Aside0.mk (Kd.R_below (Kd.R_x HO236.out) hb)
         replace HO240 := Aside0.mk (Kd.R_below (Kd.R_x HO240.out) hb)
         replace HO247 := Aside0.mk (Kd.R_below (Kd.R_x HO247.out) hb)
         replace HO251 := Aside0.mk (Kd.N_below (Kd.N_x HO251.out) hb)
         replace HO254 := Aside0.mk (Kd.R_below (Kd.R_x HO254.out) hb)
         replace HO257 := Aside0.mk (Kd.R_below (Kd.R_x HO257.out) hb)
         replace BK219 := Aside0.mk (blk_below (blk_x BK219.out) hb)
         replace BK220 := Aside0.mk (blk_below (blk_x BK220.out) hb)
         replace HB := bl_x HB hb
         (try clear hb)
         (try clear hb2)
         (try clear hk)
         (try clear hi)
         refine hK.out _ _ ⟨(blk_cell BK219.out 0).trans rfl, (blk_cell BK219.out 1).trans rfl, (blk_cell BK220.out 0).trans rfl, (blk_cell BK220.out 1).trans rfl⟩ (fun hHeld => ?_)
         clear hK K
         refine norm_ (a' := ?_) ?_ ?_
         rotate_left
         ·
          show Act.put _ (some 47) _ = _
          simp only [Act.put, put_x, i64_w, i32_w]
          rfl
         refine pure_ (i := 18) (N := some 48) (v := ?_) (a' := ?_) (bz 41 524287) rfl rfl (any_of HT_.out (by kernel_rfl)) (fun _ _ _ h => h) (Or.inl ⟨by rfl, ?_⟩) ?_ ?_
         rotate_left
         ·
          intro w'
          go_simp
          with_reducible rfl
         rotate_left
         ·
          simp only [Act.put, put_x, i64_w, i32_w]
          rfl
         refine pure_ (i := 19) (N := some 49) (v := ?_) (a' := ?_) (bz 41 1048575) rfl rfl (any_of HT_.out (by kernel_rfl)) (fun _ _ _ h => h) (Or.inl ⟨by rfl, ?_⟩) ?_ ?_
         rotate_left
         ·
          intro w'
          go_simp
          with_reducible rfl
         rotate_left
         ·
          simp only [Act.put, put_x, i64_w, i32_w]
          rfl
         refine pure_ (i := 20) (N := some 50) (v := ?_) (a' := ?_) (bz 41 2097151) rfl rfl (any_of HT_.out (by kernel_rfl)) (fun _ _ _ h => h) (Or.inl ⟨by rfl, ?_⟩) ?_ ?_
         rotate_left
         ·
          intro w'
          go_simp
          with_reducible rfl
         rotate_left
         ·
          simp only [Act.put, put_x, i64_w, i32_w]
          rfl
         refine pure_ (i := 21) (N := some 51) (v := ?_) (a' := ?_) (bz 41 4194303) rfl rfl (any_of HT_.out (by kernel_rfl)) (fun _ _ _ h => h) (Or.inl ⟨by rfl, ?_⟩) ?_ ?_
         rotate_left
         ·
          intro w'
          go_simp
          with_reducible rfl
         rotate_left
         ·
          simp only [Act.put, put_x, i64_w, i32_w]
          rfl
         refine pure_ (i := 22) (N := some 52) (v := ?_) (a' := ?_) (bz 41 8388607) rfl rfl (any_of HT_.out (by kernel_rfl)) (fun _ _ _ h => h) (Or.inl ⟨by rfl, ?_⟩) ?_ ?_
         rotate_left
         ·
          intro w'
          go_simp
          with_reducible rfl
         rotate_left
         ·
          simp only [Act.put, put_x, i64_w, i32_w]
          rfl
         refine pure_ (i := 23) (N := some 53) (v := ?_) (a' := ?_) (bz 41 16777215) rfl rfl (any_of HT_.out (by kernel_rfl)) (fun _ _ _ h => h) (Or.inl ⟨by rfl, ?_⟩) ?_ ?_
         rotate_left
         ·
          intro w'
          go_simp
          with_reducible rfl
         rotate_left
         ·
          simp only [Act.put, put_x, i64_w, i32_w]
          rfl
         refine pure_ (i := 24) (N := some 54) (v := ?_) (a' := ?_) (bz 41 33554431) rfl rfl (any_of HT_.out (by kernel_rfl)) (fun _ _ _ h => h) (Or.inl ⟨by rfl, ?_⟩) ?_ ?_
         rotate_left
         ·
          intro w'
          go_simp
          with_reducible rfl
         rotate_left
         ·
          simp only [Act.put, put_x, i64_w, i32_w]
          rfl
         refine pure_ (i := 25) (N := some 55) (v := ?_) (a' := ?_) (bz 41 67108863) rfl rfl (any_of HT_.out (by kernel_rfl)) (fun _ _ _ h => h) (Or.inl ⟨by rfl, ?_⟩) ?_ ?_
         rotate_left
         ·
          intro w'
          go_simp
          with_reducible rfl
         rotate_left
         ·
          simp only [Act.put, put_x, i64_w, i32_w]
          rfl
         refine pure_ (i := 26) (N := some 56) (v := ?_) (a' := ?_) (bz 41 134217727) rfl rfl (any_of HT_.out (by kernel_rfl)) (fun _ _ _ h => h) (Or.inl ⟨by rfl, ?_⟩) ?_ ?_
         rotate_left
         ·
          intro w'
          go_simp
          with_reducible rfl
         rotate_left
         ·
          simp only [Act.put, put_x, i64_w, i32_w]
          rfl
         refine pure_ (i := 27) (N := some 57) (v := ?_) (a' := ?_) (bz 41 268435455) rfl rfl (any_of HT_.out (by kernel_rfl)) (fun _ _ _ h => h) (Or.inl ⟨by rfl, ?_⟩) ?_ ?_
         rotate_left
         ·
          intro w'
          go_simp
          with_reducible rfl
         rotate_left
         ·
          simp only [Act.put, put_x, i64_w, i32_w]
          rfl
         refine pure_ (i := 28) (N := some 58) (v := ?_) (a' := ?_) (bz 41 536870911) rfl rfl (any_of HT_.out (by kernel_rfl)) (fun _ _ _ h => h) (Or.inl ⟨by rfl, ?_⟩) ?_ ?_
         rotate_left
         ·
          intro w'
          go_simp
          with_reducible rfl
         rotate_left
         ·
          simp only [Act.put, put_x, i64_w, i32_w]
          rfl
         refine pure_ (i := 29) (N := some 59) (v := ?_) (a' := ?_) (bz 41 1073741823) rfl rfl (any_of HT_.out (by kernel_rfl)) (fun _ _ _ h => h) (Or.inl ⟨by rfl, ?_⟩) ?_ ?_
         rotate_left
         ·
          intro w'
          go_simp
          with_reducible rfl
         rotate_left
         ·
          simp only [Act.put, put_x, i64_w, i32_w]
          rfl
         refine one_ (i := 30) (N := some 60) (bz 41 2147483647) rfl rfl (one_of HT_.out (by kernel_rfl)) (by decide) (fun K hK => ?_)
         refine Kd.R_lit_step (Kd.int .i64) _ 3 ?hg (N := 60) ?hd (xs := ([0, (-1), 1] : List Int)) (inner := [.int .i64 0, .int .i64 (-1), .int .i64 1]) (ok := fun _ => True) (okp := fun _ => True) ?hr ?hp (fun _ hk => hk) trivial (Below.refl _ _) (Nat.le_refl _) (by simp) ?_; (case hd => rfl); (case hg => rfl); (case hr => first | (go_simp; done) | (go_simp; rfl)); (case hp => exact (Reps.one (show Kd.M (Kd.int .i64) _ _ _ 0 [.int .i64 0] from rfl) (Reps.one (show Kd.M (Kd.int .i64) _ _ _ (-1) [.int .i64 (-1)] from rfl) (Reps.one (show Kd.M (Kd.int .i64) _ _ _ 1 [.int .i64 1] from rfl) (Reps.none _ _)))))
         intro v265 w50 ho51 hb hg_ hnew_
         clear hg_ hnew_
         (first | rw [← Ny264.out] at ho51 | (simp only [Int.reduceToNat] at ho51; rw [← Ny264.out] at ho51))
         replace HO203 := Aside0.mk (Kd.R_below (Kd.R_x HO203.out) hb)
         replace HO207 := Aside0.mk (Kd.N_elder' (Kd.N_x HO207.out) (Kd.R_base ho51) hb)
         replace HO210 := Aside0.mk (Kd.R_below (Kd.R_x HO210.out) hb)
         replace HO226 := Aside0.mk (Kd.R_below (Kd.R_x HO226.out) hb)
         replace HO230 := Aside0.mk (Kd.N_elder' (Kd.N_x HO230.out) (Kd.R_base ho51) hb)
         replace HO233 := Aside0.mk (Kd.R_below (Kd.R_x HO233.out) hb)
         replace HO240 := Aside0.mk (Kd.R_below (Kd.R_x HO240.out) hb)
         replace HO247 := Aside0.mk (Kd.R_below (Kd.R_x HO247.out) hb)
         replace HO251 := Aside0.mk (Kd.N_elder' (Kd.N_x HO251.out) (Kd.R_base ho51) hb)
         replace HO254 := Aside0.mk (Kd.R_below (Kd.R_x HO254.out) hb)
         have HO266 := Aside0.mk (Kd.R_lower (Kd.R_new' (Kd.R_new' (Kd.R_new' ho51 (Kd.R_lt (Kd.R_x HO213.out))) (Kd.R_lt (Kd.R_x HO236.out))) (Kd.R_lt (Kd.R_x HO257.out))) (below_size (by exact below_y HB.out)))
         replace HO213 := Aside0.mk (Kd.R_elder' (Kd.R_x HO213.out) (Kd.R_base ho51) hb)
         replace HO236 := Aside0.mk (Kd.R_elder' (Kd.R_x HO236.out) (Kd.R_base ho51) hb)
         replace HO257 := Aside0.mk (Kd.R_elder' (Kd.R_x HO257.out) (Kd.R_base ho51) hb)
         replace BK219 := Aside0.mk (blk_below (blk_x BK219.out) hb)
         replace BK220 := Aside0.mk (blk_below (blk_x BK220.out) hb)
         replace HB := bl_x HB hb
         clear hb ho51
         obtain ⟨Ao52, co52, eo52⟩ := Kd.R_slice HO257.out
         (first | subst eo52 | (injection eo52 with f1_ f2_ f3_; have f4_ := f1_.symm; have f5_ := f3_.symm; clear f1_ f2_ f3_; subst f4_; subst f5_))
         obtain ⟨Ao53, co53, eo53⟩ := Kd.R_slice HO266.out
         (first | subst eo53 | (injection eo53 with f1_ f2_ f3_; have f4_ := f1_.symm; have f5_ := f3_.symm; clear f1_ f2_ f3_; subst f4_; subst f5_))
         refine hK.out _ _ ⟨(blk_cell BK219.out 0).trans rfl, (blk_cell BK219.out 1).trans rfl, (blk_cell BK220.out 0).trans rfl, (blk_cell BK220.out 1).trans rfl⟩ (fun hHeld => ?_)
         clear hK K
         refine norm_ (a' := ?_) ?_ ?_
         rotate_left
         ·
          show Act.put _ (some 60) _ = _
          simp only [Act.put, put_x, i64_w, i32_w]
          rfl
         refine one_ (i := 31) (N := some 61) (bz 41 4294967295) rfl rfl (one_of HT_.out (by kernel_rfl)) (by decide) (fun K hK => ?_)
         refine goes_ Try.func26 (by kernel_rfl) rfl #[.slice Ao52 t255.length co52, .slice Ao53 y264.length co53] (by rfl) rfl rfl (by (try simp only [List.map_toArray, List.map_cons, List.map_nil]); first | done | rfl | (simp only [List.length_drop, List.length_take]; rfl)) ?_
         with_reducible refine (swarfkit_EqualInts.calls k _ _ t255 _ _ y264 true _ ?side1 ?side2 ?side3 ?side4 A16.out).mono ?_
         (case side1 => exact Kd.C_y (Kd.R_reads' HO257.out).2.2)
         (case side2 => exact (Kd.R_reads' HO257.out).2.1)
         (case side3 => exact Kd.C_y (Kd.R_reads' HO266.out).2.2)
         (case side4 => exact (Kd.R_reads' HO266.out).2.1)
         rintro e w' ⟨rfl, ⟨nd, rfl⟩⟩
         refine ⟨_, rfl, ?_⟩
         refine hK.out _ _ ⟨(blk_cell BK219.out 0).trans rfl, (blk_cell BK219.out 1).trans rfl, (blk_cell BK220.out 0).trans rfl, (blk_cell BK220.out 1).trans rfl⟩ (fun hHeld => ?_)
         clear hK K
         refine norm_ (a' := ?_) ?_ ?_
         rotate_left
         ·
          show Act.put _ (some 61) _ = _
          simp only [Act.put, put_x, i64_w, i32_w]
          rfl
         refine pure_ (i := 32) (N := some 62) (v := ?_) (a' := ?_) (bz 41 8589934591) rfl rfl (any_of HT_.out (by kernel_rfl)) (fun _ _ _ h => h) (Or.inl ⟨by rfl, ?_⟩) ?_ ?_
         rotate_left
         ·
          intro w'
          go_simp
          with_reducible rfl
         rotate_left
         ·
          simp only [Act.put, put_x, i64_w, i32_w]
          rfl
         refine pure_ (i := 33) (N := some 63) (v := ?_) (a' := ?_) (bz 41 17179869183) rfl rfl (any_of HT_.out (by kernel_rfl)) (fun _ _ _ h => h) (Or.inl ⟨by rfl, ?_⟩) ?_ ?_
         rotate_left
         ·
          intro w'
          go_simp
          with_reducible rfl
         rotate_left
         ·
          simp only [Act.put, put_x, i64_w, i32_w]
          rfl
         refine pure_ (i := 34) (N := some 64) (v := ?_) (a' := ?_) (bz 41 34359738367) rfl rfl (any_of HT_.out (by kernel_rfl)) (fun _ _ _ h => h) (Or.inl ⟨by rfl, ?_⟩) ?_ ?_
         rotate_left
         ·
          intro w'
          go_simp
          with_reducible rfl
         rotate_left
         ·
          simp only [Act.put, put_x, i64_w, i32_w]
          rfl
         refine one_ (i := 35) (N := some 65) (bz 41 68719476735) rfl rfl (one_of HT_.out (by kernel_rfl)) (by decide) (fun K hK => ?_)
         refine goes_ Try.func32 (by kernel_rfl) rfl #[.int .i64 90, .int .i64 100] (by rfl) rfl rfl (by (try simp only [List.map_toArray, List.map_cons, List.map_nil]); first | done | rfl | (simp only [List.length_drop, List.length_take]; rfl)) ?_
         with_reducible refine (swarflaw07_rng.calls 90 100 t268 t269 _ A18.out).mono ?_
         rintro e w54 ⟨rfl, hb⟩
         refine ⟨_, rfl, ?_⟩
         replace HO203 := Aside0.mk (Kd.R_below (Kd.R_x HO203.out) hb)
         replace HO207 := Aside0.mk (Kd.N_below (Kd.N_x HO207.out) hb)
         replace HO210 := Aside0.mk (Kd.R_below (Kd.R_x HO210.out) hb)
         replace HO213 := Aside0.mk (Kd.R_below (Kd.R_x HO213.out) hb)
         replace HO226 := Aside0.mk (Kd.R_below (Kd.R_x HO226.out) hb)
         replace HO230 := Aside0.mk (Kd.N_below (Kd.N_x HO230.out) hb)
         replace HO233 := Aside0.mk (Kd.R_below (Kd.R_x HO233.out) hb)
         replace HO236 := Aside0.mk (Kd.R_below (Kd.R_x HO236.out) hb)
         replace HO240 := Aside0.mk (Kd.R_below (Kd.R_x HO240.out) hb)
         replace HO247 := Aside0.mk (Kd.R_below (Kd.R_x HO247.out) hb)
         replace HO251 := Aside0.mk (Kd.N_below (Kd.N_x HO251.out) hb)
         replace HO254 := Aside0.mk (Kd.R_below (Kd.R_x HO254.out) hb)
         replace HO257 := Aside0.mk (Kd.R_below (Kd.R_x HO257.out) hb)
         replace HO266 := Aside0.mk (Kd.R_below (Kd.R_x HO266.out) hb)
         replace BK219 := Aside0.mk (blk_below (blk_x BK219.out) hb)
         replace BK220 := Aside0.mk (blk_below (blk_x BK220.out) hb)
         replace HB := bl_x HB hb
         (try clear hb)
         (try clear hb2)
         (try clear hk)
         (try clear hi)
         refine hK.out _ _ ⟨(blk_cell BK219.out 0).trans rfl, (blk_cell BK219.out 1).trans rfl, (blk_cell BK220.out 0).trans rfl, (blk_cell BK220.out 1).trans rfl⟩ (fun hHeld => ?_)
         clear hK K
         refine norm_ (a' := ?_) ?_ ?_
         rotate_left
         ·
          show Act.put _ (some 65) _ = _
          simp only [Act.put, put_x, i64_w, i32_w]
          rfl
         refine one_ (i := 36) (N := some 66) (bz 41 137438953471) rfl rfl (one_of HT_.out (by kernel_rfl)) (by decide) (fun K hK => ?_)
         refine goes_ Try.func32 (by kernel_rfl) rfl #[.int .i64 240, .int .i64 250] (by rfl) rfl rfl (by (try simp only [List.map_toArray, List.map_cons, List.map_nil]); first | done | rfl | (simp only [List.length_drop, List.length_take]; rfl)) ?_
         with_reducible refine (swarflaw07_rng.calls 240 250 t270 t271 _ A19.out).mono ?_
         rintro e w55 ⟨rfl, hb⟩
         refine ⟨_, rfl, ?_⟩
         replace HO203 := Aside0.mk (Kd.R_below (Kd.R_x HO203.out) hb)
         replace HO207 := Aside0.mk (Kd.N_below (Kd.N_x HO207.out) hb)
         replace HO210 := Aside0.mk (Kd.R_below (Kd.R_x HO210.out) hb)
         replace HO213 := Aside0.mk (Kd.R_below (Kd.R_x HO213.out) hb)
         replace HO226 := Aside0.mk (Kd.R_below (Kd.R_x HO226.out) hb)
         replace HO230 := Aside0.mk (Kd.N_below (Kd.N_x HO230.out) hb)
         replace HO233 := Aside0.mk (Kd.R_below (Kd.R_x HO233.out) hb)
         replace HO236 := Aside0.mk (Kd.R_below (Kd.R_x HO236.out) hb)
         replace HO240 := Aside0.mk (Kd.R_below (Kd.R_x HO240.out) hb)
         replace HO247 := Aside0.mk (Kd.R_below (Kd.R_x HO247.out) hb)
         replace HO251 := Aside0.mk (Kd.N_below (Kd.N_x HO251.out) hb)
         replace HO254 := Aside0.mk (Kd.R_below (Kd.R_x HO254.out) hb)
         replace HO257 := Aside0.mk (Kd.R_below (Kd.R_x HO257.out) hb)
         replace HO266 := Aside0.mk (Kd.R_below (Kd.R_x HO266.out) hb)
         replace BK219 := Aside0.mk (blk_below (blk_x BK219.out) hb)
         replace BK220 := Aside0.mk (blk_below (blk_x BK220.out) hb)
         replace HB := bl_x HB hb
         (try clear hb)
         (try clear hb2)
         (try clear hk)
         (try clear hi)
         refine hK.out _ _ ⟨(blk_cell BK219.out 0).trans rfl, (blk_cell BK219.out 1).trans rfl, (blk_cell BK220.out 0).trans rfl, (blk_cell BK220.out 1).trans rfl⟩ (fun hHeld => ?_)
         clear hK K
         refine norm_ (a' := ?_) ?_ ?_
         rotate_left
         ·
          show Act.put _ (some 66) _ = _
          simp only [Act.put, put_x, i64_w, i32_w]
          rfl
         refine one_ (i := 37) (N := some 67) (bz 41 274877906943) rfl rfl (one_of HT_.out (by kernel_rfl)) (by decide) (fun K hK => ?_)
         refine Kd.R_lit_step k56 _ 56 ?hg (N := 67) ?hd (xs := ([(⟨t268, t269⟩ : S56), (⟨t270, t271⟩ : S56)] : List (S56))) (inner := [.int .i64 t268, .int .i64 t269, .int .i64 t270, .int .i64 t271]) (ok := fun _ => True) (okp := fun _ => True) ?hr ?hp (fun _ hk => hk) trivial (Below.refl _ _) (Nat.le_refl _) (by simp) ?_; (case hd => rfl); (case hg => rfl); (case hr => first | (go_simp; done) | (go_simp; rfl)); (case hp => exact (Reps.c2 (show Kd.M k56 _ _ _ (⟨t268, t269⟩ : S56) [.int .i64 t268, .int .i64 t269] from (k56_mkM _ _ _ (⟨t268, t269⟩ : S56) )) (Reps.c2 (show Kd.M k56 _ _ _ (⟨t270, t271⟩ : S56) [.int .i64 t270, .int .i64 t271] from (k56_mkM _ _ _ (⟨t270, t271⟩ : S56) )) (Reps.none _ _))))
         intro v273 w56 ho57 hb hg_ hnew_
         clear hg_ hnew_
         (first | rw [← Ny272.out] at ho57 | (simp only [Int.reduceToNat] at ho57; rw [← Ny272.out] at ho57))
         replace HO203 := Aside0.mk (Kd.R_below (Kd.R_x HO203.out) hb)
         replace HO207 := Aside0.mk (Kd.N_elder' (Kd.N_x HO207.out) (Kd.R_base ho57) hb)
         replace HO210 := Aside0.mk (Kd.R_below (Kd.R_x HO210.out) hb)
         replace HO213 := Aside0.mk (Kd.R_below (Kd.R_x HO213.out) hb)
         replace HO226 := Aside0.mk (Kd.R_below (Kd.R_x HO226.out) hb)
         replace HO230 := Aside0.mk (Kd.N_elder' (Kd.N_x HO230.out) (Kd.R_base ho57) hb)
         replace HO233 := Aside0.mk (Kd.R_below (Kd.R_x HO233.out) hb)
         replace HO236 := Aside0.mk (Kd.R_below (Kd.R_x HO236.out) hb)
         replace HO247 := Aside0.mk (Kd.R_below (Kd.R_x HO247.out) hb)
         replace HO251 := Aside0.mk (Kd.N_elder' (Kd.N_x HO251.out) (Kd.R_base ho57) hb)
         replace HO254 := Aside0.mk (Kd.R_below (Kd.R_x HO254.out) hb)
         replace HO257 := Aside0.mk (Kd.R_below (Kd.R_x HO257.out) hb)
         replace HO266 := Aside0.mk (Kd.R_below (Kd.R_x HO266.out) hb)
         have HO274 := Aside0.mk (Kd.R_lower (Kd.R_newB (Kd.R_newB (Kd.R_new' ho57 (Kd.R_lt (Kd.R_x HO240.out))) (g := gb219) (o := .cells #[.int .i64 t214, .int .i64 t215] 56 (0, 0)) (blk_x BK219.out)) (g := gb220) (o := .cells #[.int .i64 t216, .int .i64 t217] 56 (0, 0)) (blk_x BK220.out)) (below_size (by exact below_y HB.out)))
         replace HO240 := Aside0.mk (Kd.R_elder' (Kd.R_x HO240.out) (Kd.R_base ho57) hb)
         replace BK219 := Aside0.mk (blk_below (blk_x BK219.out) hb)
         replace BK220 := Aside0.mk (blk_below (blk_x BK220.out) hb)
         replace HB := bl_x HB hb
         clear hb ho57
         obtain ⟨Ao58, co58, eo58⟩ := Kd.R_slice HO240.out
         (first | subst eo58 | (injection eo58 with f1_ f2_ f3_; have f4_ := f1_.symm; have f5_ := f3_.symm; clear f1_ f2_ f3_; subst f4_; subst f5_))
         obtain ⟨Ao59, co59, eo59⟩ := Kd.R_slice HO274.out
         (first | subst eo59 | (injection eo59 with f1_ f2_ f3_; have f4_ := f1_.symm; have f5_ := f3_.symm; clear f1_ f2_ f3_; subst f4_; subst f5_))
         refine hK.out _ _ ⟨(blk_cell BK219.out 0).trans rfl, (blk_cell BK219.out 1).trans rfl, (blk_cell BK220.out 0).trans rfl, (blk_cell BK220.out 1).trans rfl⟩ (fun hHeld => ?_)
         clear hK K
         refine norm_ (a' := ?_) ?_ ?_
         rotate_left
         ·
          show Act.put _ (some 67) _ = _
          simp only [Act.put, put_x, i64_w, i32_w]
          rfl
         refine one_ (i := 38) (N := some 68) (bz 41 549755813887) rfl rfl (one_of HT_.out (by kernel_rfl)) (by decide) (fun K hK => ?_)
         refine goes_ Try.func24 (by kernel_rfl) rfl #[.slice Ao58 t238.length co58, .slice Ao59 y272.length co59] (by rfl) rfl rfl (by (try simp only [List.map_toArray, List.map_cons, List.map_nil]); first | done | rfl | (simp only [List.length_drop, List.length_take]; rfl)) ?_
         with_reducible refine (swarfkit_EqualRanges.calls k _ _ t238 _ _ y272 t275 _ ?side1 ?side2 ?side3 ?side4 A20.out).mono ?_
         (case side1 => exact Kd.C_y (Kd.R_reads' HO240.out).2.2)
         (case side2 => exact (Kd.R_reads' HO240.out).2.1)
         (case side3 => exact Kd.C_y (Kd.R_reads' HO274.out).2.2)
         (case side4 => exact (Kd.R_reads' HO274.out).2.1)
         rintro e w' ⟨rfl, ⟨nd, rfl⟩⟩
         refine ⟨_, rfl, ?_⟩
         refine hK.out _ _ ⟨(blk_cell BK219.out 0).trans rfl, (blk_cell BK219.out 1).trans rfl, (blk_cell BK220.out 0).trans rfl, (blk_cell BK220.out 1).trans rfl⟩ (fun hHeld => ?_)
         clear hK K
         refine norm_ (a' := ?_) ?_ ?_
         rotate_left
         ·
          show Act.put _ (some 68) _ = _
          simp only [Act.put, put_x, i64_w, i32_w]
          rfl
         refine pure_ (i := 39) (N := some 69) (v := ?_) (a' := ?_) (bz 41 1099511627775) rfl rfl (any_of HT_.out (by kernel_rfl)) (fun _ _ _ h => h) (Or.inl ⟨by rfl, ?_⟩) ?_ ?_
         rotate_left
         ·
          intro w'
          go_simp
          with_reducible rfl
         rotate_left
         ·
          simp only [Act.put, put_x, i64_w, i32_w]
          rfl
         refine pure_ (i := 40) (N := some 0) (v := ?_) (a' := ?_) (bz 41 2199023255551) rfl rfl (any_of HT_.out (by kernel_rfl)) (fun _ _ _ h => h) (Or.inl ⟨by rfl, ?_⟩) ?_ ?_
         rotate_left
         ·
          intro w'
          go_simp
          with_reducible rfl
         rotate_left
         ·
          simp only [Act.put, put_x, i64_w, i32_w]
          rfl
         refine done_ (done_of HT_.out (by kernel_rfl)) ?_
         try go_wp2
         go_ret
         exact ⟨by first | rfl | (simp [errW_none, errW_some] <;> rfl) | (simp [*, errW_none, errW_some] <;> rfl), by exact below_y HB.out⟩
        ·
         replace c17 := Bool.eq_false_iff.mpr c17
         subst c17
         have H1 : (some false) = some r := by rw [if_neg (show ¬ (false = true) by decide)] at H; exact H
         clear H
         have H := H1
         clear H1
         exact absurd ((Option.some.inj H).trans hrt.out) (by decide)
       ·
        rw [if_neg c15] at H
        have c15b0 : (t258 == 95) = false := beq_eq_false_iff_ne.mpr c15
        have c15b1 : (t258 != 95) = true := bne_iff_ne.mpr c15
        exact absurd ((Option.some.inj H).trans hrt.out) (by decide)
      ·
       rw [if_neg c14] at H
       have c14b0 : (t237 == 1) = false := beq_eq_false_iff_ne.mpr c14
       have c14b1 : (t237 != 1) = true := bne_iff_ne.mpr c14
       exact absurd ((Option.some.inj H).trans hrt.out) (by decide)
     ·
      rw [if_neg c13] at H
      have c13b0 : (t216 == t262 && (t217 == t263)) = false := by simpa using c13
      (try (have c13b1 : decide (t216 = t262 && (t217 == t263)) = false := by simpa using c13))
      (try (have c13b2 : (t216 == t262 && (t217 == t263)) = false := by simpa using c13))
      (try (have c13b3 : ¬ (t216 = t262 && (t217 == t263)) := by simpa using c13))
      clear c13
      exact absurd ((Option.some.inj H).trans hrt.out) (by decide)
    ·
     rw [if_neg c11] at H
     have c11b0 : (t214 == t260 && (t215 == t261)) = false := by simpa using c11
     (try (have c11b1 : decide (t214 = t260 && (t215 == t261)) = false := by simpa using c11))
     (try (have c11b2 : (t214 == t260 && (t215 == t261)) = false := by simpa using c11))
     (try (have c11b3 : ¬ (t214 = t260 && (t215 == t261)) := by simpa using c11))
     clear c11
     exact absurd ((Option.some.inj H).trans hrt.out) (by decide)
   ·
    rw [if_neg c9] at H
    have c9b0 : (t259 == 0) = false := beq_eq_false_iff_ne.mpr c9
    have c9b1 : (t259 != 0) = true := bne_iff_ne.mpr c9
    exact absurd ((Option.some.inj H).trans hrt.out) (by decide)
  ·
   rw [if_neg c8] at H
   have c8b0 : (t241 == 0) = false := beq_eq_false_iff_ne.mpr c8
   have c8b1 : (t241 != 0) = true := bne_iff_ne.mpr c8
   exact absurd ((Option.some.inj H).trans hrt.out) (by decide)
 ·
  rw [if_neg c7] at H
  have c7b0 : (t218 == 0) = false := beq_eq_false_iff_ne.mpr c7
  have c7b1 : (t218 != 0) = true := bne_iff_ne.mpr c7
  exact absurd ((Option.some.inj H).trans hrt.out) (by decide)
mutual
def swarfkit_StowageOf.l0 : Nat → List Int → List Int → Int → Int → Int → Int → Int → List (S85) → Int → List (S59) → List (S79) → Option (List Int × Int)
 | 0, _, _, _, _, _, _, _, _, _, _, _ => none
 | k + 1, x5, x6, x7, x1000, x363000, x363001, x363002, x363003, x363004, x363005, x363006 => if x7 < (x363006.length : Int) then ((swarfkit_Feed_Between.f x1000 (-1) (wrap64 ((x363003.length : Int) - 1))).bind fun bt366 => (if bt366.1 ≥ 0 then (if 0 ≤ bt366.1 then (if bt366.1 < (x6.length : Int) then (if 0 ≤ x7 then (if bt366.1 < (x363003.length : Int) then (swarfkit_StowageOf.j1 k x5 x6 x7 bt366.1 (decide ((wrap64 ((rd x6 bt366.1) + ((rd_T79 x363006 x7).f0.f1))) > ((rd_T85 x363003 bt366.1).f0))) bt366.2 x363000 x363001 x363002 x363003 x363004 x363005 x363006) else (none)) else (none)) else (none)) else (none)) else (swarfkit_StowageOf.j1 k x5 x6 x7 bt366.1 false bt366.2 x363000 x363001 x363002 x363003 x363004 x363005 x363006))) else (some (x5, x1000))
def swarfkit_StowageOf.j1 : Nat → List Int → List Int → Int → Int → Bool → Int → Int → Int → Int → List (S85) → Int → List (S59) → List (S79) → Option (List Int × Int)
 | 0, _, _, _, _, _, _, _, _, _, _, _, _, _ => none
 | k + 1, x5, x6, x7, x8, x48, x1000, x363000, x363001, x363002, x363003, x363004, x363005, x363006 => if x48 = true then (if (-1) ≥ 0 then (if 0 ≤ (-1) then (if (-1) < (x6.length : Int) then (if 0 ≤ x7 then (if x7 < (x363006.length : Int) then (if x5.length < 17592186044416 then (swarfkit_StowageOf.l0 k (x5 ++ [(-1)]) (x6.set ((-1) : Int).toNat (wrap64 ((rd x6 (-1)) + ((rd_T79 x363006 x7).f0.f1)))) (wrap64 (x7 + 1)) x1000 x363000 x363001 x363002 x363003 x363004 x363005 x363006) else (none)) else (none)) else (none)) else (none)) else (none)) else (if x5.length < 17592186044416 then (swarfkit_StowageOf.l0 k (x5 ++ [(-1)]) x6 (wrap64 (x7 + 1)) x1000 x363000 x363001 x363002 x363003 x363004 x363005 x363006) else (none))) else (if x8 ≥ 0 then (if 0 ≤ x8 then (if x8 < (x6.length : Int) then (if 0 ≤ x7 then (if x7 < (x363006.length : Int) then (if x5.length < 17592186044416 then (swarfkit_StowageOf.l0 k (x5 ++ [x8]) (x6.set (x8 : Int).toNat (wrap64 ((rd x6 x8) + ((rd_T79 x363006 x7).f0.f1)))) (wrap64 (x7 + 1)) x1000 x363000 x363001 x363002 x363003 x363004 x363005 x363006) else (none)) else (none)) else (none)) else (none)) else (none)) else (if x5.length < 17592186044416 then (swarfkit_StowageOf.l0 k (x5 ++ [x8]) x6 (wrap64 (x7 + 1)) x1000 x363000 x363001 x363002 x363003 x363004 x363005 x363006) else (none)))
end
def swarfkit_StowageOf.f (k : Nat) (s0_0 : Int) (a1_0 : Int) (a1_1 : Int) (a1_2 : Int) (l1_3 : List (S85)) (a1_4 : Int) (l1_5 : List (S59)) (l1_6 : List (S79)) : Option (List Int × Int) := if 0 ≤ (l1_3.length : Int) then (if ((l1_3.length : Int) : Int).toNat ≤ 35184372088832 then (swarfkit_StowageOf.l0 k ([] : List Int) (List.replicate ((l1_3.length : Int) : Int).toNat 0) 0 s0_0 a1_0 a1_1 a1_2 l1_3 a1_4 l1_5 l1_6) else (none)) else (none)
def swarfkit_StowageOf.T7 : Bool × List (List Nat × List Nat) := (true, [([], []), ([0], [0]), ([1], [1]), ([2], [2]), ([2], [2]), ([3, 4, 2], [2, 3, 4]), ([5, 2], [2, 5]), ([2], [2]), ([7, 2], [2, 7]), ([2], [2]), ([8, 9, 2], [2, 8, 9]), ([10, 2], [2, 10]), ([11, 2], [2, 11]), ([12, 2], [2, 12]), ([6, 13, 2], [2, 6, 13]), ([2], [2]), ([15, 2], [2, 15]), ([2], [2]), ([16, 17, 2], [2, 16, 17]), ([18, 2], [2, 18]), ([19, 2], [2, 19]), ([14, 20, 2], [2, 14, 20]), ([2, 21], [2, 21])])
def swarfkit_StowageOf.B7 : List Nat := [0, 1, 3, 7, 7, 31, 63, 7, 135, 7, 903, 1927, 3975, 8071, 16383, 7, 32775, 7, 229383, 491527, 1015815, 2097151, 4194303]
theorem swarfkit_StowageOf.tab7 : rtab .any (opsOf Try.f19 7) = swarfkit_StowageOf.T7 := by kernel_rfl
theorem swarfkit_StowageOf.bits7 : waitsOk swarfkit_StowageOf.T7.2 swarfkit_StowageOf.B7 = true := by kernel_rfl
def swarfkit_StowageOf.T10 : Bool × List (List Nat × List Nat) := (true, [([], []), ([], []), ([], []), ([], []), ([2, 3], [2, 3]), ([4], [4]), ([], []), ([6], [6]), ([], []), ([7, 8], [7, 8]), ([9], [9]), ([10], [10]), ([11], [11]), ([5, 12], [5, 12]), ([0, 1, 0, 1, 2, 3, 4, 5, 6, 7, 8, 9, 10, 11, 12, 13], [0, 1]), ([14, 13, 0, 1, 2, 3, 4, 5, 6, 7, 8, 9, 10, 11, 12, 13], [13, 14])])
def swarfkit_StowageOf.B10 : List Nat := [0, 0, 0, 0, 12, 28, 0, 64, 0, 448, 960, 1984, 4032, 8188, 16383, 32767]
theorem swarfkit_StowageOf.tab10 : rtab .any (opsOf Try.f19 10) = swarfkit_StowageOf.T10 := by kernel_rfl
theorem swarfkit_StowageOf.bits10 : waitsOk swarfkit_StowageOf.T10.2 swarfkit_StowageOf.B10 = true := by kernel_rfl
set_option maxHeartbeats 8000000 in
set_option maxRecDepth 100000 in
theorem swarfkit_StowageOf.calls (k : Nat) (g : Nat) (s0_0 : Int) (a1_0 : Int) (a1_1 : Int) (a1_2 : Int) (A1_3 : Option Addr) (c1_3 : Nat) (l1_3 : List (S85)) (a1_4 : Int) (A1_5 : Option Addr) (c1_5 : Nat) (l1_5 : List (S59)) (A1_6 : Option Addr) (c1_6 : Nat) (l1_6 : List (S79)) (r1 : List Int) (r2 : Int) (w0 w : World) (hI : IsS90 w0 w g s0_0) (hB : Below w0.heap.size w0 w) (hr1_3 : ∀ W_, KeepBut w W_ g none → Kd.C k85 W_ A1_3 l1_3.length l1_3) (hc1_3 : l1_3.length ≤ c1_3) (hr1_5 : ∀ W_, KeepBut w W_ g none → Kd.C k59 W_ A1_5 l1_5.length l1_5) (hc1_5 : l1_5.length ≤ c1_5) (hr1_6 : ∀ W_, KeepBut w W_ g none → Kd.C k79 W_ A1_6 l1_6.length l1_6) (hc1_6 : l1_6.length ≤ c1_6) (h : swarfkit_StowageOf.f k s0_0 a1_0 a1_1 a1_2 l1_3 a1_4 l1_5 l1_6 = some (r1, r2)) :
  Calls Try.prog 19 #[.pointer (some ⟨g, 0, none⟩), .agg #[.int .i64 a1_0, .int .i64 a1_1, .int .i64 a1_2, .slice A1_3 l1_3.length c1_3, .int .i64 a1_4, .slice A1_5 l1_5.length c1_5, .slice A1_6 l1_6.length c1_6]] w fun e w' => ∃ v0_ : Value, e = .returned (v0_) ∧ Kd.R (Kd.int .i64) 3 w' w.heap.size (fun _ => True) v0_ r1 ∧ IsS90 w0 w' g r2 ∧ Below w0.heap.size w0 w' ∧ KeepBut w w' g none := by
 have hu26 := Try.underlying26
 have HR1_3 := Aside0.mk hr1_3
 have HC1_3 := Aside0.mk hc1_3
 clear hr1_3 hc1_3
 have HR1_5 := Aside0.mk hr1_5
 have HC1_5 := Aside0.mk hc1_5
 clear hr1_5 hc1_5
 have HR1_6 := Aside0.mk hr1_6
 have HC1_6 := Aside0.mk hc1_6
 clear hr1_6 hc1_6
 have HI0 := Aside0.mk hI
 have HK := Aside0.mk (KeepBut.refl w g none)
 have HL := Aside0.mk hB.size
 clear hI
 have HW0 := Aside0.mk hB.size
 have HB := Aside0.mk hB
 clear hB
 have H : (if 0 ≤ (l1_3.length : Int) then (if ((l1_3.length : Int) : Int).toNat ≤ 35184372088832 then (swarfkit_StowageOf.l0 k ([] : List Int) (List.replicate ((l1_3.length : Int) : Int).toNat 0) 0 s0_0 a1_0 a1_1 a1_2 l1_3 a1_4 l1_5 l1_6) else (none)) else (none)) = some (r1, r2) := h
 clear h
 by_cases c3 : 0 ≤ (l1_3.length : Int)
 ·
  rw [if_pos c3] at H
  have c3b0 := eq_true c3
  have c3b1 : decide (0 ≤ (l1_3.length : Int)) = true := decide_eq_true c3
  clear c3
  by_cases c4 : ((l1_3.length : Int) : Int).toNat ≤ 35184372088832
  ·
   rw [if_pos c4] at H
   have c4b0 := eq_true c4
   have c4b1 : decide (((l1_3.length : Int) : Int).toNat ≤ 35184372088832) = true := decide_eq_true c4
   clear c4
   obtain ⟨y363, hy363⟩ : ∃ y_ : List Int, y_ = (List.replicate ((l1_3.length : Int) : Int).toNat 0) := ⟨_, rfl⟩
   replace H : (swarfkit_StowageOf.l0 k ([] : List Int) y363 0 s0_0 a1_0 a1_1 a1_2 l1_3 a1_4 l1_5 l1_6) = some (r1, r2) := by first | (rw [hy363]; with_reducible exact H) | (have H2_ := (Option.bind_some _ _).symm.trans H; rw [hy363]; with_reducible exact H2_) | (have H2_ := (Option.bind_some _ _).symm.trans H; with_reducible exact H2_) | with_reducible exact H | (rw [hy363]; exact H) | exact H
   have Ny363 := Aside0.mk hy363
   clear hy363
   have H' := Aside0.mk H
   clear H
   go_enter Try.func19, Try.ntmps19
   go_wp2_with (first | ((with_reducible refine gate_dst (N := 3) rfl ?_); refine box_event ?hg (N := 3) ?hd (cs := #[.int .i64 a1_0, .int .i64 a1_1, .int .i64 a1_2, .slice A1_3 l1_3.length c1_3, .int .i64 a1_4, .slice A1_5 l1_5.length c1_5, .slice A1_6 l1_6.length c1_6]) (t := 26) ?hr ?_; (case hd => rfl); (case hg => rfl); (case hr => first | (go_simp; done) | (go_simp; rfl)); intro gb362 hg w5 hbox hb; replace HB := bl_x HB hb; have BK362 := Aside0.mk (hbox); have GW362 := Aside0.mk ((by rw [hg]; exact (keep_size (w := w) (g := g) (row := none) (by exact keep_y HK.out)) : w.heap.size ≤ gb362)); have GE362 := Aside0.mk ((Nat.le_trans HW0.out (by rw [hg]; exact (keep_size (w := w) (g := g) (row := none) (by exact keep_y HK.out)) : w.heap.size ≤ gb362) : w0.heap.size ≤ gb362)); replace HK := Aside0.mk (KeepBut.trans (by exact keep_y HK.out) (KeepBut.of_below hb g none) (.inl rfl)); have NB0_362 := Aside0.mk ((by rw [hg]; exact Nat.ne_of_lt (IsS90.lt (show IsS90 w0 _ g s0_0 from by exact IsS90.up HI0.out)) : g ≠ gb362)); have NB362_0 := Aside0.mk ((by rw [hg]; exact Nat.ne_of_gt (IsS90.lt (show IsS90 w0 _ g s0_0 from by exact IsS90.up HI0.out)) : gb362 ≠ g)); replace HI0 := Aside0.mk (IsS90.below (by exact IsS90.up HI0.out) hb); clear hb hbox hg; have hnb6 := NB362_0.out; have hnc6 := NB0_362.out; obtain ⟨_, _, _, _, _, _, _⟩ := cz7 BK362; have hfz7_0 := blk_frozen BK362.out) | ((with_reducible refine gate_dst (N := 12) rfl ?_); refine Kd.R_make (Kd.int .i64) _ 3 rfl (N := 12) rfl 27 _ _ rfl (l1_3.length : Int) rfl rfl Try.underlying27 (.int .i64 0) 8 info3 rfl (by decide) (by omega) 0 (ok := fun _ => True) (okp := fun _ => True) rfl (fun _ hk => hk) trivial (of_x) (Nat.le_trans (Nat.mul_le_mul_right _ (of_x : (l1_3.length : Int).toNat ≤ 35184372088832)) (by omega)) (Below.refl _ _) (Nat.le_refl _) ?_; intro v364 w8 ho9 hb hg_ hnew_; clear hg_ hnew_; (first | rw [← Ny363.out] at ho9 | (simp only [Int.reduceToNat] at ho9; rw [← Ny363.out] at ho9)); have HO365 := Aside0.mk (Kd.R_lower ho9 (keep_size (w := w) (g := g) (row := none) (by exact keep_y HK.out))); replace HI0 := Aside0.mk (IsS90.below (by exact IsS90.up HI0.out) hb); replace BK362 := Aside0.mk (blk_below (blk_x BK362.out) hb); replace HK := Aside0.mk (KeepBut.trans (by exact keep_y HK.out) (KeepBut.of_below hb g none) (.inl rfl)); replace HB := bl_x HB hb; clear hb ho9))
   go_loopg [5, 7] k (fun kq v5 v7 w' => ∃ (x5_1 : List Int) (x6_1 : List Int) (x7_1 : Int) (x1000_1 : Int), v7 = .int .i64 x7_1 ∧ Aside0 (swarfkit_StowageOf.l0 kq x5_1 x6_1 x7_1 x1000_1 a1_0 a1_1 a1_2 l1_3 a1_4 l1_5 l1_6 = some (r1, r2)) ∧ Aside0 (kq ≤ k) ∧ Aside0 (Kd.R (Kd.int .i64) 3 w' w.heap.size (fun k_ => some k_ ≠ (v364 : Value).ownBlock) v5 x5_1) ∧ Aside0 (Kd.R (Kd.int .i64) 3 w' w.heap.size (fun k_ => some k_ ≠ (v5 : Value).ownBlock) v364 x6_1) ∧ Aside0 (w'.heap[gb362]? = some (.cells #[.int .i64 a1_0, .int .i64 a1_1, .int .i64 a1_2, (.slice A1_3 l1_3.length c1_3), .int .i64 a1_4, (.slice A1_5 l1_5.length c1_5), (.slice A1_6 l1_6.length c1_6)] 26 (0, 0))) ∧ Aside0 (IsS90 w0 w' g x1000_1) ∧ Aside0 (KeepBut w w' g none) ∧ Aside0 (Below w0.heap.size w0 w'))
   case atStart => exact ⟨(([] : List Int)), (y363), (0), (s0_0), (by first | rfl | (simp; done) | (simp [*]; done)), H', ⟨Nat.le_refl _⟩, ⟨by first | exact Kd.R_nil _ _ _ _ _ | exact Kd.N_nil _ _ _ _ _ | exact Kd.V_nil _ _ _ _ _ | exact Kd.Q_nil _ _ _ _ _ | exact Kd.S_nil _ _ _ _ _⟩, ⟨by (with_reducible repeat (first | apply Kd.R_alloc | apply Kd.R_drewN | apply Kd.R_drew)); exact Kd.R_mono HO365.out (fun _ hk => (by simp [Value.ownBlock]))⟩, ⟨blk_x BK362.out⟩, ⟨by exact IsS90.up HI0.out⟩, ⟨by exact keep_y HK.out⟩, ⟨by exact below_y HB.out⟩⟩
   case round =>
    clear H'
    obtain ⟨x5_1, x6_1, x7_1, x1000_1, rfl, HA, HK1, HO_5, HO_6, BK362, HI0, HK, HB⟩ := hrel
    cases gk with
    | zero => exact absurd HA.out (by simp [swarfkit_StowageOf.l0])
    | succ k1 =>
     have H := HA.out
     clear HA
     simp only [swarfkit_StowageOf.l0] at H
     by_cases c10 : x7_1 < (l1_6.length : Int)
     ·
      rw [if_pos c10] at H
      have c10b0 : decide (x7_1 < (l1_6.length : Int)) = true := decide_eq_true c10
      clear c10
      replace H := Option.bind_eq_some_iff.mp H
      obtain ⟨⟨t366, t367⟩, A110, H⟩ := H
      try dsimp only at H
      have A11 := Aside0.mk A110
      clear A110
      have HC12 := Aside0.mk H
      clear H
      have hnb13 := NB362_0.out
      have hnc13 := NB0_362.out
      obtain ⟨_, _, _, _, _, _, _⟩ := cz7 BK362
      have hfz14_0 := blk_frozen BK362.out
      go_upto_region 7 with (first | ((with_reducible refine gate_callee (f := 31) rfl ?_); refine goesL_ (some 25) rfl rfl Try.func31 (by kernel_rfl) rfl #[.pointer (some ⟨g, 0, none⟩), .int .i64 (-1), .int .i64 (wrap64 ((l1_3.length : Int) - 1))] rfl (by (try simp only [List.map_toArray, List.map_cons, List.map_nil]); first | done | rfl | (simp only [List.length_drop, List.length_take]; rfl)) ?_; (with_reducible refine (swarfkit_Feed_Between.calls g x1000_1 (-1) (wrap64 ((l1_3.length : Int) - 1)) t366 t367 w0 _ ?side1 ?side2 A11.out).mono ?_); (case side1 => exact IsS90.up HI0.out); (case side2 => exact below_y HB.out); rintro e w15 ⟨rfl, hi, hb, hk⟩; refine ⟨_, rfl, ?_⟩; replace HO_5 := Aside0.mk (Kd.R_mono (Kd.R_keep (IsS90.apart (show IsS90 w0 _ g x1000_1 from by exact IsS90.up HI0.out) (Kd.R_x HO_5.out) (by decide)) hk (fun _ h => h.2)) (fun _ h => h.1)); replace HO_6 := Aside0.mk (Kd.R_mono (Kd.R_keep (IsS90.apart (show IsS90 w0 _ g x1000_1 from by exact IsS90.up HI0.out) (Kd.R_x HO_6.out) (by decide)) hk (fun _ h => h.2)) (fun _ h => h.1)); replace BK362 := Aside0.mk (KeepBut.blk hk (blk_x BK362.out) NB362_0.out (by simp)); replace HK := Aside0.mk (KeepBut.trans (by exact keep_y HK.out) hk (.inl rfl)); replace HB := Aside0.mk (hb); replace HI0 := Aside0.mk (hi); (try clear hb); (try clear hk); (try clear hi)))
      (try simp only [Act.put, put_x])
      go_cut [48] (fun v48 wc => ∃ (kq : Nat) (x48_11 : Bool), v48 = .bool x48_11 ∧ Aside0 (swarfkit_StowageOf.j1 kq x5_1 x6_1 x7_1 t366 x48_11 t367 a1_0 a1_1 a1_2 l1_3 a1_4 l1_5 l1_6 = some (r1, r2)) ∧ Aside0 (kq ≤ k1) ∧ Aside0 (Kd.R (Kd.int .i64) 3 wc w.heap.size (fun k_ => some k_ ≠ (v364 : Value).ownBlock) u5 x5_1) ∧ Aside0 (Kd.R (Kd.int .i64) 3 wc w.heap.size (fun k_ => some k_ ≠ (u5 : Value).ownBlock) v364 x6_1) ∧ Aside0 (wc.heap[gb362]? = some (.cells #[.int .i64 a1_0, .int .i64 a1_1, .int .i64 a1_2, (.slice A1_3 l1_3.length c1_3), .int .i64 a1_4, (.slice A1_5 l1_5.length c1_5), (.slice A1_6 l1_6.length c1_6)] 26 (0, 0))) ∧ Aside0 (IsS90 w0 wc g t367) ∧ Aside0 (KeepBut w wc g none) ∧ Aside0 (Below w0.heap.size w0 wc))
      case first =>
       have H := HC12.out
       clear HC12
       by_cases c16 : t366 ≥ 0
       ·
        rw [if_pos c16] at H
        have c16b0 : decide (0 ≤ t366) = true := decide_eq_true c16
        clear c16
        (first | rw [c16b0] | (simp only [i64_w, i32_w]; rw [c16b0]) | skip)
        by_cases c17 : 0 ≤ t366
        ·
         rw [if_pos c17] at H
         have c17b0 : decide (0 ≤ t366) = true := decide_eq_true c17
         clear c17
         by_cases c18 : t366 < (x6_1.length : Int)
         ·
          rw [if_pos c18] at H
          have c18b0 : decide (t366 < (x6_1.length : Int)) = true := decide_eq_true c18
          clear c18
          by_cases c19 : 0 ≤ x7_1
          ·
           rw [if_pos c19] at H
           have c19b0 : decide (0 ≤ x7_1) = true := decide_eq_true c19
           clear c19
           by_cases c20 : t366 < (l1_3.length : Int)
           ·
            rw [if_pos c20] at H
            have c20b0 : decide (t366 < (l1_3.length : Int)) = true := decide_eq_true c20
            clear c20
            have H' := Aside0.mk H
            clear H
            try go_wp2
            replace HO_5 := Aside0.mk (Kd.R_drew HO_5.out)
            replace HO_6 := Aside0.mk (Kd.R_drew HO_6.out)
            replace BK362 := Aside0.mk (blk_drew BK362.out)
            replace HI0 := Aside0.mk (IsS90.drew HI0.out)
            replace HK := Aside0.mk (keep_drew HK.out)
            replace HB := Aside0.mk (below_drew1 HB.out)
            obtain ⟨Ao22, co22, eo22⟩ := Kd.R_slice HO_6.out
            (first | subst eo22 | (injection eo22 with f1_ f2_ f3_; have f4_ := f1_.symm; have f5_ := f3_.symm; clear f1_ f2_ f3_; subst f4_; subst f5_))
            have p368 : 0 ≤ (t366 : Int) := of_x
            have q368 : t366 < (x6_1.length : Int) := of_x
            obtain ⟨ad368, e368, hx368_0⟩ := Kd.at_int (Kd.R_reads' HO_6.out).2.2 t366 p368 q368
            cases e368
            replace p368 := eq_true p368
            replace q368 := eq_true q368
            have p369 : 0 ≤ (x7_1 : Int) := of_x
            have q369 : x7_1 < (l1_6.length : Int) := of_x
            obtain ⟨ad369, e369, hx369_0, hx369_1, hx369_2⟩ := at_T79 (Kd.C_foot_now HR1_6.out HK.out) x7_1 p369 q369
            have hw369_2 := hx369_2
            have hw369_1 := hx369_1
            have hw369_0 := hx369_0
            cases e369
            have hne369_2 := (show (⟨(ad369.add ((x7_1).toNat * 3)).block, (ad369.add ((x7_1).toNat * 3)).off + 2, none⟩ : Addr).block ≠ g from by first | (rw [add_block]; exact Kd.foot_ne HR1_6.out (by omega) (by decide)) | (show (Addr.add _ _).block ≠ _; rw [add_block]; exact Kd.foot_ne HR1_6.out (by omega) (by decide)) | exact Kd.foot_ne HR1_6.out (by omega) (by decide) | (dsimp only; exact Kd.foot_ne HR1_6.out (by omega) (by decide)))
            have hlt369_2 := (Kd.foot_lt HR1_6.out (by omega) (by decide))
            have hne369_1 := (show (⟨(ad369.add ((x7_1).toNat * 3)).block, (ad369.add ((x7_1).toNat * 3)).off + 1, none⟩ : Addr).block ≠ g from by first | (rw [add_block]; exact Kd.foot_ne HR1_6.out (by omega) (by decide)) | (show (Addr.add _ _).block ≠ _; rw [add_block]; exact Kd.foot_ne HR1_6.out (by omega) (by decide)) | exact Kd.foot_ne HR1_6.out (by omega) (by decide) | (dsimp only; exact Kd.foot_ne HR1_6.out (by omega) (by decide)))
            have hlt369_1 := (Kd.foot_lt HR1_6.out (by omega) (by decide))
            have hne369_0 := (show ((ad369.add ((x7_1).toNat * 3)) : Addr).block ≠ g from by first | (rw [add_block]; exact Kd.foot_ne HR1_6.out (by omega) (by decide)) | (show (Addr.add _ _).block ≠ _; rw [add_block]; exact Kd.foot_ne HR1_6.out (by omega) (by decide)) | exact Kd.foot_ne HR1_6.out (by omega) (by decide) | (dsimp only; exact Kd.foot_ne HR1_6.out (by omega) (by decide)))
            have hlt369_0 := (Kd.foot_lt HR1_6.out (by omega) (by decide))
            replace p369 := eq_true p369
            replace q369 := eq_true q369
            have p370 : 0 ≤ (t366 : Int) := of_x
            have q370 : t366 < (l1_3.length : Int) := of_x
            obtain ⟨ad370, e370, hx370_0, hx370_1, hx370_2⟩ := at_T85 (Kd.C_foot_now HR1_3.out HK.out) t366 p370 q370
            have hw370_2 := hx370_2
            have hw370_1 := hx370_1
            have hw370_0 := hx370_0
            cases e370
            have hne370_2 := (show (⟨(ad370.add ((t366).toNat * 3)).block, (ad370.add ((t366).toNat * 3)).off + 2, none⟩ : Addr).block ≠ g from by first | (rw [add_block]; exact Kd.foot_ne HR1_3.out (by omega) (by decide)) | (show (Addr.add _ _).block ≠ _; rw [add_block]; exact Kd.foot_ne HR1_3.out (by omega) (by decide)) | exact Kd.foot_ne HR1_3.out (by omega) (by decide) | (dsimp only; exact Kd.foot_ne HR1_3.out (by omega) (by decide)))
            have hlt370_2 := (Kd.foot_lt HR1_3.out (by omega) (by decide))
            have hne370_1 := (show (⟨(ad370.add ((t366).toNat * 3)).block, (ad370.add ((t366).toNat * 3)).off + 1, none⟩ : Addr).block ≠ g from by first | (rw [add_block]; exact Kd.foot_ne HR1_3.out (by omega) (by decide)) | (show (Addr.add _ _).block ≠ _; rw [add_block]; exact Kd.foot_ne HR1_3.out (by omega) (by decide)) | exact Kd.foot_ne HR1_3.out (by omega) (by decide) | (dsimp only; exact Kd.foot_ne HR1_3.out (by omega) (by decide)))
            have hlt370_1 := (Kd.foot_lt HR1_3.out (by omega) (by decide))
            have hne370_0 := (show ((ad370.add ((t366).toNat * 3)) : Addr).block ≠ g from by first | (rw [add_block]; exact Kd.foot_ne HR1_3.out (by omega) (by decide)) | (show (Addr.add _ _).block ≠ _; rw [add_block]; exact Kd.foot_ne HR1_3.out (by omega) (by decide)) | exact Kd.foot_ne HR1_3.out (by omega) (by decide) | (dsimp only; exact Kd.foot_ne HR1_3.out (by omega) (by decide)))
            have hlt370_0 := (Kd.foot_lt HR1_3.out (by omega) (by decide))
            replace p370 := eq_true p370
            replace q370 := eq_true q370
            refine start_ (n := 23) (S := fun w' => w'.cell? ⟨gb362, 0, none⟩ = some (.int .i64 a1_0) ∧ w'.cell? ⟨gb362, 1, none⟩ = some (.int .i64 a1_1) ∧ w'.cell? ⟨gb362, 2, none⟩ = some (.int .i64 a1_2) ∧ w'.cell? ⟨gb362, 3, none⟩ = some (.slice (some ad370) l1_3.length c1_3) ∧ w'.cell? ⟨gb362, 4, none⟩ = some (.int .i64 a1_4) ∧ w'.cell? ⟨gb362, 5, none⟩ = some (.slice A1_5 l1_5.length c1_5) ∧ w'.cell? ⟨gb362, 6, none⟩ = some (.slice (some ad369) l1_6.length c1_6) ∧ w'.cell? (ad368.add (t366).toNat) = some (.int .i64 (rd x6_1 t366)) ∧ w'.cell? (ad369.add ((x7_1).toNat * 3)) = some (.int .i64 ((rd_T79 l1_6 x7_1).f0.f0)) ∧ w'.cell? ⟨(ad369.add ((x7_1).toNat * 3)).block, (ad369.add ((x7_1).toNat * 3)).off + 1, none⟩ = some (.int .i64 ((rd_T79 l1_6 x7_1).f0.f1)) ∧ w'.cell? ⟨(ad369.add ((x7_1).toNat * 3)).block, (ad369.add ((x7_1).toNat * 3)).off + 2, none⟩ = some (.int .i64 ((rd_T79 l1_6 x7_1).f1)) ∧ w'.cell? (ad370.add ((t366).toNat * 3)) = some (.int .i64 ((rd_T85 l1_3 t366).f0)) ∧ w'.cell? ⟨(ad370.add ((t366).toNat * 3)).block, (ad370.add ((t366).toNat * 3)).off + 1, none⟩ = some (.int .i64 ((rd_T85 l1_3 t366).f1)) ∧ w'.cell? ⟨(ad370.add ((t366).toNat * 3)).block, (ad370.add ((t366).toNat * 3)).off + 2, none⟩ = some (.int .i64 ((rd_T85 l1_3 t366).f2))) (ds := []) #[false, false, false, false, false, false, false, false, false, false, false, false, false, false, false, false, false, false, false, false, false, false, false] (by kernel_rfl) rfl rfl ⟨(blk_cell BK362.out 0).trans rfl, (blk_cell BK362.out 1).trans rfl, (blk_cell BK362.out 2).trans rfl, (blk_cell BK362.out 3).trans rfl, (blk_cell BK362.out 4).trans rfl, (blk_cell BK362.out 5).trans rfl, (blk_cell BK362.out 6).trans rfl, hx368_0, hx369_0, hx369_1, hx369_2, hx370_0, hx370_1, hx370_2⟩ (fun hHeld => ?_); refine with_tabW swarfkit_StowageOf.tab7 swarfkit_StowageOf.bits7 (fun HT_ HW_ => ?_)
            generalize w15.drew = w21 at HO_5 HO_6 BK362 HI0 HK HB hx368_0 hx369_0 hx369_1 hx369_2 hx370_0 hx370_1 hx370_2 hHeld ⊢
            refine pure_ (i := 0) (N := some 26) (v := ?_) (a' := ?_) (bz 23 1) rfl rfl (any_of HT_.out (by kernel_rfl)) (fun _ _ _ h => h) (Or.inl ⟨by rfl, ?_⟩) ?_ ?_
            rotate_left
            ·
             intro w'
             go_simp
             with_reducible rfl
            rotate_left
            ·
             simp only [Act.put, put_x, i64_w, i32_w]
             rfl
            refine pure_ (i := 1) (N := some 27) (v := ?_) (a' := ?_) (bz 23 3) rfl rfl (any_of HT_.out (by kernel_rfl)) (fun _ _ _ h => h) (Or.inl ⟨by rfl, ?_⟩) ?_ ?_
            rotate_left
            ·
             intro w'
             go_simp
             with_reducible rfl
            rotate_left
            ·
             simp only [Act.put, put_x, i64_w, i32_w]
             rfl
            refine pure_ (i := 2) (N := some 28) (v := ?_) (a' := ?_) (bz 23 7) rfl rfl (any_of HT_.out (by kernel_rfl)) (fun _ _ _ h => h) (Or.inl ⟨by rfl, ?_⟩) ?_ ?_
            rotate_left
            ·
             intro w'
             go_simp
             with_reducible rfl
            rotate_left
            ·
             simp only [Act.put, put_x, i64_w, i32_w]
             rfl
            refine pure_ (i := 3) (N := some 29) (v := ?_) (a' := ?_) (bz 23 15) rfl rfl (any_of HT_.out (by kernel_rfl)) (fun _ _ _ h => h) (Or.inl ⟨by rfl, ?_⟩) ?_ ?_
            rotate_left
            ·
             intro w'
             go_simp
             with_reducible rfl
            rotate_left
            ·
             simp only [Act.put, put_x, i64_w, i32_w]
             rfl
            refine pure_ (i := 4) (N := some 30) (v := ?_) (a' := ?_) (bz 23 31) rfl rfl (any_of HT_.out (by kernel_rfl)) (fun _ _ _ h => h) (Or.inl ⟨by rfl, ?_⟩) ?_ ?_
            rotate_left
            ·
             intro w'
             go_simp
             with_reducible rfl
            rotate_left
            ·
             simp only [Act.put, put_x, i64_w, i32_w]
             rfl
            refine pure_ (i := 5) (N := some 31) (v := ?_) (a' := ?_) (bz 23 63) rfl rfl (any_of HT_.out (by kernel_rfl)) (fun _ _ _ h => h) (Or.inl ⟨by rfl, ?_⟩) ?_ ?_
            rotate_left
            ·
             intro w'
             go_simp
             with_reducible rfl
            rotate_left
            ·
             simp only [Act.put, put_x, i64_w, i32_w]
             rfl
            refine pure_ (i := 7) (N := some 33) (v := ?_) (a' := ?_) (bz 23 191) rfl rfl (any_of HT_.out (by kernel_rfl)) (fun _ _ _ h => h) (Or.inl ⟨by rfl, ?_⟩) ?_ ?_
            rotate_left
            ·
             intro w'
             go_simp
             with_reducible rfl
            rotate_left
            ·
             simp only [Act.put, put_x, i64_w, i32_w]
             rfl
            refine pure_ (i := 9) (N := some 35) (v := ?_) (a' := ?_) (bz 23 703) rfl rfl (any_of HT_.out (by kernel_rfl)) (fun _ _ _ h => h) (Or.inl ⟨by rfl, ?_⟩) ?_ ?_
            rotate_left
            ·
             intro w'
             go_simp
             with_reducible rfl
            rotate_left
            ·
             simp only [Act.put, put_x, i64_w, i32_w]
             rfl
            refine pure_ (i := 15) (N := some 41) (v := ?_) (a' := ?_) (bz 23 33471) rfl rfl (any_of HT_.out (by kernel_rfl)) (fun _ _ _ h => h) (Or.inl ⟨by rfl, ?_⟩) ?_ ?_
            rotate_left
            ·
             intro w'
             go_simp
             with_reducible rfl
            rotate_left
            ·
             simp only [Act.put, put_x, i64_w, i32_w]
             rfl
            refine pure_ (i := 17) (N := some 43) (v := ?_) (a' := ?_) (bz 23 164543) rfl rfl (any_of HT_.out (by kernel_rfl)) (fun _ _ _ h => h) (Or.inl ⟨by rfl, ?_⟩) ?_ ?_
            rotate_left
            ·
             intro w'
             go_simp
             with_reducible rfl
            rotate_left
            ·
             simp only [Act.put, put_x, i64_w, i32_w]
             rfl
            refine take_ (i := 6) (N := some 32) (v := ?_) (a' := ?_) (bz 23 164607) rfl rfl (take_ofW HT_.out HW_.out (by kernel_rfl)) (fun _ _ _ h => h) (Or.inl ⟨by rfl, ?_⟩) hHeld ?_ ?_
            rotate_left
            ·
             rintro w' ⟨s0, s1, s2, s3, s4, s5, s6, s7, s8, s9, s10, s11, s12, s13⟩
             go_simp
             with_reducible rfl
            rotate_left
            ·
             simp only [Act.put, put_x, i64_w, i32_w]
             rfl
            refine take_ (i := 8) (N := some 34) (v := ?_) (a' := ?_) (bz 23 164863) rfl rfl (take_ofW HT_.out HW_.out (by kernel_rfl)) (fun _ _ _ h => h) (Or.inl ⟨by rfl, ?_⟩) hHeld ?_ ?_
            rotate_left
            ·
             rintro w' ⟨s0, s1, s2, s3, s4, s5, s6, s7, s8, s9, s10, s11, s12, s13⟩
             go_simp
             with_reducible rfl
            rotate_left
            ·
             simp only [Act.put, put_x, i64_w, i32_w]
             rfl
            refine pure_ (i := 10) (N := some 36) (v := ?_) (a' := ?_) (bz 23 165887) rfl rfl (any_of HT_.out (by kernel_rfl)) (fun _ _ _ h => h) (Or.inl ⟨by rfl, ?_⟩) ?_ ?_
            rotate_left
            ·
             intro w'
             go_simp
             with_reducible rfl
            rotate_left
            ·
             simp only [Act.put, put_x, i64_w, i32_w]
             rfl
            refine pure_ (i := 11) (N := some 37) (v := ?_) (a' := ?_) (bz 23 167935) rfl rfl (any_of HT_.out (by kernel_rfl)) (fun _ _ _ h => h) (Or.inl ⟨by rfl, ?_⟩) ?_ ?_
            rotate_left
            ·
             intro w'
             go_simp
             with_reducible rfl
            rotate_left
            ·
             simp only [Act.put, put_x, i64_w, i32_w]
             rfl
            refine pure_ (i := 12) (N := some 38) (v := ?_) (a' := ?_) (bz 23 172031) rfl rfl (any_of HT_.out (by kernel_rfl)) (fun _ _ _ h => h) (Or.inl ⟨by rfl, ?_⟩) ?_ ?_
            rotate_left
            ·
             intro w'
             go_simp
             with_reducible rfl
            rotate_left
            ·
             simp only [Act.put, put_x, i64_w, i32_w]
             rfl
            refine take_ (i := 13) (N := some 39) (v := ?_) (a' := ?_) (bz 23 180223) rfl rfl (take_ofW HT_.out HW_.out (by kernel_rfl)) (fun _ _ _ h => h) (Or.inl ⟨by rfl, ?_⟩) hHeld ?_ ?_
            rotate_left
            ·
             rintro w' ⟨s0, s1, s2, s3, s4, s5, s6, s7, s8, s9, s10, s11, s12, s13⟩
             go_simp
             with_reducible rfl
            rotate_left
            ·
             simp only [Act.put, put_x, i64_w, i32_w]
             rfl
            refine pure_ (i := 14) (N := some 40) (v := ?_) (a' := ?_) (bz 23 196607) rfl rfl (any_of HT_.out (by kernel_rfl)) (fun _ _ _ h => h) (Or.inl ⟨by rfl, ?_⟩) ?_ ?_
            rotate_left
            ·
             intro w'
             go_simp
             with_reducible rfl
            rotate_left
            ·
             simp only [Act.put, put_x, i64_w, i32_w]
             rfl
            refine take_ (i := 16) (N := some 42) (v := ?_) (a' := ?_) (bz 23 262143) rfl rfl (take_ofW HT_.out HW_.out (by kernel_rfl)) (fun _ _ _ h => h) (Or.inl ⟨by rfl, ?_⟩) hHeld ?_ ?_
            rotate_left
            ·
             rintro w' ⟨s0, s1, s2, s3, s4, s5, s6, s7, s8, s9, s10, s11, s12, s13⟩
             go_simp
             with_reducible rfl
            rotate_left
            ·
             simp only [Act.put, put_x, i64_w, i32_w]
             rfl
            refine pure_ (i := 18) (N := some 44) (v := ?_) (a' := ?_) (bz 23 524287) rfl rfl (any_of HT_.out (by kernel_rfl)) (fun _ _ _ h => h) (Or.inl ⟨by rfl, ?_⟩) ?_ ?_
            rotate_left
            ·
             intro w'
             go_simp
             with_reducible rfl
            rotate_left
            ·
             simp only [Act.put, put_x, i64_w, i32_w]
             rfl
            refine pure_ (i := 19) (N := some 45) (v := ?_) (a' := ?_) (bz 23 1048575) rfl rfl (any_of HT_.out (by kernel_rfl)) (fun _ _ _ h => h) (Or.inl ⟨by rfl, ?_⟩) ?_ ?_
            rotate_left
            ·
             intro w'
             go_simp
             with_reducible rfl
            rotate_left
            ·
             simp only [Act.put, put_x, i64_w, i32_w]
             rfl
            refine take_ (i := 20) (N := some 46) (v := ?_) (a' := ?_) (bz 23 2097151) rfl rfl (take_ofW HT_.out HW_.out (by kernel_rfl)) (fun _ _ _ h => h) (Or.inl ⟨by rfl, ?_⟩) hHeld ?_ ?_
            rotate_left
            ·
             rintro w' ⟨s0, s1, s2, s3, s4, s5, s6, s7, s8, s9, s10, s11, s12, s13⟩
             go_simp
             with_reducible rfl
            rotate_left
            ·
             simp only [Act.put, put_x, i64_w, i32_w]
             rfl
            refine pure_ (i := 21) (N := some 47) (v := ?_) (a' := ?_) (bz 23 4194303) rfl rfl (any_of HT_.out (by kernel_rfl)) (fun _ _ _ h => h) (Or.inl ⟨by rfl, ?_⟩) ?_ ?_
            rotate_left
            ·
             intro w'
             go_simp
             with_reducible rfl
            rotate_left
            ·
             simp only [Act.put, put_x, i64_w, i32_w]
             rfl
            refine pure_ (i := 22) (N := some 48) (v := ?_) (a' := ?_) (bz 23 8388607) rfl rfl (any_of HT_.out (by kernel_rfl)) (fun _ _ _ h => h) (Or.inl ⟨by rfl, ?_⟩) ?_ ?_
            rotate_left
            ·
             intro w'
             go_simp
             with_reducible rfl
            rotate_left
            ·
             simp only [Act.put, put_x, i64_w, i32_w]
             rfl
            refine done_ (done_of HT_.out (by kernel_rfl)) ?_
            try go_wp2
            go_meet
            case rel => exact ⟨_, (decide ((wrap64 ((rd x6_1 t366) + ((rd_T79 l1_6 x7_1).f0.f1))) > ((rd_T85 l1_3 t366).f0))), (by first | rfl | (simp; done) | (simp [*]; done)), H', ⟨by have := HK1.out; first | omega | exact Nat.le_refl _⟩, ⟨by (with_reducible repeat (first | apply Kd.R_alloc | apply Kd.R_drewN | apply Kd.R_drew)); exact HO_5.out⟩, ⟨by (with_reducible repeat (first | apply Kd.R_alloc | apply Kd.R_drewN | apply Kd.R_drew)); exact HO_6.out⟩, ⟨blk_x BK362.out⟩, ⟨by exact IsS90.up HI0.out⟩, ⟨by exact keep_y HK.out⟩, ⟨by exact below_y HB.out⟩⟩
           ·
            rw [if_neg c20] at H
            exact absurd H (by simp)
          ·
           rw [if_neg c19] at H
           exact absurd H (by simp)
         ·
          rw [if_neg c18] at H
          exact absurd H (by simp)
        ·
         rw [if_neg c17] at H
         exact absurd H (by simp)
       ·
        rw [if_neg c16] at H
        have c16b0 : decide (0 ≤ t366) = false := decide_eq_false c16
        clear c16
        (first | rw [c16b0] | (simp only [i64_w, i32_w]; rw [c16b0]) | skip)
        have H' := Aside0.mk H
        clear H
        try go_wp2
        replace HO_5 := Aside0.mk (Kd.R_drew HO_5.out)
        replace HO_6 := Aside0.mk (Kd.R_drew HO_6.out)
        replace BK362 := Aside0.mk (blk_drew BK362.out)
        replace HI0 := Aside0.mk (IsS90.drew HI0.out)
        replace HK := Aside0.mk (keep_drew HK.out)
        replace HB := Aside0.mk (below_drew1 HB.out)
        refine start_ (n := 23) (S := fun w' => True) (ds := []) #[false, false, false, false, false, false, false, false, false, false, false, false, false, false, false, false, false, false, false, false, false, false, false] (by kernel_rfl) rfl rfl trivial (fun hHeld => ?_); refine with_tabW swarfkit_StowageOf.tab7 swarfkit_StowageOf.bits7 (fun HT_ HW_ => ?_)
        generalize w15.drew = w23 at HO_5 HO_6 BK362 HI0 HK HB hHeld ⊢
        refine pure_ (i := 0) (N := some 26) (v := ?_) (a' := ?_) (bz 23 1) rfl rfl (any_of HT_.out (by kernel_rfl)) (fun _ _ _ h => h) (Or.inl ⟨by rfl, ?_⟩) ?_ ?_
        rotate_left
        ·
         intro w'
         go_simp
         with_reducible rfl
        rotate_left
        ·
         simp only [Act.put, put_x, i64_w, i32_w]
         rfl
        refine pure_ (i := 1) (N := some 27) (v := ?_) (a' := ?_) (bz 23 3) rfl rfl (any_of HT_.out (by kernel_rfl)) (fun _ _ _ h => h) (Or.inl ⟨by rfl, ?_⟩) ?_ ?_
        rotate_left
        ·
         intro w'
         go_simp
         with_reducible rfl
        rotate_left
        ·
         simp only [Act.put, put_x, i64_w, i32_w]
         rfl
        refine pure_ (i := 2) (N := some 28) (v := ?_) (a' := ?_) (bz 23 7) rfl rfl (any_of HT_.out (by kernel_rfl)) (fun _ _ _ h => h) (Or.inl ⟨by rfl, ?_⟩) ?_ ?_
        rotate_left
        ·
         intro w'
         go_simp
         with_reducible rfl
        rotate_left
        ·
         simp only [Act.put, put_x, i64_w, i32_w]
         rfl
        refine pure_ (i := 3) (N := some 29) (v := undef) (a' := ?_) (bz 23 15) rfl rfl (any_of HT_.out (by kernel_rfl)) (fun _ _ _ h => h) (Or.inr ⟨by rfl, rfl⟩) ?_ ?_
        rotate_left
        ·
         simp only [Act.put, put_x, i64_w, i32_w]
         rfl
        refine pure_ (i := 4) (N := some 30) (v := undef) (a' := ?_) (bz 23 31) rfl rfl (any_of HT_.out (by kernel_rfl)) (fun _ _ _ h => h) (Or.inr ⟨by rfl, rfl⟩) ?_ ?_
        rotate_left
        ·
         simp only [Act.put, put_x, i64_w, i32_w]
         rfl
        refine pure_ (i := 5) (N := some 31) (v := undef) (a' := ?_) (bz 23 63) rfl rfl (any_of HT_.out (by kernel_rfl)) (fun _ _ _ h => h) (Or.inr ⟨by rfl, rfl⟩) ?_ ?_
        rotate_left
        ·
         simp only [Act.put, put_x, i64_w, i32_w]
         rfl
        refine pure_ (i := 6) (N := some 32) (v := undef) (a' := ?_) (bz 23 127) rfl rfl (any_of HT_.out (by kernel_rfl)) (fun _ _ _ h => h) (Or.inr ⟨by rfl, rfl⟩) ?_ ?_
        rotate_left
        ·
         simp only [Act.put, put_x, i64_w, i32_w]
         rfl
        refine pure_ (i := 7) (N := some 33) (v := undef) (a' := ?_) (bz 23 255) rfl rfl (any_of HT_.out (by kernel_rfl)) (fun _ _ _ h => h) (Or.inr ⟨by rfl, rfl⟩) ?_ ?_
        rotate_left
        ·
         simp only [Act.put, put_x, i64_w, i32_w]
         rfl
        refine pure_ (i := 8) (N := some 34) (v := undef) (a' := ?_) (bz 23 511) rfl rfl (any_of HT_.out (by kernel_rfl)) (fun _ _ _ h => h) (Or.inr ⟨by rfl, rfl⟩) ?_ ?_
        rotate_left
        ·
         simp only [Act.put, put_x, i64_w, i32_w]
         rfl
        refine pure_ (i := 9) (N := some 35) (v := undef) (a' := ?_) (bz 23 1023) rfl rfl (any_of HT_.out (by kernel_rfl)) (fun _ _ _ h => h) (Or.inr ⟨by rfl, rfl⟩) ?_ ?_
        rotate_left
        ·
         simp only [Act.put, put_x, i64_w, i32_w]
         rfl
        refine pure_ (i := 10) (N := some 36) (v := undef) (a' := ?_) (bz 23 2047) rfl rfl (any_of HT_.out (by kernel_rfl)) (fun _ _ _ h => h) (Or.inr ⟨by rfl, rfl⟩) ?_ ?_
        rotate_left
        ·
         simp only [Act.put, put_x, i64_w, i32_w]
         rfl
        refine pure_ (i := 11) (N := some 37) (v := undef) (a' := ?_) (bz 23 4095) rfl rfl (any_of HT_.out (by kernel_rfl)) (fun _ _ _ h => h) (Or.inr ⟨by rfl, rfl⟩) ?_ ?_
        rotate_left
        ·
         simp only [Act.put, put_x, i64_w, i32_w]
         rfl
        refine pure_ (i := 12) (N := some 38) (v := undef) (a' := ?_) (bz 23 8191) rfl rfl (any_of HT_.out (by kernel_rfl)) (fun _ _ _ h => h) (Or.inr ⟨by rfl, rfl⟩) ?_ ?_
        rotate_left
        ·
         simp only [Act.put, put_x, i64_w, i32_w]
         rfl
        refine pure_ (i := 13) (N := some 39) (v := undef) (a' := ?_) (bz 23 16383) rfl rfl (any_of HT_.out (by kernel_rfl)) (fun _ _ _ h => h) (Or.inr ⟨by rfl, rfl⟩) ?_ ?_
        rotate_left
        ·
         simp only [Act.put, put_x, i64_w, i32_w]
         rfl
        refine pure_ (i := 14) (N := some 40) (v := undef) (a' := ?_) (bz 23 32767) rfl rfl (any_of HT_.out (by kernel_rfl)) (fun _ _ _ h => h) (Or.inr ⟨by rfl, rfl⟩) ?_ ?_
        rotate_left
        ·
         simp only [Act.put, put_x, i64_w, i32_w]
         rfl
        refine pure_ (i := 15) (N := some 41) (v := undef) (a' := ?_) (bz 23 65535) rfl rfl (any_of HT_.out (by kernel_rfl)) (fun _ _ _ h => h) (Or.inr ⟨by rfl, rfl⟩) ?_ ?_
        rotate_left
        ·
         simp only [Act.put, put_x, i64_w, i32_w]
         rfl
        refine pure_ (i := 16) (N := some 42) (v := undef) (a' := ?_) (bz 23 131071) rfl rfl (any_of HT_.out (by kernel_rfl)) (fun _ _ _ h => h) (Or.inr ⟨by rfl, rfl⟩) ?_ ?_
        rotate_left
        ·
         simp only [Act.put, put_x, i64_w, i32_w]
         rfl
        refine pure_ (i := 17) (N := some 43) (v := undef) (a' := ?_) (bz 23 262143) rfl rfl (any_of HT_.out (by kernel_rfl)) (fun _ _ _ h => h) (Or.inr ⟨by rfl, rfl⟩) ?_ ?_
        rotate_left
        ·
         simp only [Act.put, put_x, i64_w, i32_w]
         rfl
        refine pure_ (i := 18) (N := some 44) (v := undef) (a' := ?_) (bz 23 524287) rfl rfl (any_of HT_.out (by kernel_rfl)) (fun _ _ _ h => h) (Or.inr ⟨by rfl, rfl⟩) ?_ ?_
        rotate_left
        ·
         simp only [Act.put, put_x, i64_w, i32_w]
         rfl
        refine pure_ (i := 19) (N := some 45) (v := undef) (a' := ?_) (bz 23 1048575) rfl rfl (any_of HT_.out (by kernel_rfl)) (fun _ _ _ h => h) (Or.inr ⟨by rfl, rfl⟩) ?_ ?_
        rotate_left
        ·
         simp only [Act.put, put_x, i64_w, i32_w]
         rfl
        refine pure_ (i := 20) (N := some 46) (v := undef) (a' := ?_) (bz 23 2097151) rfl rfl (any_of HT_.out (by kernel_rfl)) (fun _ _ _ h => h) (Or.inr ⟨by rfl, rfl⟩) ?_ ?_
        rotate_left
        ·
         simp only [Act.put, put_x, i64_w, i32_w]
         rfl
        refine pure_ (i := 21) (N := some 47) (v := undef) (a' := ?_) (bz 23 4194303) rfl rfl (any_of HT_.out (by kernel_rfl)) (fun _ _ _ h => h) (Or.inr ⟨by rfl, rfl⟩) ?_ ?_
        rotate_left
        ·
         simp only [Act.put, put_x, i64_w, i32_w]
         rfl
        refine pure_ (i := 22) (N := some 48) (v := ?_) (a' := ?_) (bz 23 8388607) rfl rfl (any_of HT_.out (by kernel_rfl)) (fun _ _ _ h => h) (Or.inl ⟨by rfl, ?_⟩) ?_ ?_
        rotate_left
        ·
         intro w'
         go_simp
         with_reducible rfl
        rotate_left
        ·
         simp only [Act.put, put_x, i64_w, i32_w]
         rfl
        refine done_ (done_of HT_.out (by kernel_rfl)) ?_
        try go_wp2
        go_meet
        case rel => exact ⟨_, (false), (by first | rfl | (simp; done) | (simp [*]; done)), H', ⟨by have := HK1.out; first | omega | exact Nat.le_refl _⟩, ⟨by (with_reducible repeat (first | apply Kd.R_alloc | apply Kd.R_drewN | apply Kd.R_drew)); exact HO_5.out⟩, ⟨by (with_reducible repeat (first | apply Kd.R_alloc | apply Kd.R_drewN | apply Kd.R_drew)); exact HO_6.out⟩, ⟨blk_x BK362.out⟩, ⟨by exact IsS90.up HI0.out⟩, ⟨by exact keep_y HK.out⟩, ⟨by exact below_y HB.out⟩⟩
      case rest =>
       clear HC12
       obtain ⟨kq, x48_11, rfl, HA, HJ11, HO_5, HO_6, BK362, HI0, HK, HB⟩ := hcut
       cases kq with
       | zero => exact absurd HA.out (by simp [swarfkit_StowageOf.j1])
       | succ kj11 =>
        have H := HA.out
        clear HA
        simp only [swarfkit_StowageOf.j1] at H
        by_cases c24 : x48_11 = true
        ·
         subst c24
         have H1 : (if (-1) ≥ 0 then (if 0 ≤ (-1) then (if (-1) < (x6_1.length : Int) then (if 0 ≤ x7_1 then (if x7_1 < (l1_6.length : Int) then (if x5_1.length < 17592186044416 then (swarfkit_StowageOf.l0 kj11 (x5_1 ++ [(-1)]) (x6_1.set ((-1) : Int).toNat (wrap64 ((rd x6_1 (-1)) + ((rd_T79 l1_6 x7_1).f0.f1)))) (wrap64 (x7_1 + 1)) t367 a1_0 a1_1 a1_2 l1_3 a1_4 l1_5 l1_6) else (none)) else (none)) else (none)) else (none)) else (none)) else (if x5_1.length < 17592186044416 then (swarfkit_StowageOf.l0 kj11 (x5_1 ++ [(-1)]) x6_1 (wrap64 (x7_1 + 1)) t367 a1_0 a1_1 a1_2 l1_3 a1_4 l1_5 l1_6) else (none))) = some (r1, r2) := by rw [if_pos rfl] at H; exact H
         clear H
         have H := H1
         clear H1
         by_cases c25 : (-1) ≥ 0
         ·
          exact absurd c25 (by decide)
         ·
          rw [if_neg c25] at H
          have c25b0 : decide (0 ≤ (-1)) = false := decide_eq_false c25
          clear c25
          by_cases c36 : x5_1.length < 17592186044416
          ·
           rw [if_pos c36] at H
           have LMc36 := Aside0.mk c36
           clear c36
           obtain ⟨y377, hy377⟩ : ∃ y_ : List Int, y_ = (x5_1 ++ [(-1)]) := ⟨_, rfl⟩
           replace H : (swarfkit_StowageOf.l0 kj11 y377 x6_1 (wrap64 (x7_1 + 1)) t367 a1_0 a1_1 a1_2 l1_3 a1_4 l1_5 l1_6) = some (r1, r2) := by first | (rw [hy377]; with_reducible exact H) | (have H2_ := (Option.bind_some _ _).symm.trans H; rw [hy377]; with_reducible exact H2_) | (have H2_ := (Option.bind_some _ _).symm.trans H; with_reducible exact H2_) | with_reducible exact H | (rw [hy377]; exact H) | exact H
           have Ny377 := Aside0.mk hy377
           clear hy377
           have H' := Aside0.mk H
           clear H
           go_wp2_with (first | ((with_reducible refine gate_builtin (b := .append) (xs := #[.tmp 66, .tmp 68]) rfl ?_); at_builtin; refine Kd.R_append (Kd.int .i64) w.heap.size rfl (.tmp 66) (.tmp 68) 27 3 (.int .i64 0) 8 rfl Try.underlying27 info3 rfl (by decide) (by omega) u5 x5_1 (-1) [.int .i64 (-1)] (fun k_ => some k_ ≠ (v364 : Value).ownBlock) (fun _ => False) rfl rfl ?aP (fun _ hk => hk.elim) ?aF ?aO (Below.refl _ _) ?aS ?aL ?_; (case aP => exact rfl); (case aF => exact (fun k_ hk => Kd.fresh' (Kd.R_lt (Kd.R_x HO_6.out)) k_ hk)); (case aO => exact (Kd.R_x HO_5.out)); (case aS => exact (keep_size (w := w) (g := g) (row := none) (by exact keep_y HK.out))); (case aL => have := LMc36.out; omega); intro v378 w37 ho hb hg hat; rw [← Ny377.out] at ho; replace HO_6 := Aside0.mk (Kd.R_after (ok := (fun _ => True)) (by (with_reducible repeat (first | apply Kd.R_alloc | apply Kd.R_drewN | apply Kd.R_drew)); exact Kd.R_mono HO_6.out (fun _ hk => ⟨trivial, hk⟩)) hg hat); replace BK362 := Aside0.mk (blk_grown (blk_x BK362.out) hg (Kd.R_ne HO_5.out BK362.out (by decide))); replace HI0 := Aside0.mk (IsS90.grown (by exact IsS90.up HI0.out) hg (IsS90.own_ne HI0.out HO_5.out (by decide))); replace HB := Aside0.mk (below_weaken (by exact below_y HB.out) HL.out hb); replace HK := Aside0.mk (KeepBut.trans (by exact keep_y HK.out) (KeepBut.of_grown hg g) (Kd.R_base2 HO_5.out)); have HO379 := Aside0.mk (ho); clear HO_5; clear ho hb hg hat))
           go_roundg kj11
           case measure => have := HK1.out; have := HJ11.out; omega
           case rel => exact ⟨(y377), (x6_1), (wrap64 (x7_1 + 1)), (t367), (by first | rfl | (simp; done) | (simp [*]; done)), H', ⟨by have := HK1.out; have := HJ11.out; omega⟩, ⟨by (with_reducible repeat (first | apply Kd.R_alloc | apply Kd.R_drewN | apply Kd.R_drew)); exact HO379.out⟩, ⟨by (with_reducible repeat (first | apply Kd.R_alloc | apply Kd.R_drewN | apply Kd.R_drew)); exact Kd.R_mono HO_6.out (fun _ hk => hk.2)⟩, ⟨blk_x BK362.out⟩, ⟨by exact IsS90.up HI0.out⟩, ⟨by exact keep_y HK.out⟩, ⟨by exact below_y HB.out⟩⟩
          ·
           rw [if_neg c36] at H
           exact absurd H (by simp)
        ·
         replace c24 := Bool.eq_false_iff.mpr c24
         subst c24
         have H1 : (if t366 ≥ 0 then (if 0 ≤ t366 then (if t366 < (x6_1.length : Int) then (if 0 ≤ x7_1 then (if x7_1 < (l1_6.length : Int) then (if x5_1.length < 17592186044416 then (swarfkit_StowageOf.l0 kj11 (x5_1 ++ [t366]) (x6_1.set (t366 : Int).toNat (wrap64 ((rd x6_1 t366) + ((rd_T79 l1_6 x7_1).f0.f1)))) (wrap64 (x7_1 + 1)) t367 a1_0 a1_1 a1_2 l1_3 a1_4 l1_5 l1_6) else (none)) else (none)) else (none)) else (none)) else (none)) else (if x5_1.length < 17592186044416 then (swarfkit_StowageOf.l0 kj11 (x5_1 ++ [t366]) x6_1 (wrap64 (x7_1 + 1)) t367 a1_0 a1_1 a1_2 l1_3 a1_4 l1_5 l1_6) else (none))) = some (r1, r2) := by rw [if_neg (show ¬ (false = true) by decide)] at H; exact H
         clear H
         have H := H1
         clear H1
         by_cases c38 : t366 ≥ 0
         ·
          rw [if_pos c38] at H
          have c38b0 : decide (0 ≤ t366) = true := decide_eq_true c38
          clear c38
          by_cases c39 : 0 ≤ t366
          ·
           rw [if_pos c39] at H
           have c39b0 : decide (0 ≤ t366) = true := decide_eq_true c39
           clear c39
           by_cases c40 : t366 < (x6_1.length : Int)
           ·
            rw [if_pos c40] at H
            have c40b0 : decide (t366 < (x6_1.length : Int)) = true := decide_eq_true c40
            clear c40
            by_cases c41 : 0 ≤ x7_1
            ·
             rw [if_pos c41] at H
             have c41b0 : decide (0 ≤ x7_1) = true := decide_eq_true c41
             clear c41
             by_cases c42 : x7_1 < (l1_6.length : Int)
             ·
              rw [if_pos c42] at H
              have c42b0 : decide (x7_1 < (l1_6.length : Int)) = true := decide_eq_true c42
              clear c42
              obtain ⟨y382, hy382⟩ : ∃ y_ : List Int, y_ = (x6_1.set (t366 : Int).toNat (wrap64 ((rd x6_1 t366) + ((rd_T79 l1_6 x7_1).f0.f1)))) := ⟨_, rfl⟩
              replace H : (if x5_1.length < 17592186044416 then (swarfkit_StowageOf.l0 kj11 (x5_1 ++ [t366]) y382 (wrap64 (x7_1 + 1)) t367 a1_0 a1_1 a1_2 l1_3 a1_4 l1_5 l1_6) else (none)) = some (r1, r2) := by first | (rw [hy382]; with_reducible exact H) | (have H2_ := (Option.bind_some _ _).symm.trans H; rw [hy382]; with_reducible exact H2_) | (have H2_ := (Option.bind_some _ _).symm.trans H; with_reducible exact H2_) | with_reducible exact H | (rw [hy382]; exact H) | exact H
              have Ny382 := Aside0.mk hy382
              clear hy382
              by_cases c44 : x5_1.length < 17592186044416
              ·
               rw [if_pos c44] at H
               have LMc44 := Aside0.mk c44
               clear c44
               obtain ⟨y383, hy383⟩ : ∃ y_ : List Int, y_ = (x5_1 ++ [t366]) := ⟨_, rfl⟩
               replace H : (swarfkit_StowageOf.l0 kj11 y383 y382 (wrap64 (x7_1 + 1)) t367 a1_0 a1_1 a1_2 l1_3 a1_4 l1_5 l1_6) = some (r1, r2) := by first | (rw [hy383]; with_reducible exact H) | (have H2_ := (Option.bind_some _ _).symm.trans H; rw [hy383]; with_reducible exact H2_) | (have H2_ := (Option.bind_some _ _).symm.trans H; with_reducible exact H2_) | with_reducible exact H | (rw [hy383]; exact H) | exact H
               have Ny383 := Aside0.mk hy383
               clear hy383
               have H' := Aside0.mk H
               clear H
               try go_wp2
               replace HO_5 := Aside0.mk (Kd.R_drew HO_5.out)
               replace HO_6 := Aside0.mk (Kd.R_drew HO_6.out)
               replace BK362 := Aside0.mk (blk_drew BK362.out)
               replace HI0 := Aside0.mk (IsS90.drew HI0.out)
               replace HK := Aside0.mk (keep_drew HK.out)
               replace HB := Aside0.mk (below_drew1 HB.out)
               obtain ⟨Ao46, co46, eo46⟩ := Kd.R_slice HO_6.out
               (first | subst eo46 | (injection eo46 with f1_ f2_ f3_; have f4_ := f1_.symm; have f5_ := f3_.symm; clear f1_ f2_ f3_; subst f4_; subst f5_))
               have p380 : 0 ≤ (t366 : Int) := of_x
               have q380 : t366 < (x6_1.length : Int) := of_x
               obtain ⟨ad380, e380, hx380_0⟩ := Kd.at_int (Kd.R_reads' HO_6.out).2.2 t366 p380 q380
               cases e380
               replace p380 := eq_true p380
               replace q380 := eq_true q380
               have p381 : 0 ≤ (x7_1 : Int) := of_x
               have q381 : x7_1 < (l1_6.length : Int) := of_x
               obtain ⟨ad381, e381, hx381_0, hx381_1, hx381_2⟩ := at_T79 (Kd.C_foot_now HR1_6.out HK.out) x7_1 p381 q381
               have hw381_2 := hx381_2
               have hw381_1 := hx381_1
               have hw381_0 := hx381_0
               cases e381
               have hne381_2 := (show (⟨(ad381.add ((x7_1).toNat * 3)).block, (ad381.add ((x7_1).toNat * 3)).off + 2, none⟩ : Addr).block ≠ g from by first | (rw [add_block]; exact Kd.foot_ne HR1_6.out (by omega) (by decide)) | (show (Addr.add _ _).block ≠ _; rw [add_block]; exact Kd.foot_ne HR1_6.out (by omega) (by decide)) | exact Kd.foot_ne HR1_6.out (by omega) (by decide) | (dsimp only; exact Kd.foot_ne HR1_6.out (by omega) (by decide)))
               have hlt381_2 := (Kd.foot_lt HR1_6.out (by omega) (by decide))
               have hne381_1 := (show (⟨(ad381.add ((x7_1).toNat * 3)).block, (ad381.add ((x7_1).toNat * 3)).off + 1, none⟩ : Addr).block ≠ g from by first | (rw [add_block]; exact Kd.foot_ne HR1_6.out (by omega) (by decide)) | (show (Addr.add _ _).block ≠ _; rw [add_block]; exact Kd.foot_ne HR1_6.out (by omega) (by decide)) | exact Kd.foot_ne HR1_6.out (by omega) (by decide) | (dsimp only; exact Kd.foot_ne HR1_6.out (by omega) (by decide)))
               have hlt381_1 := (Kd.foot_lt HR1_6.out (by omega) (by decide))
               have hne381_0 := (show ((ad381.add ((x7_1).toNat * 3)) : Addr).block ≠ g from by first | (rw [add_block]; exact Kd.foot_ne HR1_6.out (by omega) (by decide)) | (show (Addr.add _ _).block ≠ _; rw [add_block]; exact Kd.foot_ne HR1_6.out (by omega) (by decide)) | exact Kd.foot_ne HR1_6.out (by omega) (by decide) | (dsimp only; exact Kd.foot_ne HR1_6.out (by omega) (by decide)))
               have hlt381_0 := (Kd.foot_lt HR1_6.out (by omega) (by decide))
               replace p381 := eq_true p381
               replace q381 := eq_true q381
               have p43 : 0 ≤ (t366 : Int) := of_x
               have q43 : (t366 : Int) < ((x6_1.length : Int) : Int) := of_x
               obtain ⟨go43, co43, eo43, gb43, gl43, cl43, HG43⟩ := Kd.R_form HO_6.out (by omega)
               (first | cases eo43 | (injection eo43 with ea_ en_ ec_; (first | subst ea_ | (injection ea_ with ea_; subst ea_)); subst ec_; clear en_))
               have GB43 := Aside0.mk gb43
               have GG43 := Aside0.mk HG43
               clear gb43 gl43 HG43
               (first | simp only [add_plain] at hx380_0 | skip)
               obtain ⟨hx43_0, hf43_0⟩ := Kd.R_celln 0 HO_6.out (t366 : Int) p43 q43
               replace p43 := eq_true p43
               replace q43 := eq_true q43
               have HN0_go43 := Aside0.mk (show g ≠ go43 from by have h_ := IsS90.own_ne HI0.out HO_6.out (by decide); intro e_; exact h_ (by rw [e_]; rfl))
               have HP47 := Kd.R_putn HO_6.out (t366 : Int) (wrap64 ((rd x6_1 t366) + ((rd_T79 l1_6 x7_1).f0.f1)))
               rw [← Ny382.out] at HP47
               have HQ47 := Aside0.mk HP47
               clear HP47
               refine start_ (n := 16) (S := fun w' => w'.cell? ⟨gb362, 0, none⟩ = some (.int .i64 a1_0) ∧ w'.cell? ⟨gb362, 1, none⟩ = some (.int .i64 a1_1) ∧ w'.cell? ⟨gb362, 2, none⟩ = some (.int .i64 a1_2) ∧ w'.cell? ⟨gb362, 3, none⟩ = some (.slice A1_3 l1_3.length c1_3) ∧ w'.cell? ⟨gb362, 4, none⟩ = some (.int .i64 a1_4) ∧ w'.cell? ⟨gb362, 5, none⟩ = some (.slice A1_5 l1_5.length c1_5) ∧ w'.cell? ⟨gb362, 6, none⟩ = some (.slice (some ad381) l1_6.length c1_6) ∧ w'.cell? ⟨go43, (t366).toNat, none⟩ = some (.int .i64 (rd x6_1 t366)) ∧ w'.cell? (ad381.add ((x7_1).toNat * 3)) = some (.int .i64 ((rd_T79 l1_6 x7_1).f0.f0)) ∧ w'.cell? ⟨(ad381.add ((x7_1).toNat * 3)).block, (ad381.add ((x7_1).toNat * 3)).off + 1, none⟩ = some (.int .i64 ((rd_T79 l1_6 x7_1).f0.f1)) ∧ w'.cell? ⟨(ad381.add ((x7_1).toNat * 3)).block, (ad381.add ((x7_1).toNat * 3)).off + 2, none⟩ = some (.int .i64 ((rd_T79 l1_6 x7_1).f1))) (ds := [15]) #[false, false, false, false, false, false, false, false, false, false, false, false, false, false, false, false] (by kernel_rfl) rfl rfl ⟨(blk_cell BK362.out 0).trans rfl, (blk_cell BK362.out 1).trans rfl, (blk_cell BK362.out 2).trans rfl, (blk_cell BK362.out 3).trans rfl, (blk_cell BK362.out 4).trans rfl, (blk_cell BK362.out 5).trans rfl, (blk_cell BK362.out 6).trans rfl, hx380_0, hx381_0, hx381_1, hx381_2⟩ (fun hHeld => ?_); refine with_tabW swarfkit_StowageOf.tab10 swarfkit_StowageOf.bits10 (fun HT_ HW_ => ?_)
               generalize wc.drew = w45 at HO_5 HO_6 BK362 HI0 HK HB GG43 HQ47 hf43_0 hx380_0 hx381_0 hx381_1 hx381_2 hx43_0 hHeld ⊢
               refine pure_ (i := 0) (N := some 51) (v := ?_) (a' := ?_) (bz 16 1) rfl rfl (any_of HT_.out (by kernel_rfl)) (fun _ _ _ h => h) (Or.inl ⟨by rfl, ?_⟩) ?_ ?_
               rotate_left
               ·
                intro w'
                go_simp
                with_reducible rfl
               rotate_left
               ·
                simp only [Act.put, put_x, i64_w, i32_w]
                rfl
               refine pure_ (i := 1) (N := some 52) (v := ?_) (a' := ?_) (bz 16 3) rfl rfl (any_of HT_.out (by kernel_rfl)) (fun _ _ _ h => h) (Or.inl ⟨by rfl, ?_⟩) ?_ ?_
               rotate_left
               ·
                intro w'
                go_simp
                with_reducible rfl
               rotate_left
               ·
                simp only [Act.put, put_x, i64_w, i32_w]
                rfl
               refine pure_ (i := 2) (N := some 53) (v := ?_) (a' := ?_) (bz 16 7) rfl rfl (any_of HT_.out (by kernel_rfl)) (fun _ _ _ h => h) (Or.inl ⟨by rfl, ?_⟩) ?_ ?_
               rotate_left
               ·
                intro w'
                go_simp
                with_reducible rfl
               rotate_left
               ·
                simp only [Act.put, put_x, i64_w, i32_w]
                rfl
               refine pure_ (i := 3) (N := some 54) (v := ?_) (a' := ?_) (bz 16 15) rfl rfl (any_of HT_.out (by kernel_rfl)) (fun _ _ _ h => h) (Or.inl ⟨by rfl, ?_⟩) ?_ ?_
               rotate_left
               ·
                intro w'
                go_simp
                with_reducible rfl
               rotate_left
               ·
                simp only [Act.put, put_x, i64_w, i32_w]
                rfl
               refine pure_ (i := 4) (N := some 55) (v := ?_) (a' := ?_) (bz 16 31) rfl rfl (any_of HT_.out (by kernel_rfl)) (fun _ _ _ h => h) (Or.inl ⟨by rfl, ?_⟩) ?_ ?_
               rotate_left
               ·
                intro w'
                go_simp
                with_reducible rfl
               rotate_left
               ·
                simp only [Act.put, put_x, i64_w, i32_w]
                rfl
               refine pure_ (i := 6) (N := some 57) (v := ?_) (a' := ?_) (bz 16 95) rfl rfl (any_of HT_.out (by kernel_rfl)) (fun _ _ _ h => h) (Or.inl ⟨by rfl, ?_⟩) ?_ ?_
               rotate_left
               ·
                intro w'
                go_simp
                with_reducible rfl
               rotate_left
               ·
                simp only [Act.put, put_x, i64_w, i32_w]
                rfl
               refine pure_ (i := 8) (N := some 59) (v := ?_) (a' := ?_) (bz 16 351) rfl rfl (any_of HT_.out (by kernel_rfl)) (fun _ _ _ h => h) (Or.inl ⟨by rfl, ?_⟩) ?_ ?_
               rotate_left
               ·
                intro w'
                go_simp
                with_reducible rfl
               rotate_left
               ·
                simp only [Act.put, put_x, i64_w, i32_w]
                rfl
               refine take_ (i := 5) (N := some 56) (v := ?_) (a' := ?_) (bz 16 383) rfl rfl (take_ofW HT_.out HW_.out (by kernel_rfl)) (fun _ _ _ h => h) (Or.inl ⟨by rfl, ?_⟩) hHeld ?_ ?_
               rotate_left
               ·
                rintro w' ⟨s0, s1, s2, s3, s4, s5, s6, s7, s8, s9, s10⟩
                go_simp
                with_reducible rfl
               rotate_left
               ·
                simp only [Act.put, put_x, i64_w, i32_w]
                rfl
               refine take_ (i := 7) (N := some 58) (v := ?_) (a' := ?_) (bz 16 511) rfl rfl (take_ofW HT_.out HW_.out (by kernel_rfl)) (fun _ _ _ h => h) (Or.inl ⟨by rfl, ?_⟩) hHeld ?_ ?_
               rotate_left
               ·
                rintro w' ⟨s0, s1, s2, s3, s4, s5, s6, s7, s8, s9, s10⟩
                go_simp
                with_reducible rfl
               rotate_left
               ·
                simp only [Act.put, put_x, i64_w, i32_w]
                rfl
               refine pure_ (i := 9) (N := some 60) (v := ?_) (a' := ?_) (bz 16 1023) rfl rfl (any_of HT_.out (by kernel_rfl)) (fun _ _ _ h => h) (Or.inl ⟨by rfl, ?_⟩) ?_ ?_
               rotate_left
               ·
                intro w'
                go_simp
                with_reducible rfl
               rotate_left
               ·
                simp only [Act.put, put_x, i64_w, i32_w]
                rfl
               refine pure_ (i := 10) (N := some 61) (v := ?_) (a' := ?_) (bz 16 2047) rfl rfl (any_of HT_.out (by kernel_rfl)) (fun _ _ _ h => h) (Or.inl ⟨by rfl, ?_⟩) ?_ ?_
               rotate_left
               ·
                intro w'
                go_simp
                with_reducible rfl
               rotate_left
               ·
                simp only [Act.put, put_x, i64_w, i32_w]
                rfl
               refine pure_ (i := 11) (N := some 62) (v := ?_) (a' := ?_) (bz 16 4095) rfl rfl (any_of HT_.out (by kernel_rfl)) (fun _ _ _ h => h) (Or.inl ⟨by rfl, ?_⟩) ?_ ?_
               rotate_left
               ·
                intro w'
                go_simp
                with_reducible rfl
               rotate_left
               ·
                simp only [Act.put, put_x, i64_w, i32_w]
                rfl
               refine take_ (i := 12) (N := some 63) (v := ?_) (a' := ?_) (bz 16 8191) rfl rfl (take_ofW HT_.out HW_.out (by kernel_rfl)) (fun _ _ _ h => h) (Or.inl ⟨by rfl, ?_⟩) hHeld ?_ ?_
               rotate_left
               ·
                rintro w' ⟨s0, s1, s2, s3, s4, s5, s6, s7, s8, s9, s10⟩
                go_simp
                with_reducible rfl
               rotate_left
               ·
                simp only [Act.put, put_x, i64_w, i32_w]
                rfl
               refine pure_ (i := 13) (N := some 64) (v := ?_) (a' := ?_) (bz 16 16383) rfl rfl (any_of HT_.out (by kernel_rfl)) (fun _ _ _ h => h) (Or.inl ⟨by rfl, ?_⟩) ?_ ?_
               rotate_left
               ·
                intro w'
                go_simp
                with_reducible rfl
               rotate_left
               ·
                simp only [Act.put, put_x, i64_w, i32_w]
                rfl
               refine pure_ (i := 14) (N := some 65) (v := ?_) (a' := ?_) (bz 16 32767) rfl rfl (any_of HT_.out (by kernel_rfl)) (fun _ _ _ h => h) (Or.inl ⟨by rfl, ?_⟩) ?_ ?_
               rotate_left
               ·
                intro w'
                go_simp
                with_reducible rfl
               rotate_left
               ·
                simp only [Act.put, put_x, i64_w, i32_w]
                rfl
               refine last_ (i := 15) (N := none) (bz 16 65535) rfl rfl (one_of HT_.out (by kernel_rfl)) (by decide) (fun K hK => ?_)
               refine skip_ (w1 := ?_) (by rfl) rfl ?_ ?_
               rotate_left
               ·
                go_simp
                rfl
               refine hK.out _ _ ?_
               clear hK K
               refine done_ (done_of HT_.out (by kernel_rfl)) ?_
               try go_wp2_with (first | ((with_reducible refine gate_builtin (b := .append) (xs := #[.tmp 66, .tmp 68]) rfl ?_); at_builtin; refine Kd.R_append (Kd.int .i64) w.heap.size rfl (.tmp 66) (.tmp 68) 27 3 (.int .i64 0) 8 rfl Try.underlying27 info3 rfl (by decide) (by omega) u5 x5_1 t366 [.int .i64 t366] (fun k_ => some k_ ≠ (.slice (some ⟨go43, 0, none⟩) x6_1.length co46 : Value).ownBlock) (fun _ => False) rfl (by first | (go_simp; done) | (go_simp; rfl)) ?aP (fun _ hk => hk.elim) ?aF ?aO (Below.refl _ _) ?aS ?aL ?_; (case aP => exact rfl); (case aF => exact (fun k_ hk => Kd.fresh' (Kd.R_lt (Kd.R_x HQ47.out)) k_ hk)); (case aO => exact (by (with_reducible repeat (first | apply Kd.R_alloc | apply Kd.R_drewN | apply Kd.R_drew)); exact Kd.R_mono (Kd.R_far (p := ⟨go43, (t366 : Int).toNat, none⟩) (Kd.R_mono HO_5.out (fun k_ hk => (⟨hk, fun e_ => hk (by rw [e_]; rfl)⟩ : _ ∧ k_ ≠ go43))) (fun _ hk => hk.2) (.int .i64 (wrap64 ((rd x6_1 t366) + ((rd_T79 l1_6 x7_1).f0.f1))))) (fun _ hk => hk.1))); (case aS => exact (keep_size (w := w) (g := g) (row := none) (by exact keep_y HK.out))); (case aL => have := LMc44.out; omega); intro v384 w48 ho hb hg hat; rw [← Ny383.out] at ho; replace BK362 := Aside0.mk (blk_grown (g := gb362) (o := .cells #[.int .i64 a1_0, .int .i64 a1_1, .int .i64 a1_2, .slice A1_3 l1_3.length c1_3, .int .i64 a1_4, .slice A1_5 l1_5.length c1_5, .slice (some ad381) l1_6.length c1_6] 26 (0, 0)) (by (with_reducible repeat (first | refine blk_drewN ?_ _ | refine blk_drew ?_ | refine blk_alloc ?_ _)); refine blk_far ?_ (by have h_ := Kd.R_ne HO_6.out BK362.out (by decide); intro e_; exact h_ (by rw [e_]; rfl)) _; (with_reducible repeat (first | refine blk_drewN ?_ _ | refine blk_drew ?_ | refine blk_alloc ?_ _)); exact BK362.out) hg (Kd.R_ne HO_5.out BK362.out (by decide))); replace HO_6 := Aside0.mk (Kd.R_after (ok := (fun _ => True)) (by (with_reducible repeat (first | apply Kd.R_alloc | apply Kd.R_drewN | apply Kd.R_drew)); exact Kd.R_mono HQ47.out (fun _ hk => ⟨trivial, hk⟩)) hg hat); replace HB := Aside0.mk (below_weaken (by repeat (first | (with_reducible first | exact HB.out | apply below_alloc | apply pw_below_drewN | apply below_drew1 | refine below_set ?_ (Nat.le_trans HL.out GB43.out) | refine below_set ?_ (IsS90.ge HI0.out) | refine below_set ?_ GE362.out) | exact HB.out)) HL.out hb); replace HI0 := Aside0.mk (IsS90.grown (w0 := w0) (f0 := t367) (by exact IsS90.up HI0.out) hg (IsS90.own_ne HI0.out HO_5.out (by decide))); replace HK := Aside0.mk (KeepBut.trans (by exact keep_y HK.out) (KeepBut.of_grown hg g) (Kd.R_base2 HO_5.out)); have HO385 := Aside0.mk (ho); clear HO_5; clear ho hb hg hat))
               go_roundg kj11
               case measure => have := HK1.out; have := HJ11.out; omega
               case rel => exact ⟨(y383), (y382), (wrap64 (x7_1 + 1)), (t367), (by first | rfl | (simp; done) | (simp [*]; done)), H', ⟨by have := HK1.out; have := HJ11.out; omega⟩, ⟨by (with_reducible repeat (first | apply Kd.R_alloc | apply Kd.R_drewN | apply Kd.R_drew)); exact HO385.out⟩, ⟨by (with_reducible repeat (first | apply Kd.R_alloc | apply Kd.R_drewN | apply Kd.R_drew)); exact Kd.R_mono HO_6.out (fun _ hk => hk.2)⟩, ⟨blk_x BK362.out⟩, ⟨by exact IsS90.up HI0.out⟩, ⟨by exact keep_y HK.out⟩, ⟨by exact below_y HB.out⟩⟩
              ·
               rw [if_neg c44] at H
               exact absurd H (by simp)
             ·
              rw [if_neg c42] at H
              exact absurd H (by simp)
            ·
             rw [if_neg c41] at H
             exact absurd H (by simp)
           ·
            rw [if_neg c40] at H
            exact absurd H (by simp)
          ·
           rw [if_neg c39] at H
           exact absurd H (by simp)
         ·
          rw [if_neg c38] at H
          have c38b0 : decide (0 ≤ t366) = false := decide_eq_false c38
          clear c38
          by_cases c49 : x5_1.length < 17592186044416
          ·
           rw [if_pos c49] at H
           have LMc49 := Aside0.mk c49
           clear c49
           obtain ⟨y386, hy386⟩ : ∃ y_ : List Int, y_ = (x5_1 ++ [t366]) := ⟨_, rfl⟩
           replace H : (swarfkit_StowageOf.l0 kj11 y386 x6_1 (wrap64 (x7_1 + 1)) t367 a1_0 a1_1 a1_2 l1_3 a1_4 l1_5 l1_6) = some (r1, r2) := by first | (rw [hy386]; with_reducible exact H) | (have H2_ := (Option.bind_some _ _).symm.trans H; rw [hy386]; with_reducible exact H2_) | (have H2_ := (Option.bind_some _ _).symm.trans H; with_reducible exact H2_) | with_reducible exact H | (rw [hy386]; exact H) | exact H
           have Ny386 := Aside0.mk hy386
           clear hy386
           have H' := Aside0.mk H
           clear H
           go_wp2_with (first | ((with_reducible refine gate_builtin (b := .append) (xs := #[.tmp 66, .tmp 68]) rfl ?_); at_builtin; refine Kd.R_append (Kd.int .i64) w.heap.size rfl (.tmp 66) (.tmp 68) 27 3 (.int .i64 0) 8 rfl Try.underlying27 info3 rfl (by decide) (by omega) u5 x5_1 t366 [.int .i64 t366] (fun k_ => some k_ ≠ (v364 : Value).ownBlock) (fun _ => False) rfl rfl ?aP (fun _ hk => hk.elim) ?aF ?aO (Below.refl _ _) ?aS ?aL ?_; (case aP => exact rfl); (case aF => exact (fun k_ hk => Kd.fresh' (Kd.R_lt (Kd.R_x HO_6.out)) k_ hk)); (case aO => exact (Kd.R_x HO_5.out)); (case aS => exact (keep_size (w := w) (g := g) (row := none) (by exact keep_y HK.out))); (case aL => have := LMc49.out; omega); intro v387 w50 ho hb hg hat; rw [← Ny386.out] at ho; replace HO_6 := Aside0.mk (Kd.R_after (ok := (fun _ => True)) (by (with_reducible repeat (first | apply Kd.R_alloc | apply Kd.R_drewN | apply Kd.R_drew)); exact Kd.R_mono HO_6.out (fun _ hk => ⟨trivial, hk⟩)) hg hat); replace BK362 := Aside0.mk (blk_grown (blk_x BK362.out) hg (Kd.R_ne HO_5.out BK362.out (by decide))); replace HI0 := Aside0.mk (IsS90.grown (by exact IsS90.up HI0.out) hg (IsS90.own_ne HI0.out HO_5.out (by decide))); replace HB := Aside0.mk (below_weaken (by exact below_y HB.out) HL.out hb); replace HK := Aside0.mk (KeepBut.trans (by exact keep_y HK.out) (KeepBut.of_grown hg g) (Kd.R_base2 HO_5.out)); have HO388 := Aside0.mk (ho); clear HO_5; clear ho hb hg hat))
           go_roundg kj11
           case measure => have := HK1.out; have := HJ11.out; omega
           case rel => exact ⟨(y386), (x6_1), (wrap64 (x7_1 + 1)), (t367), (by first | rfl | (simp; done) | (simp [*]; done)), H', ⟨by have := HK1.out; have := HJ11.out; omega⟩, ⟨by (with_reducible repeat (first | apply Kd.R_alloc | apply Kd.R_drewN | apply Kd.R_drew)); exact HO388.out⟩, ⟨by (with_reducible repeat (first | apply Kd.R_alloc | apply Kd.R_drewN | apply Kd.R_drew)); exact Kd.R_mono HO_6.out (fun _ hk => hk.2)⟩, ⟨blk_x BK362.out⟩, ⟨by exact IsS90.up HI0.out⟩, ⟨by exact keep_y HK.out⟩, ⟨by exact below_y HB.out⟩⟩
          ·
           rw [if_neg c49] at H
           exact absurd H (by simp)
     ·
      rw [if_neg c10] at H
      have c10b0 : decide (x7_1 < (l1_6.length : Int)) = false := decide_eq_false c10
      clear c10
      simp only [Option.some.injEq, Prod.mk.injEq] at H
      obtain ⟨rfl, rfl⟩ := H
      have hnb51 := NB362_0.out
      have hnc51 := NB0_362.out
      obtain ⟨_, _, _, _, _, _, _⟩ := cz7 BK362
      have hfz52_0 := blk_frozen BK362.out
      go_wp2
      go_ret
      exact ⟨_, by first | rfl | (simp [errW_none, errW_some] <;> rfl) | (simp [*, errW_none, errW_some] <;> rfl), by (with_reducible repeat (first | apply Kd.R_alloc | apply Kd.R_drewN | apply Kd.R_drew)); exact Kd.R_mono HO_5.out (fun _ hk => trivial), by exact IsS90.up HI0.out, by exact below_y HB.out, by exact keep_y HK.out⟩
  ·
   rw [if_neg c4] at H
   exact absurd H (by simp)
 ·
  rw [if_neg c3] at H
  exact absurd H (by simp)
def swarfkit_Ints.f (l0 : List Int) : Option (List Int) := (some (([] : List Int) : List Int)).bind fun y389 => (if y389.length + l0.length < 17592186044416 then (some (y389 ++ l0)) else (none))
set_option maxHeartbeats 8000000 in
set_option maxRecDepth 100000 in
theorem swarfkit_Ints.calls (A0 : Option Addr) (c0 : Nat) (l0 : List Int) (r : List Int) (w : World) (hr0 : Kd.C (Kd.int .i64) w A0 l0.length l0) (hc0 : l0.length ≤ c0) (h : swarfkit_Ints.f l0 = some r) :
  Calls Try.prog 21 #[.slice A0 l0.length c0] w fun e w' => ∃ v0_ : Value, e = .returned (v0_) ∧ Kd.R (Kd.int .i64) 3 w' w.heap.size (fun _ => True) v0_ r ∧ Below w.heap.size w w' := by
 have HR0 := Aside0.mk hr0
 have HC0 := Aside0.mk hc0
 clear hr0 hc0
 have HB := Aside0.mk (Below.refl w.heap.size w)
 have H : ((some (([] : List Int) : List Int)).bind fun y389 => (if y389.length + l0.length < 17592186044416 then (some (y389 ++ l0)) else (none))) = some r := h
 clear h
 obtain ⟨y389, hy389⟩ : ∃ y_ : List Int, y_ = (([] : List Int)) := ⟨_, rfl⟩
 replace H : (if y389.length + l0.length < 17592186044416 then (some (y389 ++ l0)) else (none)) = some r := by first | (rw [hy389]; with_reducible exact H) | (have H2_ := (Option.bind_some _ _).symm.trans H; rw [hy389]; with_reducible exact H2_) | (have H2_ := (Option.bind_some _ _).symm.trans H; with_reducible exact H2_) | with_reducible exact H | (rw [hy389]; exact H) | exact H
 have Ny389 := Aside0.mk hy389
 clear hy389
 by_cases c2 : y389.length + l0.length < 17592186044416
 ·
  rw [if_pos c2] at H
  have LMc2 := Aside0.mk c2
  clear c2
  obtain ⟨y392, hy392⟩ : ∃ y_ : List Int, y_ = (y389 ++ l0) := ⟨_, rfl⟩
  replace H : (some y392) = some r := by first | (rw [hy392]; with_reducible exact H) | (have H2_ := (Option.bind_some _ _).symm.trans H; rw [hy392]; with_reducible exact H2_) | (have H2_ := (Option.bind_some _ _).symm.trans H; with_reducible exact H2_) | with_reducible exact H | (rw [hy392]; exact H) | exact H
  have Ny392 := Aside0.mk hy392
  clear hy392
  obtain rfl := Option.some.inj H
  go_enter Try.func21, Try.ntmps21
  go_wp2_with (first | ((with_reducible refine gate_dst (N := 3) rfl ?_); refine Kd.R_lit (Kd.int .i64) _ 3 ?hg (N := 3) ?hd (xs := ([] : List Int)) (inner := []) (ok := fun _ => True) (okp := fun _ => True) ?hr ?hp (fun _ hk => hk) trivial (Below.refl _ _) (Nat.le_refl _) (by simp) ?_; (case hd => rfl); (case hg => rfl); (case hr => first | (go_simp; done) | (go_simp; rfl)); (case hp => exact (Reps.none _ _)); intro v390 w3 ho4 hb hg_ hnew_; clear hg_ hnew_; (first | rw [← Ny389.out] at ho4 | (simp only [Int.reduceToNat] at ho4; rw [← Ny389.out] at ho4)); have HO391 := Aside0.mk (Kd.R_lower ho4 (below_size (below_x HB.out))); replace HB := Aside0.mk (below_step (below_x HB.out) hb); clear hb ho4) | ((with_reducible refine gate_builtin (b := .append) (xs := #[.tmp 3, .tmp 4]) rfl ?_); at_builtin; refine Kd.R_append_rows (Kd.int .i64) (w0 := w) w.heap.size rfl (.tmp 3) (.tmp 4) 27 3 (.int .i64 0) 8 rfl Try.underlying27 info3 rfl (by decide) (by omega) v390 y389 l0 _ _ _ (fun _ => True) (fun _ => False) rfl rfl ?aO ?aR (fun _ _ h => h) (fun _ h => h.elim) ?aF ?aB ?aS ?aL ?_; (case aR => exact Kd.C_x HR0.out HB.out); (case aB => exact (below_x HB.out)); (case aF => exact (fun _ _ => trivial)); (case aO => exact (Kd.R_x HO391.out)); (case aS => exact (below_size (below_x HB.out))); (case aL => have := LMc2.out; omega); intro v393 w5 ho hb hg hat; rw [← Ny392.out] at ho; replace HB := Aside0.mk (hb); have HO394 := Aside0.mk (ho); clear HO391; clear ho hb hg hat))
  go_ret
  exact ⟨_, by first | rfl | (simp [errW_none, errW_some] <;> rfl) | (simp [*, errW_none, errW_some] <;> rfl), by (with_reducible repeat (first | apply Kd.R_alloc | apply Kd.R_drewN | apply Kd.R_drew)); exact HO394.out, by exact below_y HB.out⟩
 ·
  rw [if_neg c2] at H
  exact absurd H (by simp)
mutual
def swarflaw07_sooner.j0 : Nat → List (S56) → List (S56) → Bool → Option (Bool)
 | 0, _, _, _ => none
 | k + 1, x1, x3, x30 => if x30 = true then (some false) else (swarflaw07_sooner.l0 k x1 x3 0)
def swarflaw07_sooner.l0 : Nat → List (S56) → List (S56) → Int → Option (Bool)
 | 0, _, _, _ => none
 | k + 1, x1, x3, x9 => if x9 < (x1.length : Int) then (if 0 ≤ x9 then (if x9 < (x3.length : Int) then (if ((rd_T56 x3 x9).f0) > ((rd_T56 x1 x9).f0) then (some false) else (if ((rd_T56 x3 x9).f1) > ((rd_T56 x1 x9).f1) then (some false) else (swarflaw07_sooner.l0 k x1 x3 (wrap64 (x9 + 1))))) else (none)) else (none)) else (some true)
end
def swarflaw07_sooner.f (k : Nat) (a0 : Int) (l1 : List (S56)) (a2 : Int) (l3 : List (S56)) : Option (Bool) := if a0 = 1 then (if a2 = 1 then (if a0 = 2 then (swarflaw07_sooner.j0 k l1 l3 (decide ((l3.length : Int) < (l1.length : Int)))) else (if a2 = 2 then (swarflaw07_sooner.j0 k l1 l3 true) else (swarflaw07_sooner.j0 k l1 l3 (decide ((l3.length : Int) < (l1.length : Int)))))) else (swarflaw07_sooner.j0 k l1 l3 true)) else (if a0 = 2 then (swarflaw07_sooner.j0 k l1 l3 (decide ((l3.length : Int) < (l1.length : Int)))) else (if a2 = 2 then (swarflaw07_sooner.j0 k l1 l3 true) else (swarflaw07_sooner.j0 k l1 l3 (decide ((l3.length : Int) < (l1.length : Int))))))
set_option maxHeartbeats 8000000 in
set_option maxRecDepth 100000 in
theorem swarflaw07_sooner.calls (k : Nat) (a0 : Int) (A1 : Option Addr) (c1 : Nat) (l1 : List (S56)) (a2 : Int) (A3 : Option Addr) (c3 : Nat) (l3 : List (S56)) (r : Bool) (w : World) (hr1 : Kd.C k56 w A1 l1.length l1) (hc1 : l1.length ≤ c1) (hr3 : Kd.C k56 w A3 l3.length l3) (hc3 : l3.length ≤ c3) (h : swarflaw07_sooner.f k a0 l1 a2 l3 = some r) :
  Calls Try.prog 30 #[.int .i64 a0, .slice A1 l1.length c1, .int .i64 a2, .slice A3 l3.length c3] w fun e w' => e = .returned (.bool r) ∧ Drawn0 w w' := by
 have HR1 := Aside0.mk hr1
 have HC1 := Aside0.mk hc1
 clear hr1 hc1
 have HR3 := Aside0.mk hr3
 have HC3 := Aside0.mk hc3
 clear hr3 hc3
 have H : (if a0 = 1 then (if a2 = 1 then (if a0 = 2 then (swarflaw07_sooner.j0 k l1 l3 (decide ((l3.length : Int) < (l1.length : Int)))) else (if a2 = 2 then (swarflaw07_sooner.j0 k l1 l3 true) else (swarflaw07_sooner.j0 k l1 l3 (decide ((l3.length : Int) < (l1.length : Int)))))) else (swarflaw07_sooner.j0 k l1 l3 true)) else (if a0 = 2 then (swarflaw07_sooner.j0 k l1 l3 (decide ((l3.length : Int) < (l1.length : Int)))) else (if a2 = 2 then (swarflaw07_sooner.j0 k l1 l3 true) else (swarflaw07_sooner.j0 k l1 l3 (decide ((l3.length : Int) < (l1.length : Int))))))) = some r := h
 clear h
 have HC5 := Aside0.mk H
 clear H
 go_enter Try.func30, Try.ntmps30
 go_upto_region 1 with (fail)
 repeat (go_quiet (fail); go_upto_region 1 with (fail))
 go_cut [30] (fun v30 wc => ∃ (kq : Nat) (x30_4 : Bool), v30 = .bool x30_4 ∧ Aside0 (swarflaw07_sooner.j0 kq l1 l3 x30_4 = some r) ∧ Aside0 (kq ≤ k) ∧ Drawn0 w wc)
 case first =>
  have H := HC5.out
  clear HC5
  by_cases c6 : a0 = 1
  ·
   rw [if_pos c6] at H
   have c6b0 : (a0 == 1) = true := beq_iff_eq.mpr c6
   have c6b1 : (a0 != 1) = false := bne_eq_false_iff_eq.mpr c6
   clear c6
   (first | rw [c6b0] | (simp only [i64_w, i32_w]; rw [c6b0]) | skip)
   by_cases c7 : a2 = 1
   ·
    rw [if_pos c7] at H
    have c7b0 : (a2 == 1) = true := beq_iff_eq.mpr c7
    have c7b1 : (a2 != 1) = false := bne_eq_false_iff_eq.mpr c7
    clear c7
    by_cases c8 : a0 = 2
    ·
     rw [if_pos c8] at H
     have c8b0 : (a0 == 2) = true := beq_iff_eq.mpr c8
     have c8b1 : (a0 != 2) = false := bne_eq_false_iff_eq.mpr c8
     clear c8
     have H' := Aside0.mk H
     clear H
     go_wp2
     repeat (go_quiet (fail); try go_wp2)
     go_meet
     case rel => exact ⟨_, (decide ((l3.length : Int) < (l1.length : Int))), (by first | rfl | (simp; done) | (simp [*]; done)), H', ⟨by first | omega | exact Nat.le_refl _⟩, by repeat (first | exact Drawn0.refl _ | apply Drawn0.step)⟩
    ·
     rw [if_neg c8] at H
     have c8b0 : (a0 == 2) = false := beq_eq_false_iff_ne.mpr c8
     have c8b1 : (a0 != 2) = true := bne_iff_ne.mpr c8
     by_cases c9 : a2 = 2
     ·
      rw [if_pos c9] at H
      have c9b0 : (a2 == 2) = true := beq_iff_eq.mpr c9
      have c9b1 : (a2 != 2) = false := bne_eq_false_iff_eq.mpr c9
      clear c9
      have H' := Aside0.mk H
      clear H
      go_wp2
      repeat (go_quiet (fail); try go_wp2)
      go_meet
      case rel => exact ⟨_, (true), (by first | rfl | (simp; done) | (simp [*]; done)), H', ⟨by first | omega | exact Nat.le_refl _⟩, by repeat (first | exact Drawn0.refl _ | apply Drawn0.step)⟩
     ·
      rw [if_neg c9] at H
      have c9b0 : (a2 == 2) = false := beq_eq_false_iff_ne.mpr c9
      have c9b1 : (a2 != 2) = true := bne_iff_ne.mpr c9
      have H' := Aside0.mk H
      clear H
      go_wp2
      repeat (go_quiet (fail); try go_wp2)
      go_meet
      case rel => exact ⟨_, (decide ((l3.length : Int) < (l1.length : Int))), (by first | rfl | (simp; done) | (simp [*]; done)), H', ⟨by first | omega | exact Nat.le_refl _⟩, by repeat (first | exact Drawn0.refl _ | apply Drawn0.step)⟩
   ·
    rw [if_neg c7] at H
    have c7b0 : (a2 == 1) = false := beq_eq_false_iff_ne.mpr c7
    have c7b1 : (a2 != 1) = true := bne_iff_ne.mpr c7
    have H' := Aside0.mk H
    clear H
    go_wp2
    repeat (go_quiet (fail); try go_wp2)
    go_meet
    case rel => exact ⟨_, (true), (by first | rfl | (simp; done) | (simp [*]; done)), H', ⟨by first | omega | exact Nat.le_refl _⟩, by repeat (first | exact Drawn0.refl _ | apply Drawn0.step)⟩
  ·
   rw [if_neg c6] at H
   have c6b0 : (a0 == 1) = false := beq_eq_false_iff_ne.mpr c6
   have c6b1 : (a0 != 1) = true := bne_iff_ne.mpr c6
   (first | rw [c6b0] | (simp only [i64_w, i32_w]; rw [c6b0]) | skip)
   by_cases c10 : a0 = 2
   ·
    rw [if_pos c10] at H
    have c10b0 : (a0 == 2) = true := beq_iff_eq.mpr c10
    have c10b1 : (a0 != 2) = false := bne_eq_false_iff_eq.mpr c10
    clear c10
    have H' := Aside0.mk H
    clear H
    go_wp2
    repeat (go_quiet (fail); try go_wp2)
    go_meet
    case rel => exact ⟨_, (decide ((l3.length : Int) < (l1.length : Int))), (by first | rfl | (simp; done) | (simp [*]; done)), H', ⟨by first | omega | exact Nat.le_refl _⟩, by repeat (first | exact Drawn0.refl _ | apply Drawn0.step)⟩
   ·
    rw [if_neg c10] at H
    have c10b0 : (a0 == 2) = false := beq_eq_false_iff_ne.mpr c10
    have c10b1 : (a0 != 2) = true := bne_iff_ne.mpr c10
    by_cases c11 : a2 = 2
    ·
     rw [if_pos c11] at H
     have c11b0 : (a2 == 2) = true := beq_iff_eq.mpr c11
     have c11b1 : (a2 != 2) = false := bne_eq_false_iff_eq.mpr c11
     clear c11
     have H' := Aside0.mk H
     clear H
     go_wp2
     repeat (go_quiet (fail); try go_wp2)
     go_meet
     case rel => exact ⟨_, (true), (by first | rfl | (simp; done) | (simp [*]; done)), H', ⟨by first | omega | exact Nat.le_refl _⟩, by repeat (first | exact Drawn0.refl _ | apply Drawn0.step)⟩
    ·
     rw [if_neg c11] at H
     have c11b0 : (a2 == 2) = false := beq_eq_false_iff_ne.mpr c11
     have c11b1 : (a2 != 2) = true := bne_iff_ne.mpr c11
     have H' := Aside0.mk H
     clear H
     go_wp2
     repeat (go_quiet (fail); try go_wp2)
     go_meet
     case rel => exact ⟨_, (decide ((l3.length : Int) < (l1.length : Int))), (by first | rfl | (simp; done) | (simp [*]; done)), H', ⟨by first | omega | exact Nat.le_refl _⟩, by repeat (first | exact Drawn0.refl _ | apply Drawn0.step)⟩
 case rest =>
  clear HC5
  obtain ⟨kq, x30_4, rfl, HA, HJ4, ⟨mc4, rfl⟩⟩ := hcut
  cases kq with
  | zero => exact absurd HA.out (by simp [swarflaw07_sooner.j0])
  | succ kj4 =>
   have H := HA.out
   clear HA
   simp only [swarflaw07_sooner.j0] at H
   by_cases c12 : x30_4 = true
   ·
    subst c12
    have H1 : (some false) = some r := by rw [if_pos rfl] at H; exact H
    clear H
    have H := H1
    clear H1
    obtain rfl := Option.some.inj H
    go_wp2
    repeat (go_quiet (fail); try go_wp2)
    go_ret
    exact ⟨by first | rfl | (simp; done) | (simp [*]; done), by repeat (first | exact Drawn0.refl _ | apply Drawn0.step)⟩
   ·
    replace c12 := Bool.eq_false_iff.mpr c12
    subst c12
    have H1 : (swarflaw07_sooner.l0 kj4 l1 l3 0) = some r := by rw [if_neg (show ¬ (false = true) by decide)] at H; exact H
    clear H
    have H := H1
    clear H1
    have H' := Aside0.mk H
    clear H
    go_wp2
    repeat (go_quiet (fail); try go_wp2)
    go_loopg [9] kj4 (fun kq v9 w' => ∃ (x9_2 : Int), v9 = .int .i64 x9_2 ∧ Aside0 (swarflaw07_sooner.l0 kq l1 l3 x9_2 = some r) ∧ Aside0 (kq ≤ kj4) ∧ Drawn0 w w')
    case atStart => exact ⟨(0), (by first | rfl | (simp; done) | (simp [*]; done)), H', ⟨Nat.le_refl _⟩, by repeat (first | exact Drawn0.refl _ | apply Drawn0.step)⟩
    case round =>
     clear H'
     obtain ⟨x9_2, rfl, HA, HK2, ⟨m2, rfl⟩⟩ := hrel
     cases gk with
     | zero => exact absurd HA.out (by simp [swarflaw07_sooner.l0])
     | succ k2 =>
      have H := HA.out
      clear HA
      simp only [swarflaw07_sooner.l0] at H
      by_cases c13 : x9_2 < (l1.length : Int)
      ·
       rw [if_pos c13] at H
       have c13b0 : decide (x9_2 < (l1.length : Int)) = true := decide_eq_true c13
       clear c13
       by_cases c14 : 0 ≤ x9_2
       ·
        rw [if_pos c14] at H
        have c14b0 : decide (0 ≤ x9_2) = true := decide_eq_true c14
        clear c14
        by_cases c15 : x9_2 < (l3.length : Int)
        ·
         rw [if_pos c15] at H
         have c15b0 : decide (x9_2 < (l3.length : Int)) = true := decide_eq_true c15
         clear c15
         by_cases c16 : ((rd_T56 l3 x9_2).f0) > ((rd_T56 l1 x9_2).f0)
         ·
          rw [if_pos c16] at H
          have c16b0 : decide (((rd_T56 l1 x9_2).f0) < ((rd_T56 l3 x9_2).f0)) = true := decide_eq_true c16
          clear c16
          obtain rfl := Option.some.inj H
          have p628 : 0 ≤ (x9_2 : Int) := of_x
          have q628 : x9_2 < (l3.length : Int) := of_x
          obtain ⟨ad628, e628, hx628_0, hx628_1⟩ := at_T56 HR3.out x9_2 p628 q628
          cases e628
          replace p628 := eq_true p628
          replace q628 := eq_true q628
          have p629 : 0 ≤ (x9_2 : Int) := of_x
          have q629 : x9_2 < (l1.length : Int) := of_x
          obtain ⟨ad629, e629, hx629_0, hx629_1⟩ := at_T56 HR1.out x9_2 p629 q629
          cases e629
          replace p629 := eq_true p629
          replace q629 := eq_true q629
          go_wp2
          repeat (go_quiet (fail); try go_wp2)
          go_ret
          exact ⟨by first | rfl | (simp; done) | (simp [*]; done), by repeat (first | exact Drawn0.refl _ | apply Drawn0.step)⟩
         ·
          rw [if_neg c16] at H
          have c16b0 : decide (((rd_T56 l1 x9_2).f0) < ((rd_T56 l3 x9_2).f0)) = false := decide_eq_false c16
          clear c16
          by_cases c17 : ((rd_T56 l3 x9_2).f1) > ((rd_T56 l1 x9_2).f1)
          ·
           rw [if_pos c17] at H
           have c17b0 : decide (((rd_T56 l1 x9_2).f1) < ((rd_T56 l3 x9_2).f1)) = true := decide_eq_true c17
           clear c17
           obtain rfl := Option.some.inj H
           have p628 : 0 ≤ (x9_2 : Int) := of_x
           have q628 : x9_2 < (l3.length : Int) := of_x
           obtain ⟨ad628, e628, hx628_0, hx628_1⟩ := at_T56 HR3.out x9_2 p628 q628
           cases e628
           replace p628 := eq_true p628
           replace q628 := eq_true q628
           have p629 : 0 ≤ (x9_2 : Int) := of_x
           have q629 : x9_2 < (l1.length : Int) := of_x
           obtain ⟨ad629, e629, hx629_0, hx629_1⟩ := at_T56 HR1.out x9_2 p629 q629
           cases e629
           replace p629 := eq_true p629
           replace q629 := eq_true q629
           have p630 : 0 ≤ (x9_2 : Int) := of_x
           have q630 : x9_2 < (l3.length : Int) := of_x
           obtain ⟨ad630, e630, hx630_0, hx630_1⟩ := at_T56 HR3.out x9_2 p630 q630
           obtain rfl : ad628 = ad630 := (by injection e630)
           replace p630 := eq_true p630
           replace q630 := eq_true q630
           have p631 : 0 ≤ (x9_2 : Int) := of_x
           have q631 : x9_2 < (l1.length : Int) := of_x
           obtain ⟨ad631, e631, hx631_0, hx631_1⟩ := at_T56 HR1.out x9_2 p631 q631
           obtain rfl : ad629 = ad631 := (by injection e631)
           replace p631 := eq_true p631
           replace q631 := eq_true q631
           go_wp2
           repeat (go_quiet (fail); try go_wp2)
           go_ret
           exact ⟨by first | rfl | (simp; done) | (simp [*]; done), by repeat (first | exact Drawn0.refl _ | apply Drawn0.step)⟩
          ·
           rw [if_neg c17] at H
           have c17b0 : decide (((rd_T56 l1 x9_2).f1) < ((rd_T56 l3 x9_2).f1)) = false := decide_eq_false c17
           clear c17
           have H' := Aside0.mk H
           clear H
           have p628 : 0 ≤ (x9_2 : Int) := of_x
           have q628 : x9_2 < (l3.length : Int) := of_x
           obtain ⟨ad628, e628, hx628_0, hx628_1⟩ := at_T56 HR3.out x9_2 p628 q628
           cases e628
           replace p628 := eq_true p628
           replace q628 := eq_true q628
           have p629 : 0 ≤ (x9_2 : Int) := of_x
           have q629 : x9_2 < (l1.length : Int) := of_x
           obtain ⟨ad629, e629, hx629_0, hx629_1⟩ := at_T56 HR1.out x9_2 p629 q629
           cases e629
           replace p629 := eq_true p629
           replace q629 := eq_true q629
           have p630 : 0 ≤ (x9_2 : Int) := of_x
           have q630 : x9_2 < (l3.length : Int) := of_x
           obtain ⟨ad630, e630, hx630_0, hx630_1⟩ := at_T56 HR3.out x9_2 p630 q630
           obtain rfl : ad628 = ad630 := (by injection e630)
           replace p630 := eq_true p630
           replace q630 := eq_true q630
           have p631 : 0 ≤ (x9_2 : Int) := of_x
           have q631 : x9_2 < (l1.length : Int) := of_x
           obtain ⟨ad631, e631, hx631_0, hx631_1⟩ := at_T56 HR1.out x9_2 p631 q631
           obtain rfl : ad629 = ad631 := (by injection e631)
           replace p631 := eq_true p631
           replace q631 := eq_true q631
           go_wp2
           repeat (go_quiet (fail); try go_wp2)
           go_roundg k2
           case measure => have := HJ4.out; have := HK2.out; omega
           case rel => exact ⟨(wrap64 (x9_2 + 1)), (by first | rfl | (simp; done) | (simp [*]; done)), H', ⟨by have := HJ4.out; have := HK2.out; omega⟩, by repeat (first | exact Drawn0.refl _ | apply Drawn0.step)⟩
        ·
         rw [if_neg c15] at H
         exact absurd H (by simp)
       ·
        rw [if_neg c14] at H
        exact absurd H (by simp)
      ·
       rw [if_neg c13] at H
       have c13b0 : decide (x9_2 < (l1.length : Int)) = false := decide_eq_false c13
       clear c13
       obtain rfl := Option.some.inj H
       go_wp2
       repeat (go_quiet (fail); try go_wp2)
       go_ret
       exact ⟨by first | rfl | (simp; done) | (simp [*]; done), by repeat (first | exact Drawn0.refl _ | apply Drawn0.step)⟩
noncomputable def swarflaw07_ShipLighter.l0 : Nat → List Int → List Int → Int → Int → Int → Int → Int → List (S85) → Int → List (S59) → List (S79) → Option (Bool)
 | 0, _, _, _, _, _, _, _, _, _, _, _ => none
 | k + 1, x5, x6, x7, x634000, x654000, x654001, x654002, x654003, x654004, x654005, x654006 => if x7 < (x6.length : Int) then (if 0 ≤ x7 then ((swarfkit_Feed_Either.f x634000 (([rd x6 x7, (-1)] : List Int))).bind fun bt665 => (swarflaw07_ShipLighter.l0 k x5 (x6.set (x7 : Int).toNat bt665.1) (wrap64 (x7 + 1)) bt665.2 x654000 x654001 x654002 x654003 x654004 x654005 x654006)) else (none)) else ((ship_Sail.f x654000 x654001 x654002 x654003 x654004 x654005 x654006 x5).bind fun bt668 => ((ship_Sail.f x654000 x654001 x654002 x654003 x654004 x654005 x654006 x6).bind fun bt673 => (if bt668.2.2 = 0 then (if bt673.2.2 = 0 then ((swarflaw07_sooner.f k bt668.1 bt668.2.1 bt673.1 bt673.2.1).bind fun t678 => (if t678 = true then ((swarflaw07_awake.f k).bind fun t679 => (some t679)) else (some false))) else (some false)) else (some false))))
noncomputable def swarflaw07_ShipLighter.f (k : Nat) (l0 : List Int) : Option (Bool) := (swarfkit_FeedOf.f l0).bind fun t632 => ((swarfkit_Feed_Either.f t632 (([4, 30] : List Int))).bind fun bt637 => ((swarfkit_VoyageOf.f k bt637.2 3 4 6 bt637.1).bind fun bt639 => ((swarfkit_StowageOf.f k bt639.2.2.2.2.2.2.2 bt639.1 bt639.2.1 bt639.2.2.1 bt639.2.2.2.1 bt639.2.2.2.2.1 bt639.2.2.2.2.2.1 bt639.2.2.2.2.2.2.1).bind fun bt654 => ((swarfkit_Ints.f bt654.1).bind fun t658 => (swarflaw07_ShipLighter.l0 k bt654.1 t658 0 bt654.2 bt639.1 bt639.2.1 bt639.2.2.1 bt639.2.2.2.1 bt639.2.2.2.2.1 bt639.2.2.2.2.2.1 bt639.2.2.2.2.2.2.1)))))
set_option maxHeartbeats 8000000 in
set_option maxRecDepth 100000 in
theorem swarflaw07_ShipLighter.calls (k : Nat) (A0 : Option Addr) (c0 : Nat) (l0 : List Int) (r : Bool) (hrt : Aside0 (r = true)) (w : World) (hr0 : Kd.C (Kd.int .i64) w A0 l0.length l0) (hc0 : l0.length ≤ c0) (h : swarflaw07_ShipLighter.f k l0 = some r) :
  Calls Try.prog 5 #[.slice A0 l0.length c0] w fun e w' => e = .returned (.bool r) ∧ Below w.heap.size w w' := by
 have hu26 := Try.underlying26
 have HR0 := Aside0.mk hr0
 have HC0 := Aside0.mk hc0
 clear hr0 hc0
 have HB := Aside0.mk (Below.refl w.heap.size w)
 have H : ((swarfkit_FeedOf.f l0).bind fun t632 => ((swarfkit_Feed_Either.f t632 (([4, 30] : List Int))).bind fun bt637 => ((swarfkit_VoyageOf.f k bt637.2 3 4 6 bt637.1).bind fun bt639 => ((swarfkit_StowageOf.f k bt639.2.2.2.2.2.2.2 bt639.1 bt639.2.1 bt639.2.2.1 bt639.2.2.2.1 bt639.2.2.2.2.1 bt639.2.2.2.2.2.1 bt639.2.2.2.2.2.2.1).bind fun bt654 => ((swarfkit_Ints.f bt654.1).bind fun t658 => (swarflaw07_ShipLighter.l0 k bt654.1 t658 0 bt654.2 bt639.1 bt639.2.1 bt639.2.2.1 bt639.2.2.2.1 bt639.2.2.2.2.1 bt639.2.2.2.2.2.1 bt639.2.2.2.2.2.2.1)))))) = some r := h
 clear h
 replace H := Option.bind_eq_some_iff.mp H
 obtain ⟨t632, A20, H⟩ := H
 try dsimp only at H
 have A2 := Aside0.mk A20
 clear A20
 obtain ⟨y634, hy634⟩ : ∃ y_ : List Int, y_ = (([4, 30] : List Int)) := ⟨_, rfl⟩
 replace H : ((swarfkit_Feed_Either.f t632 y634).bind fun bt637 => ((swarfkit_VoyageOf.f k bt637.2 3 4 6 bt637.1).bind fun bt639 => ((swarfkit_StowageOf.f k bt639.2.2.2.2.2.2.2 bt639.1 bt639.2.1 bt639.2.2.1 bt639.2.2.2.1 bt639.2.2.2.2.1 bt639.2.2.2.2.2.1 bt639.2.2.2.2.2.2.1).bind fun bt654 => ((swarfkit_Ints.f bt654.1).bind fun t658 => (swarflaw07_ShipLighter.l0 k bt654.1 t658 0 bt654.2 bt639.1 bt639.2.1 bt639.2.2.1 bt639.2.2.2.1 bt639.2.2.2.2.1 bt639.2.2.2.2.2.1 bt639.2.2.2.2.2.2.1))))) = some r := by first | (rw [hy634]; with_reducible exact H) | (have H2_ := (Option.bind_some _ _).symm.trans H; rw [hy634]; with_reducible exact H2_) | (have H2_ := (Option.bind_some _ _).symm.trans H; with_reducible exact H2_) | with_reducible exact H | (rw [hy634]; exact H) | exact H
 have Ny634 := Aside0.mk hy634
 clear hy634
 replace H := Option.bind_eq_some_iff.mp H
 obtain ⟨⟨t637, t638⟩, A30, H⟩ := H
 try dsimp only at H
 have A3 := Aside0.mk A30
 clear A30
 replace H := Option.bind_eq_some_iff.mp H
 obtain ⟨⟨t639, t640, t641, t642, t645, t646, t649, t652⟩, A40, H⟩ := H
 try dsimp only at H
 have A4 := Aside0.mk A40
 clear A40
 replace H := Option.bind_eq_some_iff.mp H
 obtain ⟨⟨t654, t657⟩, A50, H⟩ := H
 try dsimp only at H
 have A5 := Aside0.mk A50
 clear A50
 replace H := Option.bind_eq_some_iff.mp H
 obtain ⟨t658, A60, H⟩ := H
 try dsimp only at H
 have A6 := Aside0.mk A60
 clear A60
 have H' := Aside0.mk H
 clear H
 go_enter Try.func5, Try.ntmps5
 go_wp2_with (first | ((with_reducible refine gate_callee (f := 16) rfl ?_); refine goesL_ (some 15) rfl rfl Try.func16 (by kernel_rfl) rfl #[.slice A0 l0.length c0] rfl (by (try simp only [List.map_toArray, List.map_cons, List.map_nil]); first | done | rfl | (simp only [List.length_drop, List.length_take]; rfl)) ?_; (with_reducible refine (swarfkit_FeedOf.calls _ _ l0 t632 w _ ?side1 ?side2 ?side3 A2.out).mono ?_); (case side1 => exact below_y HB.out); (case side2 => exact HR0.out); (case side3 => exact HC0.out); rintro e w7 ⟨g633, rfl, hi, hb, hb2⟩; refine ⟨_, rfl, ?_⟩; replace HB := Aside0.mk (hb); have HI633 := Aside0.mk (hi); (try clear hb); (try clear hk); (try clear hi)) | ((with_reducible refine gate_dst (N := 18) rfl ?_); refine Kd.R_lit (Kd.int .i64) _ 3 ?hg (N := 18) ?hd (xs := ([4, 30] : List Int)) (inner := [.int .i64 4, .int .i64 30]) (ok := fun _ => True) (okp := fun _ => True) ?hr ?hp (fun _ hk => hk) trivial (Below.refl _ _) (Nat.le_refl _) (by simp) ?_; (case hd => rfl); (case hg => rfl); (case hr => first | (go_simp; done) | (go_simp; rfl)); (case hp => exact (Reps.one (show Kd.M (Kd.int .i64) _ _ _ 4 [.int .i64 4] from rfl) (Reps.one (show Kd.M (Kd.int .i64) _ _ _ 30 [.int .i64 30] from rfl) (Reps.none _ _)))); intro v635 w8 ho9 hb hg_ hnew_; clear hg_ hnew_; (first | rw [← Ny634.out] at ho9 | (simp only [Int.reduceToNat] at ho9; rw [← Ny634.out] at ho9)); have HO636 := Aside0.mk (Kd.R_lower ho9 (below_size (by exact below_y HB.out))); replace HI633 := Aside0.mk (IsS90.below (by exact IsS90.up HI633.out) hb); replace HB := bl_x HB hb; clear hb ho9; obtain ⟨Ao10, co10, eo10⟩ := Kd.R_slice HO636.out; subst eo10) | ((with_reducible refine gate_callee (f := 18) rfl ?_); refine goesL_ (some 19) rfl rfl Try.func18 (by kernel_rfl) rfl #[.pointer (some ⟨g633, 0, none⟩), .slice Ao10 y634.length co10] rfl (by (try simp only [List.map_toArray, List.map_cons, List.map_nil]); first | done | rfl | (simp only [List.length_drop, List.length_take]; rfl)) ?_; (with_reducible refine (swarfkit_Feed_Either.calls g633 t632 _ _ y634 t637 t638 w _ ?side1 ?side2 ?side3 ?side4 ?side5 A3.out).mono ?_); (case side1 => exact IsS90.up HI633.out); (case side2 => exact below_y HB.out); (case side3 => exact Kd.C_y (Kd.R_reads' HO636.out).2.2); (case side4 => exact (Kd.R_reads' HO636.out).2.1); (case side5 => exact far_slice (IsS90.own_ne HI633.out HO636.out (by decide))); rintro e w11 ⟨rfl, hi, hb, hk⟩; refine ⟨_, rfl, ?_⟩; replace HO636 := Aside0.mk (Kd.R_mono (Kd.R_keep (IsS90.apart (show IsS90 w _ g633 t632 from by exact IsS90.up HI633.out) (Kd.R_x HO636.out) (by decide)) hk (fun _ h => h.2)) (fun _ h => h.1)); replace HB := Aside0.mk (hb); replace HI633 := Aside0.mk (hi); (try clear hb); (try clear hk); (try clear hi)) | ((with_reducible refine gate_callee (f := 17) rfl ?_); refine goesL_ (some 20) rfl rfl Try.func17 (by kernel_rfl) rfl #[.pointer (some ⟨g633, 0, none⟩), .int .i64 3, .int .i64 4, .int .i64 6, .int .i64 t637] rfl (by (try simp only [List.map_toArray, List.map_cons, List.map_nil]); first | done | rfl | (simp only [List.length_drop, List.length_take]; rfl)) ?_; (with_reducible refine (swarfkit_VoyageOf.calls k g633 t638 3 4 6 t637 t639 t640 t641 t642 t645 t646 t649 t652 w _ ?side1 ?side2 A4.out).mono ?_); (case side1 => exact IsS90.up HI633.out); (case side2 => exact below_y HB.out); rintro e w12 ⟨v643, v647, v650, rfl, ho0, ho1, ho2, hi, hb, hk⟩; refine ⟨_, rfl, ?_⟩; replace HO636 := Aside0.mk (Kd.R_mono (Kd.R_keep (IsS90.apart (show IsS90 w _ g633 t638 from by exact IsS90.up HI633.out) (Kd.R_x HO636.out) (by decide)) hk (fun _ h => h.2)) (fun _ h => h.1)); have HO644 := Aside0.mk (Kd.R_lower ho0 (below_size (by exact below_y HB.out))); have HO648 := Aside0.mk (Kd.S_lower ho1 (below_size (by exact below_y HB.out))); have HO651 := Aside0.mk (Kd.R_lower ho2 (below_size (by exact below_y HB.out))); replace HB := Aside0.mk (hb); replace HI633 := Aside0.mk (hi); (try clear hb); (try clear hk); (try clear hi); (try clear ho0); (try clear ho1); (try clear ho2)) | ((with_reducible refine gate_dst (N := 4) rfl ?_); refine box_event ?hg (N := 4) ?hd (cs := #[.int .i64 0, .int .i64 0, .int .i64 0, .slice none 0 0, .int .i64 0, .slice none 0 0, .slice none 0 0]) (t := 26) ?hr ?_; (case hd => rfl); (case hg => rfl); (case hr => first | (go_simp; done) | (go_simp; rfl)); intro gb653 hg w13 hbox hb; replace HO636 := Aside0.mk (Kd.R_below (Kd.R_x HO636.out) hb); replace HO644 := Aside0.mk (Kd.R_below (Kd.R_x HO644.out) hb); replace HO648 := Aside0.mk (Kd.S_below (Kd.S_x HO648.out) hb); replace HO651 := Aside0.mk (Kd.R_below (Kd.R_x HO651.out) hb); have BK653 := Aside0.mk (hbox); have GW653 := Aside0.mk ((by rw [hg]; exact (below_size (by exact below_y HB.out)) : w.heap.size ≤ gb653)); have GE653 := Aside0.mk ((by rw [hg]; exact (below_size (by exact below_y HB.out)) : w.heap.size ≤ gb653)); replace HB := bl_x HB hb; have NB633_653 := Aside0.mk ((by rw [hg]; exact Nat.ne_of_lt (IsS90.lt (show IsS90 w _ g633 t652 from by exact IsS90.up HI633.out)) : g633 ≠ gb653)); have NB653_633 := Aside0.mk ((by rw [hg]; exact Nat.ne_of_gt (IsS90.lt (show IsS90 w _ g633 t652 from by exact IsS90.up HI633.out)) : gb653 ≠ g633)); replace HI633 := Aside0.mk (IsS90.below (by exact IsS90.up HI633.out) hb); clear hb hbox hg; have hnb14 := NB653_633.out; have hnc14 := NB633_653.out; obtain ⟨_, _, _, _, _, _, _⟩ := cz7 BK653; have hfz15_0 := blk_frozen BK653.out; obtain ⟨Ao16, co16, eo16⟩ := Kd.R_slice HO644.out; subst eo16; obtain ⟨Ao17, co17, eo17⟩ := Kd.S_slice HO648.out; subst eo17; obtain ⟨Ao18, co18, eo18⟩ := Kd.R_slice HO651.out; subst eo18) | ((with_reducible refine gate_callee (f := 19) rfl ?_); refine goesL_ (some 23) rfl rfl Try.func19 (by kernel_rfl) rfl #[.pointer (some ⟨g633, 0, none⟩), .agg #[.int .i64 t639, .int .i64 t640, .int .i64 t641, .slice Ao16 t642.length co16, .int .i64 t645, .slice Ao17 t646.length co17, .slice Ao18 t649.length co18]] rfl (by (try simp only [List.map_toArray, List.map_cons, List.map_nil]); first | done | rfl | (simp only [List.length_drop, List.length_take]; rfl)) ?_; (with_reducible refine (swarfkit_StowageOf.calls k g633 t652 t639 t640 t641 _ _ t642 t645 _ _ t646 _ _ t649 t654 t657 w _ ?side1 ?side2 ?side3 ?side4 ?side5 ?side6 ?side7 ?side8 A5.out).mono ?_); (case side1 => exact IsS90.up HI633.out); (case side2 => exact below_y HB.out); (case side3 => exact Kd.C_foot_own (IsS90.apart (show IsS90 w _ g633 t652 from by exact IsS90.up HI633.out) (by (with_reducible repeat (first | apply Kd.R_alloc | apply Kd.R_drewN | apply Kd.R_drew)); exact (Kd.R_mono (Kd.R_far (p := ⟨gb653, 6, none⟩) (Kd.R_far (p := ⟨gb653, 5, none⟩) (Kd.R_far (p := ⟨gb653, 4, none⟩) (Kd.R_far (p := ⟨gb653, 3, none⟩) (Kd.R_far (p := ⟨gb653, 2, none⟩) (Kd.R_far (p := ⟨gb653, 1, none⟩) (Kd.R_far (p := ⟨gb653, 0, none⟩) (Kd.R_types HO644.out BK653.out (by decide)) (fun _ hk => hk.2) (.int .i64 t639)) (fun _ hk => hk.2) (.int .i64 t640)) (fun _ hk => hk.2) (.int .i64 t641)) (fun _ hk => hk.2) (.slice Ao16 t642.length co16)) (fun _ hk => hk.2) (.int .i64 t645)) (fun _ hk => hk.2) (.slice Ao17 t646.length co17)) (fun _ hk => hk.2) (.slice Ao18 t649.length co18)) (fun _ h_ => h_.1))) (by decide)) (fun _ h_ => h_.2)); (case side4 => exact (Kd.R_reads' HO644.out).2.1); (case side5 => exact Kd.C_foot_own ((Kd.S_R (IsS90.apartS (show IsS90 w _ g633 t652 from by exact IsS90.up HI633.out) (by (with_reducible repeat (first | apply Kd.S_alloc | apply Kd.S_drewN | apply Kd.S_drew)); exact (Kd.S_mono (Kd.S_far (p := ⟨gb653, 6, none⟩) (Kd.S_far (p := ⟨gb653, 5, none⟩) (Kd.S_far (p := ⟨gb653, 4, none⟩) (Kd.S_far (p := ⟨gb653, 3, none⟩) (Kd.S_far (p := ⟨gb653, 2, none⟩) (Kd.S_far (p := ⟨gb653, 1, none⟩) (Kd.S_far (p := ⟨gb653, 0, none⟩) (Kd.S_types HO648.out BK653.out (by decide)) (fun _ hk => hk.2) (.int .i64 t639)) (fun _ hk => hk.2) (.int .i64 t640)) (fun _ hk => hk.2) (.int .i64 t641)) (fun _ hk => hk.2) (.slice Ao16 t642.length co16)) (fun _ hk => hk.2) (.int .i64 t645)) (fun _ hk => hk.2) (.slice Ao17 t646.length co17)) (fun _ hk => hk.2) (.slice Ao18 t649.length co18)) (fun _ h_ => h_.1))) (by decide)))) (fun _ h_ => h_.2)); (case side6 => exact (Kd.S_reads' HO648.out).2.1); (case side7 => exact Kd.C_foot_own (IsS90.apart (show IsS90 w _ g633 t652 from by exact IsS90.up HI633.out) (by (with_reducible repeat (first | apply Kd.R_alloc | apply Kd.R_drewN | apply Kd.R_drew)); exact (Kd.R_mono (Kd.R_far (p := ⟨gb653, 6, none⟩) (Kd.R_far (p := ⟨gb653, 5, none⟩) (Kd.R_far (p := ⟨gb653, 4, none⟩) (Kd.R_far (p := ⟨gb653, 3, none⟩) (Kd.R_far (p := ⟨gb653, 2, none⟩) (Kd.R_far (p := ⟨gb653, 1, none⟩) (Kd.R_far (p := ⟨gb653, 0, none⟩) (Kd.R_types HO651.out BK653.out (by decide)) (fun _ hk => hk.2) (.int .i64 t639)) (fun _ hk => hk.2) (.int .i64 t640)) (fun _ hk => hk.2) (.int .i64 t641)) (fun _ hk => hk.2) (.slice Ao16 t642.length co16)) (fun _ hk => hk.2) (.int .i64 t645)) (fun _ hk => hk.2) (.slice Ao17 t646.length co17)) (fun _ hk => hk.2) (.slice Ao18 t649.length co18)) (fun _ h_ => h_.1))) (by decide)) (fun _ h_ => h_.2)); (case side8 => exact (Kd.R_reads' HO651.out).2.1); rintro e w19 ⟨v655, rfl, ho0, hi, hb, hk⟩; refine ⟨_, rfl, ?_⟩; replace HO644 := Aside0.mk (Kd.R_mono (Kd.R_keep (IsS90.apart (show IsS90 w _ g633 t652 from by exact IsS90.up HI633.out) (by (with_reducible repeat (first | apply Kd.R_alloc | apply Kd.R_drewN | apply Kd.R_drew)); exact (Kd.R_mono (Kd.R_far (p := ⟨gb653, 6, none⟩) (Kd.R_far (p := ⟨gb653, 5, none⟩) (Kd.R_far (p := ⟨gb653, 4, none⟩) (Kd.R_far (p := ⟨gb653, 3, none⟩) (Kd.R_far (p := ⟨gb653, 2, none⟩) (Kd.R_far (p := ⟨gb653, 1, none⟩) (Kd.R_far (p := ⟨gb653, 0, none⟩) (Kd.R_types HO644.out BK653.out (by decide)) (fun _ hk => hk.2) (.int .i64 t639)) (fun _ hk => hk.2) (.int .i64 t640)) (fun _ hk => hk.2) (.int .i64 t641)) (fun _ hk => hk.2) (.slice Ao16 t642.length co16)) (fun _ hk => hk.2) (.int .i64 t645)) (fun _ hk => hk.2) (.slice Ao17 t646.length co17)) (fun _ hk => hk.2) (.slice Ao18 t649.length co18)) (fun _ h_ => h_.1))) (by decide)) hk (fun _ h => h.2)) (fun _ h => h.1)); replace HO648 := Aside0.mk (Kd.S_mono (Kd.S_keep (IsS90.apartS (show IsS90 w _ g633 t652 from by exact IsS90.up HI633.out) (by (with_reducible repeat (first | apply Kd.S_alloc | apply Kd.S_drewN | apply Kd.S_drew)); exact (Kd.S_mono (Kd.S_far (p := ⟨gb653, 6, none⟩) (Kd.S_far (p := ⟨gb653, 5, none⟩) (Kd.S_far (p := ⟨gb653, 4, none⟩) (Kd.S_far (p := ⟨gb653, 3, none⟩) (Kd.S_far (p := ⟨gb653, 2, none⟩) (Kd.S_far (p := ⟨gb653, 1, none⟩) (Kd.S_far (p := ⟨gb653, 0, none⟩) (Kd.S_types HO648.out BK653.out (by decide)) (fun _ hk => hk.2) (.int .i64 t639)) (fun _ hk => hk.2) (.int .i64 t640)) (fun _ hk => hk.2) (.int .i64 t641)) (fun _ hk => hk.2) (.slice Ao16 t642.length co16)) (fun _ hk => hk.2) (.int .i64 t645)) (fun _ hk => hk.2) (.slice Ao17 t646.length co17)) (fun _ hk => hk.2) (.slice Ao18 t649.length co18)) (fun _ h_ => h_.1))) (by decide)) hk (fun _ h => h.2)) (fun _ h => h.1)); replace HO651 := Aside0.mk (Kd.R_mono (Kd.R_keep (IsS90.apart (show IsS90 w _ g633 t652 from by exact IsS90.up HI633.out) (by (with_reducible repeat (first | apply Kd.R_alloc | apply Kd.R_drewN | apply Kd.R_drew)); exact (Kd.R_mono (Kd.R_far (p := ⟨gb653, 6, none⟩) (Kd.R_far (p := ⟨gb653, 5, none⟩) (Kd.R_far (p := ⟨gb653, 4, none⟩) (Kd.R_far (p := ⟨gb653, 3, none⟩) (Kd.R_far (p := ⟨gb653, 2, none⟩) (Kd.R_far (p := ⟨gb653, 1, none⟩) (Kd.R_far (p := ⟨gb653, 0, none⟩) (Kd.R_types HO651.out BK653.out (by decide)) (fun _ hk => hk.2) (.int .i64 t639)) (fun _ hk => hk.2) (.int .i64 t640)) (fun _ hk => hk.2) (.int .i64 t641)) (fun _ hk => hk.2) (.slice Ao16 t642.length co16)) (fun _ hk => hk.2) (.int .i64 t645)) (fun _ hk => hk.2) (.slice Ao17 t646.length co17)) (fun _ hk => hk.2) (.slice Ao18 t649.length co18)) (fun _ h_ => h_.1))) (by decide)) hk (fun _ h => h.2)) (fun _ h => h.1)); have HO656 := Aside0.mk (Kd.R_lower (Kd.R_new' ho0 (Kd.R_lt (by (with_reducible repeat (first | apply Kd.R_alloc | apply Kd.R_drewN | apply Kd.R_drew)); exact (Kd.R_mono (Kd.R_far (p := ⟨gb653, 6, none⟩) (Kd.R_far (p := ⟨gb653, 5, none⟩) (Kd.R_far (p := ⟨gb653, 4, none⟩) (Kd.R_far (p := ⟨gb653, 3, none⟩) (Kd.R_far (p := ⟨gb653, 2, none⟩) (Kd.R_far (p := ⟨gb653, 1, none⟩) (Kd.R_far (p := ⟨gb653, 0, none⟩) (Kd.R_types HO636.out BK653.out (by decide)) (fun _ hk => hk.2) (.int .i64 t639)) (fun _ hk => hk.2) (.int .i64 t640)) (fun _ hk => hk.2) (.int .i64 t641)) (fun _ hk => hk.2) (.slice Ao16 t642.length co16)) (fun _ hk => hk.2) (.int .i64 t645)) (fun _ hk => hk.2) (.slice Ao17 t646.length co17)) (fun _ hk => hk.2) (.slice Ao18 t649.length co18)) (fun _ h_ => h_.1))))) (below_size (by exact below_y HB.out))); replace HO636 := Aside0.mk (Kd.R_mono (Kd.R_told (Kd.R_oldK (IsS90.apart (show IsS90 w _ g633 t652 from by exact IsS90.up HI633.out) (by (with_reducible repeat (first | apply Kd.R_alloc | apply Kd.R_drewN | apply Kd.R_drew)); exact (Kd.R_mono (Kd.R_far (p := ⟨gb653, 6, none⟩) (Kd.R_far (p := ⟨gb653, 5, none⟩) (Kd.R_far (p := ⟨gb653, 4, none⟩) (Kd.R_far (p := ⟨gb653, 3, none⟩) (Kd.R_far (p := ⟨gb653, 2, none⟩) (Kd.R_far (p := ⟨gb653, 1, none⟩) (Kd.R_far (p := ⟨gb653, 0, none⟩) (Kd.R_types HO636.out BK653.out (by decide)) (fun _ hk => hk.2) (.int .i64 t639)) (fun _ hk => hk.2) (.int .i64 t640)) (fun _ hk => hk.2) (.int .i64 t641)) (fun _ hk => hk.2) (.slice Ao16 t642.length co16)) (fun _ hk => hk.2) (.int .i64 t645)) (fun _ hk => hk.2) (.slice Ao17 t646.length co17)) (fun _ hk => hk.2) (.slice Ao18 t649.length co18)) (fun _ h_ => h_.1))) (by decide)) hk) (Kd.R_base ho0)) (fun _ h_ => h_.1)); replace BK653 := Aside0.mk (KeepBut.blk hk (g' := gb653) (o := .cells #[.int .i64 t639, .int .i64 t640, .int .i64 t641, .slice Ao16 t642.length co16, .int .i64 t645, .slice Ao17 t646.length co17, .slice Ao18 t649.length co18] 26 (0, 0)) (by (with_reducible repeat (first | refine blk_drewN ?_ _ | refine blk_drew ?_ | refine blk_alloc ?_ _)); refine blk_put (cs := #[.int .i64 t639, .int .i64 t640, .int .i64 t641, .slice Ao16 t642.length co16, .int .i64 t645, .slice Ao17 t646.length co17, .slice none 0 0]) ?_ 6 _ rfl; (with_reducible repeat (first | refine blk_drewN ?_ _ | refine blk_drew ?_ | refine blk_alloc ?_ _)); refine blk_put (cs := #[.int .i64 t639, .int .i64 t640, .int .i64 t641, .slice Ao16 t642.length co16, .int .i64 t645, .slice none 0 0, .slice none 0 0]) ?_ 5 _ rfl; (with_reducible repeat (first | refine blk_drewN ?_ _ | refine blk_drew ?_ | refine blk_alloc ?_ _)); refine blk_put (cs := #[.int .i64 t639, .int .i64 t640, .int .i64 t641, .slice Ao16 t642.length co16, .int .i64 0, .slice none 0 0, .slice none 0 0]) ?_ 4 _ rfl; (with_reducible repeat (first | refine blk_drewN ?_ _ | refine blk_drew ?_ | refine blk_alloc ?_ _)); refine blk_put (cs := #[.int .i64 t639, .int .i64 t640, .int .i64 t641, .slice none 0 0, .int .i64 0, .slice none 0 0, .slice none 0 0]) ?_ 3 _ rfl; (with_reducible repeat (first | refine blk_drewN ?_ _ | refine blk_drew ?_ | refine blk_alloc ?_ _)); refine blk_put (cs := #[.int .i64 t639, .int .i64 t640, .int .i64 0, .slice none 0 0, .int .i64 0, .slice none 0 0, .slice none 0 0]) ?_ 2 _ rfl; (with_reducible repeat (first | refine blk_drewN ?_ _ | refine blk_drew ?_ | refine blk_alloc ?_ _)); refine blk_put (cs := #[.int .i64 t639, .int .i64 0, .int .i64 0, .slice none 0 0, .int .i64 0, .slice none 0 0, .slice none 0 0]) ?_ 1 _ rfl; (with_reducible repeat (first | refine blk_drewN ?_ _ | refine blk_drew ?_ | refine blk_alloc ?_ _)); refine blk_put (cs := #[.int .i64 0, .int .i64 0, .int .i64 0, .slice none 0 0, .int .i64 0, .slice none 0 0, .slice none 0 0]) ?_ 0 _ rfl; (with_reducible repeat (first | refine blk_drewN ?_ _ | refine blk_drew ?_ | refine blk_alloc ?_ _)); exact BK653.out) NB653_633.out (by simp)); replace HB := Aside0.mk (hb); replace HI633 := Aside0.mk (hi); (try clear hb); (try clear hk); (try clear hi); (try clear ho0); obtain ⟨Ao20, co20, eo20⟩ := Kd.R_slice HO656.out; subst eo20) | ((with_reducible refine gate_callee (f := 21) rfl ?_); refine goesL_ (some 25) rfl rfl Try.func21 (by kernel_rfl) rfl #[.slice Ao20 t654.length co20] rfl (by (try simp only [List.map_toArray, List.map_cons, List.map_nil]); first | done | rfl | (simp only [List.length_drop, List.length_take]; rfl)) ?_; (with_reducible refine (swarfkit_Ints.calls _ _ t654 t658 _ ?side1 ?side2 A6.out).mono ?_); (case side1 => exact Kd.C_y (Kd.R_reads' HO656.out).2.2); (case side2 => exact (Kd.R_reads' HO656.out).2.1); rintro e w21 ⟨v659, rfl, ho0, hb⟩; refine ⟨_, rfl, ?_⟩; replace HO644 := Aside0.mk (Kd.R_below (Kd.R_x HO644.out) hb); replace HO648 := Aside0.mk (Kd.S_below (Kd.S_x HO648.out) hb); replace HO651 := Aside0.mk (Kd.R_below (Kd.R_x HO651.out) hb); have HO660 := Aside0.mk (Kd.R_lower (Kd.R_new' (Kd.R_new' ho0 (Kd.R_lt (Kd.R_x HO636.out))) (Kd.R_lt (Kd.R_x HO656.out))) (below_size (by exact below_y HB.out))); replace HO636 := Aside0.mk (Kd.R_elder' (Kd.R_x HO636.out) (Kd.R_base ho0) hb); replace HO656 := Aside0.mk (Kd.R_elder' (Kd.R_x HO656.out) (Kd.R_base ho0) hb); replace HI633 := Aside0.mk (IsS90.below (by exact IsS90.up HI633.out) hb); replace BK653 := Aside0.mk (blk_below (blk_x BK653.out) hb); replace HB := bl_x HB hb; (try clear hb); (try clear hk); (try clear hi); (try clear ho0)))
 go_loopg [7] k (fun kq v7 w' => ∃ (x6_1 : List Int) (x7_1 : Int) (x634000_1 : Int), v7 = .int .i64 x7_1 ∧ Aside0 (swarflaw07_ShipLighter.l0 kq t654 x6_1 x7_1 x634000_1 t639 t640 t641 t642 t645 t646 t649 = some r) ∧ Aside0 (kq ≤ k) ∧ Aside0 (Kd.R (Kd.int .i64) 3 w' w.heap.size (fun k_ => some k_ ≠ (v659 : Value).ownBlock) (.slice Ao20 t654.length co20) t654) ∧ Aside0 (Kd.R (Kd.int .i64) 3 w' w.heap.size (fun k_ => some k_ ≠ ((.slice Ao20 t654.length co20) : Value).ownBlock) v659 x6_1) ∧ Aside0 (Kd.R k85 85 w' w.heap.size (fun _ => True) (.slice Ao16 t642.length co16) t642) ∧ Aside0 (Kd.S k59 59 w' w.heap.size (fun _ => True) (.slice Ao17 t646.length co17) t646) ∧ Aside0 (Kd.R k79 79 w' w.heap.size (fun _ => True) (.slice Ao18 t649.length co18) t649) ∧ Aside0 (w'.heap[gb653]? = some (.cells #[.int .i64 t639, .int .i64 t640, .int .i64 t641, (.slice Ao16 t642.length co16), .int .i64 t645, (.slice Ao17 t646.length co17), (.slice Ao18 t649.length co18)] 26 (0, 0))) ∧ Aside0 (IsS90 w w' g633 x634000_1) ∧ Aside0 (Below w.heap.size w w'))
 case atStart => exact ⟨(t658), (0), (t657), (by first | rfl | (simp; done) | (simp [*]; done)), H', ⟨Nat.le_refl _⟩, ⟨by (with_reducible repeat (first | apply Kd.R_alloc | apply Kd.R_drewN | apply Kd.R_drew)); exact Kd.R_mono HO656.out (fun _ hk => hk.2)⟩, ⟨by (with_reducible repeat (first | apply Kd.R_alloc | apply Kd.R_drewN | apply Kd.R_drew)); exact Kd.R_mono HO660.out (fun _ hk => hk.2)⟩, ⟨by (with_reducible repeat (first | apply Kd.R_alloc | apply Kd.R_drewN | apply Kd.R_drew)); exact HO644.out⟩, ⟨by (with_reducible repeat (first | apply Kd.S_alloc | apply Kd.S_drewN | apply Kd.S_drew)); exact HO648.out⟩, ⟨by (with_reducible repeat (first | apply Kd.R_alloc | apply Kd.R_drewN | apply Kd.R_drew)); exact HO651.out⟩, ⟨blk_x BK653.out⟩, ⟨by exact IsS90.up HI633.out⟩, ⟨by exact below_y HB.out⟩⟩
 case round =>
  clear H'
  obtain ⟨x6_1, x7_1, x634000_1, rfl, HA, HK1, HO_5, HO_6, HO_654003, HO_654005, HO_654006, BK653, HI633, HB⟩ := hrel
  cases gk with
  | zero => exact absurd HA.out (by simp [swarflaw07_ShipLighter.l0])
  | succ k1 =>
   have H := HA.out
   clear HA
   simp only [swarflaw07_ShipLighter.l0] at H
   by_cases c22 : x7_1 < (x6_1.length : Int)
   ·
    rw [if_pos c22] at H
    have c22b0 : decide (x7_1 < (x6_1.length : Int)) = true := decide_eq_true c22
    clear c22
    by_cases c23 : 0 ≤ x7_1
    ·
     rw [if_pos c23] at H
     have c23b0 : decide (0 ≤ x7_1) = true := decide_eq_true c23
     clear c23
     obtain ⟨y662, hy662⟩ : ∃ y_ : List Int, y_ = (([rd x6_1 x7_1, (-1)] : List Int)) := ⟨_, rfl⟩
     replace H : ((swarfkit_Feed_Either.f x634000_1 y662).bind fun bt665 => (swarflaw07_ShipLighter.l0 k1 t654 (x6_1.set (x7_1 : Int).toNat bt665.1) (wrap64 (x7_1 + 1)) bt665.2 t639 t640 t641 t642 t645 t646 t649)) = some r := by first | (rw [hy662]; with_reducible exact H) | (have H2_ := (Option.bind_some _ _).symm.trans H; rw [hy662]; with_reducible exact H2_) | (have H2_ := (Option.bind_some _ _).symm.trans H; with_reducible exact H2_) | with_reducible exact H | (rw [hy662]; exact H) | exact H
     have Ny662 := Aside0.mk hy662
     clear hy662
     replace H := Option.bind_eq_some_iff.mp H
     obtain ⟨⟨t665, t666⟩, A240, H⟩ := H
     try dsimp only at H
     have A24 := Aside0.mk A240
     clear A240
     obtain ⟨y667, hy667⟩ : ∃ y_ : List Int, y_ = (x6_1.set (x7_1 : Int).toNat t665) := ⟨_, rfl⟩
     replace H : (swarflaw07_ShipLighter.l0 k1 t654 y667 (wrap64 (x7_1 + 1)) t666 t639 t640 t641 t642 t645 t646 t649) = some r := by first | (rw [hy667]; with_reducible exact H) | (have H2_ := (Option.bind_some _ _).symm.trans H; rw [hy667]; with_reducible exact H2_) | (have H2_ := (Option.bind_some _ _).symm.trans H; with_reducible exact H2_) | with_reducible exact H | (rw [hy667]; exact H) | exact H
     have Ny667 := Aside0.mk hy667
     clear hy667
     have H' := Aside0.mk H
     clear H
     obtain ⟨Ao26, co26, eo26⟩ := Kd.R_slice HO_6.out
     subst eo26
     have p661 : 0 ≤ (x7_1 : Int) := of_x
     have q661 : x7_1 < (x6_1.length : Int) := of_x
     obtain ⟨ad661, e661, hx661_0⟩ := Kd.at_int (Kd.R_reads' HO_6.out).2.2 x7_1 p661 q661
     cases e661
     replace p661 := eq_true p661
     replace q661 := eq_true q661
     go_wp2_with (first | ((with_reducible refine gate_dst (N := 39) rfl ?_); refine Kd.R_lit (Kd.int .i64) _ 3 ?hg (N := 39) ?hd (xs := ([rd x6_1 x7_1, (-1)] : List Int)) (inner := [.int .i64 (rd x6_1 x7_1), .int .i64 (-1)]) (ok := fun _ => True) (okp := fun _ => True) ?hr ?hp (fun _ hk => hk) trivial (Below.refl _ _) (Nat.le_refl _) (by simp) ?_; (case hd => rfl); (case hg => rfl); (case hr => first | (go_simp; done) | (go_simp; rfl)); (case hp => exact (Reps.one (show Kd.M (Kd.int .i64) _ _ _ (rd x6_1 x7_1) [.int .i64 (rd x6_1 x7_1)] from rfl) (Reps.one (show Kd.M (Kd.int .i64) _ _ _ (-1) [.int .i64 (-1)] from rfl) (Reps.none _ _)))); intro v663 w27 ho28 hb hg_ hnew_; clear hg_ hnew_; (first | rw [← Ny662.out] at ho28 | (simp only [Int.reduceToNat] at ho28; rw [← Ny662.out] at ho28)); replace HO_654003 := Aside0.mk (Kd.R_below (Kd.R_x HO_654003.out) hb); replace HO_654005 := Aside0.mk (Kd.S_below (Kd.S_x HO_654005.out) hb); replace HO_654006 := Aside0.mk (Kd.R_below (Kd.R_x HO_654006.out) hb); have HO664 := Aside0.mk (Kd.R_lower (Kd.R_new' (Kd.R_new' ho28 (Kd.R_lt (Kd.R_x HO_5.out))) (Kd.R_lt (Kd.R_x HO_6.out))) (below_size (by exact below_y HB.out))); replace HO_5 := Aside0.mk (Kd.R_elder' (Kd.R_x HO_5.out) (Kd.R_base ho28) hb); replace HO_6 := Aside0.mk (Kd.R_elder' (Kd.R_x HO_6.out) (Kd.R_base ho28) hb); replace BK653 := Aside0.mk (blk_below (blk_x BK653.out) hb); replace HI633 := Aside0.mk (IsS90.below (by exact IsS90.up HI633.out) hb); replace HB := bl_x HB hb; clear hb ho28; obtain ⟨Ao29, co29, eo29⟩ := Kd.R_slice HO664.out; subst eo29) | ((with_reducible refine gate_callee (f := 18) rfl ?_); refine goesL_ (some 40) rfl rfl Try.func18 (by kernel_rfl) rfl #[.pointer (some ⟨g633, 0, none⟩), .slice Ao29 y662.length co29] rfl (by (try simp only [List.map_toArray, List.map_cons, List.map_nil]); first | done | rfl | (simp only [List.length_drop, List.length_take]; rfl)) ?_; (with_reducible refine (swarfkit_Feed_Either.calls g633 x634000_1 _ _ y662 t665 t666 w _ ?side1 ?side2 ?side3 ?side4 ?side5 A24.out).mono ?_); (case side1 => exact IsS90.up HI633.out); (case side2 => exact below_y HB.out); (case side3 => exact Kd.C_y (Kd.R_reads' HO664.out).2.2); (case side4 => exact (Kd.R_reads' HO664.out).2.1); (case side5 => exact far_slice (IsS90.own_ne HI633.out HO664.out (by decide))); rintro e w30 ⟨rfl, hi, hb, hk⟩; refine ⟨_, rfl, ?_⟩; replace HO_5 := Aside0.mk (Kd.R_mono (Kd.R_keep (IsS90.apart (show IsS90 w _ g633 x634000_1 from by exact IsS90.up HI633.out) (Kd.R_x HO_5.out) (by decide)) hk (fun _ h => h.2)) (fun _ h => h.1)); replace HO_6 := Aside0.mk (Kd.R_mono (Kd.R_keep (IsS90.apart (show IsS90 w _ g633 x634000_1 from by exact IsS90.up HI633.out) (Kd.R_x HO_6.out) (by decide)) hk (fun _ h => h.2)) (fun _ h => h.1)); replace HO_654003 := Aside0.mk (Kd.R_mono (Kd.R_keep (IsS90.apart (show IsS90 w _ g633 x634000_1 from by exact IsS90.up HI633.out) (Kd.R_x HO_654003.out) (by decide)) hk (fun _ h => h.2)) (fun _ h => h.1)); replace HO_654005 := Aside0.mk (Kd.S_mono (Kd.S_keep (IsS90.apartS (show IsS90 w _ g633 x634000_1 from by exact IsS90.up HI633.out) (Kd.S_x HO_654005.out) (by decide)) hk (fun _ h => h.2)) (fun _ h => h.1)); replace HO_654006 := Aside0.mk (Kd.R_mono (Kd.R_keep (IsS90.apart (show IsS90 w _ g633 x634000_1 from by exact IsS90.up HI633.out) (Kd.R_x HO_654006.out) (by decide)) hk (fun _ h => h.2)) (fun _ h => h.1)); replace BK653 := Aside0.mk (KeepBut.blk hk (blk_x BK653.out) NB653_633.out (by simp)); replace HO664 := Aside0.mk (Kd.R_mono (Kd.R_keep (IsS90.apart (show IsS90 w _ g633 x634000_1 from by exact IsS90.up HI633.out) (Kd.R_x HO664.out) (by decide)) hk (fun _ h => h.2)) (fun _ h => h.1)); replace HB := Aside0.mk (hb); replace HI633 := Aside0.mk (hi); (try clear hb); (try clear hk); (try clear hi); have p25 : 0 ≤ (x7_1 : Int) := of_x; have q25 : (x7_1 : Int) < ((x6_1.length : Int) : Int) := of_x; obtain ⟨go25, co25, eo25, gb25, gl25, cl25, HG25⟩ := Kd.R_form HO_6.out (by omega); (first | cases eo25 | (injection eo25 with ea_ en_ ec_; (first | subst ea_ | (injection ea_ with ea_; subst ea_)); subst ec_; clear en_)); have GB25 := Aside0.mk gb25; have GG25 := Aside0.mk HG25; clear gb25 gl25 HG25; (first | simp only [add_plain] at hx661_0 | skip); obtain ⟨hx25_0, hf25_0⟩ := Kd.R_celln 0 HO_6.out (x7_1 : Int) p25 q25; replace p25 := eq_true p25; replace q25 := eq_true q25; obtain ⟨hy31_, hz31_⟩ := Kd.R_celln 0 HO_6.out (x7_1 : Int) (of_x) (of_x); have HP31 := Kd.R_putg HO_6.out (x7_1 : Int) t665) | ((with_reducible refine gate_store (t := 3) (p := 41) rfl ?_); refine store_event (t := 3) (p := 41) (v := ?vo_w32) (w1 := (w30.setCell ⟨go25, (x7_1 : Int).toNat, none⟩ (.int .i64 t665))) ?hg ?ho ?hn ?hr ?_; (case ho => rfl); (case hg => rfl); (case hn => rfl); (case hr => first | (go_simp; done) | (go_simp; rfl)); intro w32 hw; have hg : w30.grownBy w32 (some go25) := (by rw [hw]; exact HP31.2); have hp_ : Kd.R (Kd.int .i64) 3 w32 w.heap.size (fun k_ => some k_ ≠ (.slice Ao20 t654.length co20 : Value).ownBlock ∧ some k_ ≠ (.slice Ao29 y662.length co29 : Value).ownBlock) (.slice (some ⟨go25, 0, none⟩) x6_1.length co26) y667 := (by rw [hw, Ny667.out]; exact HP31.1); clear HP31; replace HO_5 := Aside0.mk (Kd.R_after (v := (.slice (some ⟨go25, 0, none⟩) x6_1.length co26)) (v1 := (.slice (some ⟨go25, 0, none⟩) x6_1.length co26)) (ok := (fun k_ => some k_ ≠ (.slice Ao29 y662.length co29 : Value).ownBlock)) (by (with_reducible repeat (first | apply Kd.R_alloc | apply Kd.R_drewN | apply Kd.R_drew)); exact Kd.R_mono HO_5.out (fun _ hk => ⟨hk.2, hk.1⟩)) hg (.inl rfl)); replace HO_654003 := Aside0.mk (Kd.R_over' (v := (.slice (some ⟨go25, 0, none⟩) x6_1.length co26)) (Kd.R_x HO_654003.out) (Kd.R_typed HO_6.out) (by decide) hg); replace HO_654005 := Aside0.mk (Kd.S_over' (v := (.slice (some ⟨go25, 0, none⟩) x6_1.length co26)) (Kd.S_x HO_654005.out) (Kd.R_typed HO_6.out) (by decide) hg); replace HO_654006 := Aside0.mk (Kd.R_over' (v := (.slice (some ⟨go25, 0, none⟩) x6_1.length co26)) (Kd.R_x HO_654006.out) (Kd.R_typed HO_6.out) (by decide) hg); replace BK653 := Aside0.mk (blk_grown (blk_x BK653.out) hg (Kd.R_ne HO_6.out BK653.out (by decide))); replace HI633 := Aside0.mk (IsS90.grown (by exact IsS90.up HI633.out) hg (IsS90.own_ne HI633.out HO_6.out (by decide))); replace HO_6 := Aside0.mk (hp_); replace HO664 := Aside0.mk (Kd.R_after (v := (.slice (some ⟨go25, 0, none⟩) x6_1.length co26)) (v1 := (.slice (some ⟨go25, 0, none⟩) x6_1.length co26)) (ok := (fun k_ => some k_ ≠ (.slice Ao20 t654.length co20 : Value).ownBlock)) (by (with_reducible repeat (first | apply Kd.R_alloc | apply Kd.R_drewN | apply Kd.R_drew)); exact Kd.R_mono HO664.out (fun _ hk => ⟨hk.1.2, hk.2⟩)) hg (.inl rfl)); replace HB := Aside0.mk ((by rw [hw]; exact below_set (HB.out) GB25.out : Below w.heap.size w w32)); clear hg hw hp_))
     go_roundg k1
     case measure => have := HK1.out; omega
     case rel => exact ⟨(y667), (wrap64 (x7_1 + 1)), (t666), (by first | rfl | (simp; done) | (simp [*]; done)), H', ⟨by have := HK1.out; omega⟩, ⟨by (with_reducible repeat (first | apply Kd.R_alloc | apply Kd.R_drewN | apply Kd.R_drew)); exact Kd.R_mono HO_5.out (fun _ hk => hk.2)⟩, ⟨by (with_reducible repeat (first | apply Kd.R_alloc | apply Kd.R_drewN | apply Kd.R_drew)); exact Kd.R_mono HO_6.out (fun _ hk => hk.1)⟩, ⟨by (with_reducible repeat (first | apply Kd.R_alloc | apply Kd.R_drewN | apply Kd.R_drew)); exact HO_654003.out⟩, ⟨by (with_reducible repeat (first | apply Kd.S_alloc | apply Kd.S_drewN | apply Kd.S_drew)); exact HO_654005.out⟩, ⟨by (with_reducible repeat (first | apply Kd.R_alloc | apply Kd.R_drewN | apply Kd.R_drew)); exact HO_654006.out⟩, ⟨blk_x BK653.out⟩, ⟨by exact IsS90.up HI633.out⟩, ⟨by exact below_y HB.out⟩⟩
    ·
     rw [if_neg c23] at H
     exact absurd H (by simp)
   ·
    rw [if_neg c22] at H
    have c22b0 : decide (x7_1 < (x6_1.length : Int)) = false := decide_eq_false c22
    clear c22
    replace H := Option.bind_eq_some_iff.mp H
    obtain ⟨⟨t668, t669, t672⟩, A330, H⟩ := H
    try dsimp only at H
    have A33 := Aside0.mk A330
    clear A330
    replace H := Option.bind_eq_some_iff.mp H
    obtain ⟨⟨t673, t674, t677⟩, A340, H⟩ := H
    try dsimp only at H
    have A34 := Aside0.mk A340
    clear A340
    by_cases c35 : t672 = 0
    ·
     rw [if_pos c35] at H
     have c35b0 : (t672 == 0) = true := beq_iff_eq.mpr c35
     have c35b1 : (t672 != 0) = false := bne_eq_false_iff_eq.mpr c35
     clear c35
     by_cases c36 : t677 = 0
     ·
      rw [if_pos c36] at H
      have c36b0 : (t677 == 0) = true := beq_iff_eq.mpr c36
      have c36b1 : (t677 != 0) = false := bne_eq_false_iff_eq.mpr c36
      clear c36
      replace H := Option.bind_eq_some_iff.mp H
      obtain ⟨t678, A370, H⟩ := H
      try dsimp only at H
      have A37 := Aside0.mk A370
      clear A370
      by_cases c38 : t678 = true
      ·
       subst c38
       have H1 : ((swarflaw07_awake.f k1).bind fun t679 => (some t679)) = some r := by rw [if_pos rfl] at H; exact H
       clear H
       have H := H1
       clear H1
       replace H := Option.bind_eq_some_iff.mp H
       obtain ⟨t679, A390, H⟩ := H
       replace H : (some t679) = some r := H
       have A39 := Aside0.mk A390
       clear A390
       obtain rfl := Option.some.inj H
       obtain ⟨Ao40, co40, eo40⟩ := Kd.R_slice HO_6.out
       subst eo40
       have hnb41 := NB653_633.out
       have hnc41 := NB633_653.out
       obtain ⟨_, _, _, _, _, _, _⟩ := cz7 BK653
       have hfz42_0 := blk_frozen BK653.out
       go_wp2_with (first | ((with_reducible refine gate_callee (f := 22) rfl ?_); refine goesL_ (some 45) rfl rfl Try.func22 (by kernel_rfl) rfl #[.agg #[.int .i64 t639, .int .i64 t640, .int .i64 t641, .slice Ao16 t642.length co16, .int .i64 t645, .slice Ao17 t646.length co17, .slice Ao18 t649.length co18], .slice Ao20 t654.length co20] rfl (by (try simp only [List.map_toArray, List.map_cons, List.map_nil]); first | done | rfl | (simp only [List.length_drop, List.length_take]; rfl)) ?_; (with_reducible refine (ship_Sail.calls t639 t640 t641 _ _ t642 t645 _ _ t646 _ _ t649 _ _ t654 t668 t669 t672 _ ?side1 ?side2 ?side3 ?side4 ?side5 ?side6 ?side7 ?side8 A33.out).mono ?_); (case side1 => exact Kd.C_y (Kd.R_reads' HO_654003.out).2.2); (case side2 => exact (Kd.R_reads' HO_654003.out).2.1); (case side3 => exact Kd.C_y (Kd.S_reads' HO_654005.out).2.2); (case side4 => exact (Kd.S_reads' HO_654005.out).2.1); (case side5 => exact Kd.C_y (Kd.R_reads' HO_654006.out).2.2); (case side6 => exact (Kd.R_reads' HO_654006.out).2.1); (case side7 => exact Kd.C_y (Kd.R_reads' HO_5.out).2.2); (case side8 => exact (Kd.R_reads' HO_5.out).2.1); rintro e w43 ⟨v670, rfl, ho0, hb⟩; refine ⟨_, rfl, ?_⟩; replace HO_5 := Aside0.mk (Kd.R_below (Kd.R_x HO_5.out) hb); replace HO_6 := Aside0.mk (Kd.R_below (Kd.R_x HO_6.out) hb); replace HO_654003 := Aside0.mk (Kd.R_below (Kd.R_x HO_654003.out) hb); replace HO_654005 := Aside0.mk (Kd.S_below (Kd.S_x HO_654005.out) hb); replace HO_654006 := Aside0.mk (Kd.R_below (Kd.R_x HO_654006.out) hb); have HO671 := Aside0.mk (Kd.R_lower ho0 (below_size (by exact below_y HB.out))); replace BK653 := Aside0.mk (blk_below (blk_x BK653.out) hb); replace HI633 := Aside0.mk (IsS90.below (by exact IsS90.up HI633.out) hb); replace HB := bl_x HB hb; (try clear hb); (try clear hk); (try clear hi); (try clear ho0); obtain ⟨_, _, _, _, _, _, _⟩ := cz7 BK653; have hfz44_0 := blk_frozen BK653.out) | ((with_reducible refine gate_callee (f := 22) rfl ?_); refine goesL_ (some 52) rfl rfl Try.func22 (by kernel_rfl) rfl #[.agg #[.int .i64 t639, .int .i64 t640, .int .i64 t641, .slice Ao16 t642.length co16, .int .i64 t645, .slice Ao17 t646.length co17, .slice Ao18 t649.length co18], .slice Ao40 x6_1.length co40] rfl (by (try simp only [List.map_toArray, List.map_cons, List.map_nil]); first | done | rfl | (simp only [List.length_drop, List.length_take]; rfl)) ?_; (with_reducible refine (ship_Sail.calls t639 t640 t641 _ _ t642 t645 _ _ t646 _ _ t649 _ _ x6_1 t673 t674 t677 _ ?side1 ?side2 ?side3 ?side4 ?side5 ?side6 ?side7 ?side8 A34.out).mono ?_); (case side1 => exact Kd.C_y (Kd.R_reads' HO_654003.out).2.2); (case side2 => exact (Kd.R_reads' HO_654003.out).2.1); (case side3 => exact Kd.C_y (Kd.S_reads' HO_654005.out).2.2); (case side4 => exact (Kd.S_reads' HO_654005.out).2.1); (case side5 => exact Kd.C_y (Kd.R_reads' HO_654006.out).2.2); (case side6 => exact (Kd.R_reads' HO_654006.out).2.1); (case side7 => exact Kd.C_y (Kd.R_reads' HO_6.out).2.2); (case side8 => exact (Kd.R_reads' HO_6.out).2.1); rintro e w45 ⟨v675, rfl, ho0, hb⟩; refine ⟨_, rfl, ?_⟩; replace HO_5 := Aside0.mk (Kd.R_below (Kd.R_x HO_5.out) hb); replace HO_6 := Aside0.mk (Kd.R_below (Kd.R_x HO_6.out) hb); replace HO_654003 := Aside0.mk (Kd.R_below (Kd.R_x HO_654003.out) hb); replace HO_654005 := Aside0.mk (Kd.S_below (Kd.S_x HO_654005.out) hb); replace HO_654006 := Aside0.mk (Kd.R_below (Kd.R_x HO_654006.out) hb); have HO676 := Aside0.mk (Kd.R_lower (Kd.R_new' ho0 (Kd.R_lt (Kd.R_x HO671.out))) (below_size (by exact below_y HB.out))); replace HO671 := Aside0.mk (Kd.R_elder' (Kd.R_x HO671.out) (Kd.R_base ho0) hb); replace BK653 := Aside0.mk (blk_below (blk_x BK653.out) hb); replace HI633 := Aside0.mk (IsS90.below (by exact IsS90.up HI633.out) hb); replace HB := bl_x HB hb; (try clear hb); (try clear hk); (try clear hi); (try clear ho0); obtain ⟨Ao46, co46, eo46⟩ := Kd.R_slice HO671.out; subst eo46; obtain ⟨Ao47, co47, eo47⟩ := Kd.R_slice HO676.out; subst eo47) | (go_at_call 30; (with_reducible refine (swarflaw07_sooner.calls k1 t668 _ _ t669 t673 _ _ t674 true _ ?side1 ?side2 ?side3 ?side4 A37.out).mono ?_); (case side1 => exact Kd.C_y (Kd.R_reads' HO671.out).2.2); (case side2 => exact (Kd.R_reads' HO671.out).2.1); (case side3 => exact Kd.C_y (Kd.R_reads' HO676.out).2.2); (case side4 => exact (Kd.R_reads' HO676.out).2.1); rintro e w' ⟨rfl, ⟨nd, rfl⟩⟩) | (go_at_call 15; (with_reducible refine (swarflaw07_awake.calls k1  t679 _ A39.out).mono ?_); rintro e w48 ⟨rfl, hb⟩; replace HO_5 := Aside0.mk (Kd.R_below (Kd.R_x HO_5.out) hb); replace HO_6 := Aside0.mk (Kd.R_below (Kd.R_x HO_6.out) hb); replace HO_654003 := Aside0.mk (Kd.R_below (Kd.R_x HO_654003.out) hb); replace HO_654005 := Aside0.mk (Kd.S_below (Kd.S_x HO_654005.out) hb); replace HO_654006 := Aside0.mk (Kd.R_below (Kd.R_x HO_654006.out) hb); replace HO671 := Aside0.mk (Kd.R_below (Kd.R_x HO671.out) hb); replace HO676 := Aside0.mk (Kd.R_below (Kd.R_x HO676.out) hb); replace BK653 := Aside0.mk (blk_below (blk_x BK653.out) hb); replace HI633 := Aside0.mk (IsS90.below (by exact IsS90.up HI633.out) hb); replace HB := bl_x HB hb; (try clear hb); (try clear hk); (try clear hi)))
       go_ret
       exact ⟨by first | rfl | (simp [errW_none, errW_some] <;> rfl) | (simp [*, errW_none, errW_some] <;> rfl), by exact below_y HB.out⟩
      ·
       replace c38 := Bool.eq_false_iff.mpr c38
       subst c38
       have H1 : (some false) = some r := by rw [if_neg (show ¬ (false = true) by decide)] at H; exact H
       clear H
       have H := H1
       clear H1
       exact absurd ((Option.some.inj H).trans hrt.out) (by decide)
     ·
      rw [if_neg c36] at H
      have c36b0 : (t677 == 0) = false := beq_eq_false_iff_ne.mpr c36
      have c36b1 : (t677 != 0) = true := bne_iff_ne.mpr c36
      exact absurd ((Option.some.inj H).trans hrt.out) (by decide)
    ·
     rw [if_neg c35] at H
     have c35b0 : (t672 == 0) = false := beq_eq_false_iff_ne.mpr c35
     have c35b1 : (t672 != 0) = true := bne_iff_ne.mpr c35
     exact absurd ((Option.some.inj H).trans hrt.out) (by decide)
def swarflaw07_ShipLighter.Pure : Prop := ∀ (l0 : List Int), l0.length ≤ maxLen → l0.length * 8 ≤ 140737488351232 → (∀ x ∈ l0, (Lit.int .i64 x).wf = true) → ∃ k, swarflaw07_ShipLighter.f k l0 = some true
theorem swarflaw07_ShipLighter.walk (P : swarflaw07_ShipLighter.Pure) (a0 : Option Addr) (len0 cap0 : Nat) (z0 : List Int) (w : World) (w0 : (a0 = none ∧ len0 = 0 ∧ cap0 = 0 ∧ z0 = []) ∨ ∃ x, a0 = some x ∧ len0 ≤ cap0 ∧ cap0 ≤ maxLen ∧ z0.length = cap0 ∧ (∀ i, i < z0.length → w.cell? (x.add i) = some (.int .i64 (z0.getD i 0))) ∧ ∀ n ∈ z0, (Lit.int .i64 n).wf = true) (y0 : len0 * 8 ≤ 140737488351232) :
  Calls Try.prog 5 #[.slice a0 len0 cap0] w fun e w' => e = .returned (.bool true) ∧ Below w.heap.size w w' := by
 obtain ⟨l0, rfl, hr0, hm0, hw0, hc0⟩ := ReadsInt.ofRowC w0
 obtain ⟨k, h⟩ := P l0 hm0 y0 hw0
 refine (swarflaw07_ShipLighter.calls k _ _ l0 true ⟨rfl⟩ w (Kd.C_of_reads (d := (0 : Int)) (h1 := fun _ => rfl) hr0) hc0 h).mono ?_
 rintro e w' ⟨rfl, hd⟩
 exact ⟨rfl, hd⟩
end Go.Proofs.Ytodmemndaaiolaa.PC7
namespace Go.Proofs.Ytodmemndaaiolaa.PC7
set_option linter.unusedVariables false
set_option linter.unusedSimpArgs false
open Go.RowKit Go.Proofs.YtodmemndaaiolaaW.PrintWords Go.Proofs.YtodmemndaaiolaaW.PrintLast Go.Proofs.YtodmemndaaiolaaW.PrintMore
structure StowTo (holds : List S85) (lots : List S79) (s room : List Int) : Prop where
  rl : room.length = holds.length
  rg : ∀ y, y ∈ s → -1 ≤ y ∧ y < (holds.length : Int)
  ro : ∀ h : Nat, h < holds.length → room.getD h 0 = used lots h 0 s ∧ used lots h 0 s ≤ (holds.getD h z85).f0 ∧ 0 ≤ used lots h 0 s
theorem StowTo.skip {holds : List S85} {lots : List S79} {s room : List Int} (h : StowTo holds lots s room) : StowTo holds lots (s ++ [-1]) room :=
  ⟨h.rl, mem_snoc h.rg ⟨by omega, by omega⟩, fun k hk => by
    have := h.ro k hk
    rw [used_snoc, if_neg (by omega)]
    simpa using this⟩
theorem StowTo.put {holds : List S85} {lots : List S79} {s room : List Int} (h : StowTo holds lots s room) (g : Nat) (hg : g < holds.length) (h0 : 0 ≤ (lots.getD s.length z79).f0.f1) (hle : room.getD g 0 + (lots.getD s.length z79).f0.f1 ≤ (holds.getD g z85).f0) :
    StowTo holds lots (s ++ [(g : Int)]) (room.set g (room.getD g 0 + (lots.getD s.length z79).f0.f1)) := by
  refine ⟨by rw [List.length_set]; exact h.rl, mem_snoc h.rg ⟨by omega, by omega⟩, fun k hk => ?_⟩
  have hk1 := h.ro k hk
  have hl : k < room.length := by rw [h.rl]; exact hk
  rw [used_snoc, Nat.zero_add]
  by_cases e : k = g
  · subst e
    rw [if_pos rfl, List.getD, List.getElem?_set_self hl]
    refine ⟨?_, ?_, ?_⟩
    · show room.getD k 0 + _ = _; rw [hk1.1]
    · rw [← hk1.1]; exact hle
    · omega
  · rw [if_neg (by omega), List.getD, List.getElem?_set_ne (by omega)]
    simpa using hk1
theorem stow_l0 (L U R V : Int) (holds : List S85) (sills : List S59) (lots : List S79) {T : Int} (hT : T ≤ 1000) (hho : ∀ h, h ∈ holds → HoldV T h) (hlo : ∀ c, c ∈ lots → LotV T c) (hh : 1 ≤ holds.length ∧ holds.length ≤ 1000) (hl : lots.length ≤ 1000) (d : Nat) :
    ∀ (l room : List Int) (s : Int), l.length + d = lots.length → StowTo holds lots l room → Res (fun k => swarfkit_StowageOf.l0 k l room (l.length : Int) s L U R holds V sills lots) (fun r => StowOK holds lots r.1) := by
  induction d with
  | zero =>
    intro l room s hd hs
    refine Res.succ ?_
    simp (disch := omega) only [swarfkit_StowageOf.l0, if_neg]
    exact Res.now ⟨by show l.length = lots.length; omega, hs.rg, fun h hh => (hs.ro h hh).2.1⟩
  | succ d ih =>
    intro l room s hd hs
    have hrl := hs.rl
    obtain ⟨c1, c2, c3, c4, c5⟩ := hlo _ (getD_mem lots l.length z79 (by omega))
    have hskip : ∀ s2 : Int, Res (fun k => swarfkit_StowageOf.l0 k (l ++ [-1]) room (wrap64 ((l.length : Int) + 1)) s2 L U R holds V sills lots) (fun r => StowOK holds lots r.1) := fun s2 => by
      have := ih (l ++ [-1]) room s2 (by simp; omega) hs.skip
      rw [wrapS (by omega)]
      simpa using this
    refine Res.succ ?_
    have hw : wrap64 ((holds.length : Int) - 1) = (holds.length : Int) - 1 := wrap64_id (by omega) (by omega)
    obtain ⟨r, s1, e1, r1, r2⟩ := between_ok s (-1) ((holds.length : Int) - 1) (by omega) (by decide) (by omega)
    simp (disch := omega) only [swarfkit_StowageOf.l0, if_pos, hw]
    refine Res.take e1 ?_
    by_cases hr : r ≥ 0
    · obtain ⟨g, rfl⟩ := Int.eq_ofNat_of_zero_le hr
      have hg : g < holds.length := by omega
      obtain ⟨b1, b2, _⟩ := hho _ (getD_mem holds g z85 hg)
      obtain ⟨q1, q2, q3⟩ := hs.ro g hg
      have hwr : wrap64 (room.getD g 0 + (lots.getD l.length z79).f0.f1) = room.getD g 0 + (lots.getD l.length z79).f0.f1 := wrap64_id (by omega) (by omega)
      simp (disch := omega) only [if_pos, rdI, rd79, rd85, hwr]
      refine Res.succ ?_
      by_cases hgt : room.getD g 0 + (lots.getD l.length z79).f0.f1 > (holds.getD g z85).f0
      · rw [decide_eq_true hgt]
        simp (disch := omega) only [swarfkit_StowageOf.j1, if_true, if_pos, if_neg]
        exact hskip s1
      · rw [decide_eq_false hgt]
        simp (disch := omega) only [swarfkit_StowageOf.j1, Bool.false_eq_true, if_false, if_pos, rdI, rd79, hwr, Int.toNat_natCast]
        have := ih (l ++ [(g : Int)]) (room.set g (room.getD g 0 + (lots.getD l.length z79).f0.f1)) s1 (by simp; omega) (hs.put g hg (by omega) (by omega))
        rw [wrapS (by omega)]
        simpa using this
    · have : r = -1 := by omega
      subst this
      simp (disch := omega) only [if_neg]
      refine Res.succ ?_
      simp (disch := omega) only [swarfkit_StowageOf.j1, Bool.false_eq_true, if_false, if_pos, if_neg]
      exact hskip s1
theorem stowageOf_res {H S L' : Nat} {T L U R V : Int} {holds : List S85} {sills : List S59} {lots : List S79} (h : VoyOK H S L' T L U R holds V sills lots) (hH : H ≤ 100) (hL : L' ≤ 100) (hT : T ≤ 1000) (s : Int) :
    Res (fun k => swarfkit_StowageOf.f k s L U R holds V sills lots) (fun r => StowOK holds lots r.1) := by
  have h5 := h.hn; have h7 := h.ln
  unfold swarfkit_StowageOf.f
  simp (disch := omega) only [if_pos, Int.toNat_natCast]
  refine stow_l0 L U R V holds sills lots hT h.ho h.lo ⟨h5.1, by omega⟩ (by omega) lots.length [] _ s (by simp) ⟨by simp, fun y hy => by (cases hy), fun k hk => ?_⟩
  obtain ⟨b1, _⟩ := h.ho _ (getD_mem holds k z85 hk)
  refine ⟨?_, b1, Int.le_refl _⟩
  rw [List.getD, List.getElem?_replicate, if_pos hk]; rfl
theorem lighter_refl : ∀ s : List Int, Lighter s s
  | [] => trivial
  | a :: s => ⟨.inl rfl, lighter_refl s⟩
theorem lighter_len : ∀ {s t : List Int}, Lighter s t → t.length = s.length
  | [], [], _ => rfl
  | a :: s, b :: t, h => by simp [lighter_len h.2]
  | [], _ :: _, h => h.elim
  | _ :: _, [], h => h.elim
theorem lighter_set : ∀ {s t : List Int} (i : Nat) (v : Int), Lighter s t → v = t.getD i 0 ∨ v = -1 → i < t.length → Lighter s (t.set i v)
  | [], [], i, v, _, _, hi => by simp at hi
  | a :: s, b :: t, 0, v, h, hv, _ => by
    refine ⟨?_, h.2⟩
    rcases hv with hv | hv
    · simp at hv; subst hv; exact h.1
    · exact .inr hv
  | a :: s, b :: t, i + 1, v, h, hv, hi => ⟨h.1, lighter_set i v h.2 (by simpa using hv) (by simpa using hi)⟩
  | [], _ :: _, _, _, h, _, _ => h.elim
  | _ :: _, [], _, _, h, _, _ => h.elim
theorem used_lighter {T : Int} (lots : List S79) (hlo : ∀ c, c ∈ lots → LotV T c) (h : Nat) : ∀ (s t : List Int) (i : Nat), i + s.length = lots.length → Lighter s t → used lots h i t ≤ used lots h i s
  | [], [], i, _, _ => Int.le_refl _
  | a :: s, b :: t, i, hi, hl => by
    have ih := used_lighter lots hlo h s t (i + 1) (by simp at hi; omega) hl.2
    have hc := hlo _ (getD_mem lots i z79 (by simp at hi; omega))
    obtain ⟨c1, c2, c3, c4, c5⟩ := hc
    simp only [used]
    rcases hl.1 with rfl | rfl
    · omega
    · rw [if_neg (by omega)]
      by_cases e : a = (h : Int)
      · rw [if_pos e]; omega
      · rw [if_neg e]; omega
  | [], _ :: _, _, _, h => h.elim
  | _ :: _, [], _, _, h => h.elim
theorem lighter_mem {n : Int} (hn : 0 ≤ n) : ∀ (s t : List Int), Lighter s t → (∀ y, y ∈ s → -1 ≤ y ∧ y < n) → ∀ y, y ∈ t → -1 ≤ y ∧ y < n
  | [], [], _, h => h
  | a :: s, b :: t, hl, h => fun y hy => by
    have h0 := h a (by simp)
    rcases List.mem_cons.1 hy with e | hy
    · subst e
      rcases hl.1 with e2 | e2
      · subst e2; exact h0
      · subst e2; exact ⟨Int.le_refl _, by omega⟩
    · exact lighter_mem hn s t hl.2 (fun z hz => h z (List.mem_cons_of_mem _ hz)) y hy
  | [], _ :: _, h, _ => h.elim
  | _ :: _, [], h, _ => h.elim
theorem stow_lighter {T : Int} {holds : List S85} {lots : List S79} (hlo : ∀ c, c ∈ lots → LotV T c) {s t : List Int} (hs : StowOK holds lots s) (hl : Lighter s t) : StowOK holds lots t :=
  ⟨(lighter_len hl).trans hs.len, lighter_mem (by omega) s t hl hs.rg, fun h hh => by
    have h1 := used_lighter lots hlo h s t 0 (by have := hs.len; omega) hl
    have h2 := hs.room h hh
    omega⟩
theorem sailO_eq {H S L' : Nat} {T L U R V : Int} {holds : List S85} {sills : List S59} {lots : List S79} (h : VoyOK H S L' T L U R holds V sills lots) (hT : T ≤ 1000) (q : Q4) (soon : Bool) : sailO U V sills q soon = sailL (sills.map (plainS soon)) V (needsW U q soon) :=
  sailW_eq hT soon _ sills h.si V h.leaves.1 (by have := h.leaves; omega)
theorem sail_lighter {H S L' : Nat} {T L U R V : Int} {holds : List S85} {sills : List S59} {lots : List S79} (h : VoyOK H S L' T L U R holds V sills lots) (hH : H ≤ 3) (hS : S ≤ 4) (hL : L' ≤ 6) (hT : T ≤ 1000) {s t : List Int} (hs : StowOK holds lots s) (hl : Lighter s t) :
    ∃ so la so2 la2 : List Int, ship_Sail.f L U R holds V sills lots s = some (verdictE sills.length so la, overE so la, 0) ∧ ship_Sail.f L U R holds V sills lots t = some (verdictE sills.length so2 la2, overE so2 la2, 0) ∧
      la.length ≤ la2.length ∧ so.length ≤ so2.length ∧ la.length ≤ so.length ∧ la2.length ≤ sills.length ∧ so2.length ≤ sills.length ∧ la.length ≤ sills.length ∧ (∀ i, i < la.length → so2.getD i 0 ≤ so.getD i 0 ∧ la2.getD i 0 ≤ la.getD i 0) := by
  have ht := stow_lighter h.lo hs hl
  have hln := h.ln
  have hlen := hs.len
  have hlen2 := ht.len
  have h1 := h.light
  have e0 := stowE_ok h hH hS hL hT hs
  have e1 := stowE_ok h hH hS hL hT ht
  have hw : wrap64 (1000 * L) = 1000 * L := wrap64_id (by omega) (by omega)
  have hq0 : QOK (10000000 + 1500000 * ((0 : Nat) : Int)) ⟨wrap64 (1000 * L), wrap64 (1000 * L), wrap64 (1000 * L), wrap64 (1000 * L)⟩ := by
    rw [hw]; exact ⟨⟨by show 0 ≤ 1000 * L; omega, Int.le_refl _⟩, ⟨by show 0 ≤ 1000 * L; omega, Int.le_refl _⟩, by show 1000 * L ≤ _; omega, by show 1000 * L ≤ _; omega⟩
  obtain ⟨P, Q, hP, hQ, hle, oP, oQ⟩ := ladO_le hT holds lots h.ho h.lo (by omega) s t 0 _ _ (by omega) hl hs.rg hq0 hq0 ⟨Int.le_refl _, Int.le_refl _, Int.le_refl _, Int.le_refl _⟩
  have hP' : ladenO L holds lots t = some P := hP
  have hQ' : ladenO L holds lots s = some Q := hQ
  have hu : 0 ≤ U ∧ U ≤ 5000 := by have := h.under; omega
  have hv := h.leaves
  have hno : lensOK sills := ⟨by have := h.sn; omega, fun x hx => by obtain ⟨_, _, _, _, a5, _⟩ := h.si x hx; omega⟩
  have nPt := needsW_eq oP hu true
  have nPf := needsW_eq oP hu false
  have nQt := needsW_eq oQ hu true
  have nQf := needsW_eq oQ hu false
  simp only [if_true, Bool.false_eq_true, if_false] at nPt nPf nQt nQf
  obtain ⟨x1, x2, x3, x4⟩ := hle
  have p1 := oP.b0; have p2 := oP.b1; have q1 := oQ.b0; have q2 := oQ.b1
  have key : ∀ (q : Q4), QOK 10000000000 q → (sailO U V sills q false).length ≤ (sailO U V sills q true).length := fun q oq => by
    have n1 := needsW_eq oq hu true
    have n2 := needsW_eq oq hu false
    simp only [if_true, Bool.false_eq_true, if_false] at n1 n2
    have b0 := oq.b0; have b1 := oq.b1
    rw [sailO_eq h hT, sailO_eq h hT]
    exact (sailL_le _ _ V V _ _ (better_soon sills h.si) (sillsOK_of h.si false) (sillsOK_of h.si true) hv.1 (Int.le_refl _) (by omega)).1
  have cmp : ∀ soon : Bool, (sailO U V sills Q soon).length ≤ (sailO U V sills P soon).length ∧ ∀ i, i < (sailO U V sills Q soon).length → (sailO U V sills P soon).getD i 0 ≤ (sailO U V sills Q soon).getD i 0 := fun soon => by
    rw [sailO_eq h hT, sailO_eq h hT]
    refine sailL_le _ _ V V _ _ (better_same _) (sillsOK_of h.si soon) (sillsOK_of h.si soon) hv.1 (Int.le_refl _) ?_
    cases soon <;> omega
  have fin : ∀ (y : List Int) (q : Q4), stowE L U R holds V sills lots y = some 0 → y.length = lots.length → ladenO L holds lots y = some q → QOK 10000000000 q →
      ship_Sail.f L U R holds V sills lots y = some (verdictE sills.length (sailO U V sills q true) (sailO U V sills q false), overE (sailO U V sills q true) (sailO U V sills q false), 0) := fun y q hy hyl hq oq => by
    unfold ship_Sail.f
    refine Option.bind_eq_some_iff.2 ⟨_, hy, ?_⟩
    rw [if_pos rfl, if_pos ⟨by omega, hno⟩]
    refine Option.bind_eq_some_iff.2 ⟨_, hq, ?_⟩
    unfold sailR
    rw [if_pos (key q oq)]
  refine ⟨sailO U V sills Q true, sailO U V sills Q false, sailO U V sills P true, sailO U V sills P false, fin s Q e0 hlen hQ' oQ, fin t P e1 hlen2 hP' oP, (cmp false).1, (cmp true).1, key Q oQ, sailW_len _ _ _ _, sailW_len _ _ _ _, sailW_len _ _ _ _, fun i hi => ⟨(cmp true).2 i ?_, (cmp false).2 i hi⟩⟩
  exact Nat.lt_of_lt_of_le hi (key Q oQ)
theorem rd56 (l : List S56) (k : Nat) : rd_T56 l (k : Int) = l.getD k z56 := by simp [rd_T56]
theorem over_getD (so la : List Int) (i : Nat) (h : i < la.length) : (overE so la).getD i z56 = ⟨so.getD i 0, la.getD i 0⟩ := by
  have hl : i < (overE so la).length := by simp [overE]; exact h
  rw [getD_get _ _ _ hl]
  simp [overE]
theorem over_len (so la : List Int) : (overE so la).length = la.length := by simp [overE]
theorem sooner_l0 (so la so2 la2 : List Int) (hll : la.length ≤ la2.length) (hn : la.length ≤ 1000000) (hi : ∀ i, i < la.length → so2.getD i 0 ≤ so.getD i 0 ∧ la2.getD i 0 ≤ la.getD i 0) (d : Nat) :
    ∀ i : Nat, i + d = la.length → Ev (fun k => swarflaw07_sooner.l0 k (overE so la) (overE so2 la2) (i : Int)) true := by
  have e1 := over_len so la
  have e2 := over_len so2 la2
  induction d with
  | zero =>
    intro i hd
    refine Ev.succ ?_
    simp (disch := omega) only [swarflaw07_sooner.l0, if_neg]
    exact Ev.now _
  | succ d ih =>
    intro i hd
    obtain ⟨a, b⟩ := hi i (by omega)
    refine Ev.succ ?_
    simp (disch := omega) only [swarflaw07_sooner.l0, if_pos, rd56, over_getD, if_neg]
    rw [wrapS (by omega)]
    exact ih (i + 1) (by omega)
theorem sooner_ev (n : Nat) (so la so2 la2 : List Int) (h1 : la.length ≤ la2.length) (h2 : so.length ≤ so2.length) (h3 : la2.length ≤ n) (h4 : n ≤ 1000) (h5 : la.length ≤ so.length) (hi : ∀ i, i < la.length → so2.getD i 0 ≤ so.getD i 0 ∧ la2.getD i 0 ≤ la.getD i 0) :
    Ev (fun k => swarflaw07_sooner.f k (verdictE n so la) (overE so la) (verdictE n so2 la2) (overE so2 la2)) true := by
  have e1 := over_len so la
  have e2 := over_len so2 la2
  have hl := sooner_l0 so la so2 la2 h1 (by omega) hi la.length 0 (by omega)
  have hj : Ev (fun k => swarflaw07_sooner.j0 k (overE so la) (overE so2 la2) (decide (((overE so2 la2).length : Int) < ((overE so la).length : Int)))) true := by
    rw [decide_eq_false (by omega)]
    refine Ev.succ ?_
    simp only [swarflaw07_sooner.j0, Bool.false_eq_true, if_false]
    exact hl
  unfold swarflaw07_sooner.f verdictE
  by_cases c1 : la.length = n
  · have c2 : la2.length = n := by omega
    simp (disch := omega) only [if_pos c1, if_pos c2, if_pos, if_neg]
    exact hj
  · by_cases c2 : so.length < n
    · by_cases c3 : la2.length = n
      · simp (disch := omega) only [if_neg c1, if_pos c2, if_pos c3, if_pos, if_neg]
        exact hj
      · by_cases c4 : so2.length < n
        · simp (disch := omega) only [if_neg c1, if_pos c2, if_neg c3, if_pos c4, if_pos, if_neg]
          exact hj
        · simp (disch := omega) only [if_neg c1, if_pos c2, if_neg c3, if_neg c4, if_pos, if_neg]
          exact hj
    · have c4 : ¬ so2.length < n := by omega
      by_cases c3 : la2.length = n
      · simp (disch := omega) only [if_neg c1, if_neg c2, if_pos c3, if_pos, if_neg]
        exact hj
      · simp (disch := omega) only [if_neg c1, if_neg c2, if_neg c3, if_neg c4, if_pos, if_neg]
        exact hj
end Go.Proofs.Ytodmemndaaiolaa.PC7
namespace Go.Proofs.Ytodmemndaaiolaa.Pure
set_option linter.unusedVariables false
set_option linter.unusedSimpArgs false
open Go.RowKit Go.Proofs.Ytodmemndaaiolaa.PC7 Go.Proofs.YtodmemndaaiolaaW.PrintWords Go.Proofs.YtodmemndaaiolaaW.PrintLast Go.Proofs.YtodmemndaaiolaaW.PrintMore
theorem lighter_l0 {T L U R V : Int} {holds : List S85} {sills : List S59} {lots : List S79} (h : VoyOK 3 4 6 T L U R holds V sills lots) (hT : T ≤ 1000) {s : List Int} (hs : StowOK holds lots s) (d : Nat) :
    ∀ (i : Nat) (t : List Int) (feed : Int), i + d = s.length → Lighter s t → Ev (fun k => swarflaw07_ShipLighter.l0 k s t (i : Int) feed L U R holds V sills lots) true := by
  have hln := h.ln; have hlen := hs.len; have hsn := h.sn
  induction d with
  | zero =>
    intro i t feed hi hl
    have htl := lighter_len hl
    obtain ⟨so, la, so2, la2, e1, e2, a1, a2, a3, a4, a5, a6, a7⟩ := sail_lighter h (Nat.le_refl _) (Nat.le_refl _) (Nat.le_refl _) hT hs hl
    refine Ev.succ ?_
    simp (disch := omega) only [swarflaw07_ShipLighter.l0, if_neg]
    refine Ev.take e1 (Ev.take e2 ?_)
    simp only [if_true]
    refine Ev.bind (sooner_ev sills.length so la so2 la2 a1 a2 a4 (by omega) a3 a7) ?_
    simp only [if_true]
    exact Ev.tail awake_ev
  | succ d ih =>
    intro i t feed hi hl
    have htl := lighter_len hl
    obtain ⟨r, f2, e1, hr⟩ := either_ok feed [t.getD i 0, -1] (by simp) (show 2 ≤ 1000 by decide)
    refine Ev.succ ?_
    simp (disch := omega) only [swarflaw07_ShipLighter.l0, if_pos, rdI]
    refine Ev.take e1 ?_
    rw [wrapS (by omega), Int.toNat_natCast]
    refine ih (i + 1) _ f2 (by omega) (lighter_set i r hl ?_ (by omega))
    rcases List.mem_cons.1 hr with hr | hr
    · exact .inl hr
    · exact .inr (List.mem_singleton.1 hr)
theorem ShipLighter : swarflaw07_ShipLighter.Pure := by
  intro l0 _ hb8 _
  refine Ev.rounds (g := fun k => swarflaw07_ShipLighter.f k l0) ?_
  unfold swarflaw07_ShipLighter.f
  refine Ev.take (a := feedAll l0) (by unfold swarfkit_FeedOf.f; rw [if_pos (by omega)]) ?_
  obtain ⟨T, f1, e1, hT⟩ := either_ok (feedAll l0) [4, 30] (by simp) (show 2 ≤ 1000 by decide)
  have hTb : 1 ≤ T ∧ T ≤ 1000 := by
    rcases List.mem_cons.1 hT with rfl | hT
    · omega
    · rw [List.mem_singleton.1 hT]; omega
  refine Ev.take e1 ?_
  obtain ⟨⟨L, U, R, holds, V, sills, lots, f2⟩, e2, hv⟩ := voyageOf_res f1 3 4 6 T (by decide) (by decide) (by decide) (by decide) hTb.1 hTb.2
  refine Ev.bind (a := (L, U, R, holds, V, sills, lots, f2)) e2 ?_
  obtain ⟨⟨s, f3⟩, e3, hs⟩ := stowageOf_res hv (by decide) (by decide) hTb.2 f2
  refine Ev.bind (a := (s, f3)) e3 ?_
  have hlen : s.length = lots.length := hs.len
  have hln : lots.length ≤ 6 := hv.ln
  refine Ev.take (a := s) ?_ ?_
  · unfold swarfkit_Ints.f
    simp only [Option.bind_some, List.nil_append, List.length_nil]
    rw [if_pos (by omega)]
  replace hs : StowOK holds lots s := hs
  exact lighter_l0 hv hTb.2 hs s.length 0 s f3 (Nat.zero_add _) (lighter_refl s)
end Go.Proofs.Ytodmemndaaiolaa.Pure
namespace Go.Proofs.YtodmemndaaiolaaW.PrintWords
open Go.ChangeShapes Go.WideShapes
theorem sized_ints {H : Type} {enc : TypeId × Value → H} {P : Program} {W : World} {base : Nat} {spare : Nat → Bool} {held : Bool} {t e : TypeId} {k : IntKind} {a : Option Addr} {len cap : Nat} {d : DataW H} {ps : List MemPlace} {ts : List TypeId} {ds : List (DataW H)} {j : Nat}
    (hsz : (DataW.weightsEach P ts ds).all (· ≤ reachBytes) = true) (ht : ts[j]? = some t) (hd : ds[j]? = some d) (hu : P.underlying t = some (.slice e)) (he : P.underlying e = some (.int k)) (hc : P.cellsOf e = 1) {B : Nat} (hB : P.bytesOf e = B)
    (h : DataW.Trod enc P W base spare held t (.slice a len cap) d ps) : len * B ≤ 140737488351232 := by
  obtain ⟨fuel, hf⟩ := h
  rcases open_ints hu he hc hf with ⟨hcs, _⟩ | ⟨x, l, c, zs, hcs, _, hl, _, hz, hx, _, _⟩
  · simp [Value.cells] at hcs
    obtain ⟨rfl, rfl, rfl⟩ := hcs
    simp
  · simp [Value.cells] at hcs
    obtain ⟨rfl, rfl, rfl⟩ := hcs
    obtain ⟨hx, _⟩ := Prod.mk.inj hx
    subst hx
    have z := sized_slice hsz ht hd hu
    rw [hB] at z
    have hl2 : len ≤ zs.length := by
      rw [hz]
      split
      · exact hl
      · exact Nat.le_refl _
    have h1 : (lits (H := H) k (zs.take len)).length + (lits (H := H) k (zs.drop len)).length = zs.length := by
      simp [lits]
      omega
    rw [h1] at z
    exact Nat.le_trans (Nat.mul_le_mul_right _ hl2) z
end Go.Proofs.YtodmemndaaiolaaW.PrintWords
namespace Go.Proofs.Ytodmemndaaiolaa.shipLighter
open Go.ChangeShapes Go.WideShapes Go.ChangeAt Go.RowKit
open Go.ChangeMaps (open_string shut_string)
set_option linter.unusedVariables false
theorem own : ownKnob Try.prog.godebug = none := by kernel_rfl
theorem laidOut : laidOutB Try.prog = true := by kernel_rfl
def IsRow (k : IntKind) (w : World) (a : Option Addr) (len cap : Nat) (zs : List Int) : Prop :=
  (a = none ∧ len = 0 ∧ cap = 0 ∧ zs = []) ∨
  ∃ x, a = some x ∧ len ≤ cap ∧ cap ≤ maxLen ∧ zs.length = cap ∧ (∀ i, i < zs.length → w.cell? (x.add i) = some (.int k (zs.getD i 0))) ∧ ∀ n ∈ zs, (Lit.int k n).wf = true
set_option maxRecDepth 100000 in
theorem lifted (os : Os) (started : os.Started) (H : Type) (enc : TypeId × Value → H) :
    ReturnsInHanded {} Try.checked os 5 .any (Rows.shipLighterSpec.pre6 enc Try.prog Try.f5 Rows.shipLighterRow.domain false) (Rows.shipLighterSpec.post enc Try.prog Try.f5 false true false false) := by
  refine returnsInHanded_of_change_sized (C := Try.checked) own started (by kernel_rfl) Try.func5
    (ChangeSpec.witness6 (enc := enc) (C := Try.checked) false ⟨#[], #[.slice none 0 0], []⟩ 8 (by kernel_rfl) (by kernel_rfl) (by kernel_rfl) (by kernel_rfl)) ?_
  intro W base args ds gs before hval0 hW hcnd hsz0 _
  have hsz : (DataW.weightsEach Try.prog (Try.f5.params.toList ++ Rows.shipLighterSpec.plain.varTypes Try.prog) (ds ++ gs)).all (· ≤ reachBytes) = true := hsz0
  have hval : ∀ (j : Nat) t v, Try.f5.params[j]? = some t → args[j]? = some v → Value.okWide Try.prog W .any base t v := hval0
  have hW' := hW
  obtain ⟨p, q, hA0, hV, rfl, hfz, hnd⟩ := hW
  have hA : DataW.TrodAll enc Try.prog W 0 (fun _ => true) true Try.f5.params.toList args.toList ds p := hA0
  rw [Try.params5] at hA hval hsz
  obtain ⟨v0, vs0, d0, ds0, p0, q0, hargs, rfl, rfl, h0, r0⟩ := trodAll_cons hA
  obtain ⟨rfl, rfl, rfl⟩ := trodAll_nil r0
  obtain rfl : args = #[v0] := by cases args; simp_all
  obtain ⟨rfl, rfl⟩ := trodVars_none hV
  obtain ⟨a0, len0, cap0, rfl⟩ := okWide_slice Try.underlying27 (hval 0 27 v0 rfl rfl)
  have k0 := h0
  have lt0 : ∀ x ∈ p0, x.block < W.heap.size := by obtain ⟨m, hm⟩ := k0; exact DataW.trod_lt m _ _ _ hm
  obtain ⟨z0, w0⟩ : ∃ zs, IsRow .i64 W a0 len0 cap0 zs := by
    obtain ⟨fuel, hf⟩ := h0
    rcases open_ints Try.underlying27 Try.underlying3 (by kernel_rfl) hf with ⟨hcs, _⟩ | ⟨x, l, c, zs, hcs, _, hl, hm, hz, _, hcell, hwz⟩
    · simp [Value.cells] at hcs
      obtain ⟨rfl, rfl, rfl⟩ := hcs
      exact ⟨[], .inl ⟨rfl, rfl, rfl, rfl⟩⟩
    · simp [Value.cells] at hcs
      obtain ⟨rfl, rfl, rfl⟩ := hcs
      exact ⟨zs, .inr ⟨_, rfl, hl, hm, by simpa using hz, hcell, hwz⟩⟩
  have y0 : len0 * 8 ≤ 140737488351232 := Go.Proofs.YtodmemndaaiolaaW.PrintWords.sized_ints hsz (j := 0) (t := 27) rfl rfl Try.underlying27 Try.underlying3 (by kernel_rfl) (by kernel_rfl) h0
  clear hA0 hval0 hsz0 hsz
  refine (PC7.swarflaw07_ShipLighter.walk Pure.ShipLighter a0 len0 cap0 z0 W w0 y0).mono fun e W' ⟨he, bel⟩ => ?_
  subst he
  exact ⟨_, rfl, _, _, _, [], _, [], hW', trodAll_mk1 (shut_bool Try.underlying4 _), (trodAll_cons_mk (Below.trod laidOut (by kernel_rfl) (of_decide_eq_true (by kernel_rfl)) k0 bel lt0) trodAll_mk0), rfl, bel.frame _, fun h => by cases h⟩
theorem over : Rows.shipLighterRow.holds Try.pinned (OpenSpec.ofChange Rows.shipLighterSpec) :=
  OpenClaim.holds_of_wide 5 Try.f5 rfl rfl rfl rfl rfl rfl rfl ⟨rfl, rfl, rfl, rfl, rfl⟩ rfl rfl rfl rfl rfl (by kernel_rfl) Try.func5 (by kernel_rfl)
    (of_decide_eq_true (by kernel_rfl)) (by unfold Func.isWrapper; first | (rw [if_pos (by decide +kernel)]; kernel_rfl) | (rw [if_neg (by decide +kernel)]; exact ⟨rfl, rfl⟩))
    (fun os started H enc _ => lifted os started H enc)
theorem proved : Rows.ShipLighterSaid := over
#print axioms proved
end Go.Proofs.Ytodmemndaaiolaa.shipLighter
namespace Go.Proofs.Ytodmemndaaiolaa
theorem shipLighter_holds : Rows.ShipLighterSaid := shipLighter.proved
end Go.Proofs.Ytodmemndaaiolaa
