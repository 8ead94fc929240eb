/- with a hold more, or a larger one, the worth of Best is no less -/
import Derived.Test.YtodmemndaaiolaaCShipHold1
import Derived.Test.YtodmemndaaiolaaCShipHold3
import Derived.Test.YtodmemndaaiolaaCShipHold2
import Derived.Test.YtodmemndaaiolaaCShipHold4
import Derived.Test.YtodmemndaaiolaaCShipHold5
import Derived.SizedLaws
import Derived.ChangeSlices
import Derived.Test.YtodmemndaaiolaaRows
import Derived.WalkKit
import Derived.ProofKit
import Derived.OpenShut
import Derived.ShutString
import Derived.ChangeOld
import Derived.Below
namespace Go.Proofs.Ytodmemndaaiolaa.PC7
open Go.RowKit Go.Proofs.YtodmemndaaiolaaW.PrintWords Go.Proofs.YtodmemndaaiolaaW.PrintLast Go.Proofs.YtodmemndaaiolaaW.PrintMore
attribute [local go_sem] max2_int min2_int max_two min_two max_three min_three max_four min_four
set_option linter.unusedVariables false
set_option linter.unusedSimpArgs false
mutual
noncomputable def swarflaw07_ShipHold.j0 : Nat → Int → Int → Int → List (S85) → Int → List (S59) → List (S79) → Int → Int → Int → List (S85) → Int → List (S59) → List (S79) → Option (Bool)
 | 0, _, _, _, _, _, _, _, _, _, _, _, _, _, _ => none
 | k + 1, x1347000, x1347001, x1347002, x1347003, x1347004, x1347005, x1347006, x1361000, x1361001, x1361002, x1361003, x1361004, x1361005, x1361006 => (ship_Best.f x1347000 x1347001 x1347002 x1347003 x1347004 x1347005 x1347006).bind fun bt1376 => ((ship_Best.f x1361000 x1361001 x1361002 x1361003 x1361004 x1361005 x1361006).bind fun bt1381 => (if bt1376.2.2 = 0 then (if bt1381.2.2 = 0 then (if bt1381.2.1 < bt1376.2.1 then (swarflaw07_ShipHold.j1 k bt1376.1 bt1376.2.1 true x1347000 x1347001 x1347002 x1347003 x1347004 x1347005 x1347006) else (swarflaw07_ShipHold.j1 k bt1376.1 bt1376.2.1 (decide (bt1376.2.1 < (-1))) x1347000 x1347001 x1347002 x1347003 x1347004 x1347005 x1347006)) else (swarflaw07_ShipHold.j1 k bt1376.1 bt1376.2.1 true x1347000 x1347001 x1347002 x1347003 x1347004 x1347005 x1347006)) else (swarflaw07_ShipHold.j1 k bt1376.1 bt1376.2.1 true x1347000 x1347001 x1347002 x1347003 x1347004 x1347005 x1347006)))
noncomputable def swarflaw07_ShipHold.j1 : Nat → List Int → Int → Bool → Int → Int → Int → List (S85) → Int → List (S59) → List (S79) → Option (Bool)
 | 0, _, _, _, _, _, _, _, _, _, _ => none
 | k + 1, x6, x7, x79, x1347000, x1347001, x1347002, x1347003, x1347004, x1347005, x1347006 => if x79 = true then (some false) else (if x7 < 0 then ((swarflaw07_awake.f k).bind fun t1386 => (some t1386)) else ((ship_Level.f k x1347000 x1347001 x1347002 x1347003 x1347004 x1347005 x1347006 x6).bind fun bt1387 => ((ship_Sail.f x1347000 x1347001 x1347002 x1347003 x1347004 x1347005 x1347006 x6).bind fun bt1392 => (if bt1387.2.2.2 = 0 then (if bt1392.2.2 = 0 then (if bt1387.1 = true then (if bt1392.1 = 1 then ((swarflaw07_awake.f k).bind fun t1397 => (some t1397)) else (some false)) else (some false)) else (some false)) else (some false)))))
end
noncomputable def swarflaw07_ShipHold.f (k : Nat) (l0 : List Int) : Option (Bool) := (swarfkit_FeedOf.f l0).bind fun t1325 => ((swarfkit_Feed_Either.f t1325 (([4, 30] : List Int))).bind fun bt1330 => ((swarfkit_VoyageOf.f k bt1330.2 2 2 4 bt1330.1).bind fun bt1332 => ((swarfkit_CopyVoyage.f bt1332.1 bt1332.2.1 bt1332.2.2.1 bt1332.2.2.2.1 bt1332.2.2.2.2.1 bt1332.2.2.2.2.2.1 bt1332.2.2.2.2.2.2.1).bind fun bt1347 => ((swarfkit_Feed_Often.f bt1332.2.2.2.2.2.2.2 1 2).bind fun bt1361 => (if bt1361.1 = true then ((swarfkit_Feed_Below.f bt1361.2 40).bind fun bt1363 => ((swarfkit_Feed_Below.f bt1363.2 1500).bind fun bt1365 => ((swarfkit_Feed_Below.f bt1365.2 1500).bind fun bt1367 => (if bt1347.2.2.2.1.length < 5864062014805 then (swarflaw07_ShipHold.j0 k bt1332.1 bt1332.2.1 bt1332.2.2.1 bt1332.2.2.2.1 bt1332.2.2.2.2.1 bt1332.2.2.2.2.2.1 bt1332.2.2.2.2.2.2.1 bt1347.1 bt1347.2.1 bt1347.2.2.1 (bt1347.2.2.2.1 ++ [(⟨bt1363.1, bt1365.1, bt1367.1⟩ : S85)]) bt1347.2.2.2.2.1 bt1347.2.2.2.2.2.1 bt1347.2.2.2.2.2.2) else (none))))) else (if 0 < (bt1347.2.2.2.1.length : Int) then ((swarfkit_Feed_Below.f bt1361.2 20).bind fun bt1373 => (swarflaw07_ShipHold.j0 k bt1332.1 bt1332.2.1 bt1332.2.2.1 bt1332.2.2.2.1 bt1332.2.2.2.2.1 bt1332.2.2.2.2.2.1 bt1332.2.2.2.2.2.2.1 bt1347.1 bt1347.2.1 bt1347.2.2.1 (bt1347.2.2.2.1.set (0 : Int).toNat (⟨wrap64 (((rd_T85 bt1347.2.2.2.1 0).f0) + bt1373.1), (rd_T85 bt1347.2.2.2.1 0).f1, (rd_T85 bt1347.2.2.2.1 0).f2⟩ : S85)) bt1347.2.2.2.2.1 bt1347.2.2.2.2.2.1 bt1347.2.2.2.2.2.2)) else (none)))))))
def swarflaw07_ShipHold.T5 : Bool × List (List Nat × List Nat) := (true, [([], []), ([0], [0]), ([], []), ([2], [2]), ([], []), ([4, 3], [4]), ([], []), ([6, 5], [6]), ([3, 5, 7], [3, 5, 7]), ([8], [8]), ([1, 9, 7], [1, 9]), ([0, 1, 2, 3, 4, 5, 6, 7, 8, 9, 10], []), ([11, 10, 10, 0, 1, 2, 3, 4, 5, 6, 7, 8, 9, 10], [10, 11])])
def swarflaw07_ShipHold.B5 : List Nat := [0, 1, 0, 4, 0, 28, 0, 124, 252, 508, 1023, 2047, 4095]
theorem swarflaw07_ShipHold.tab5 : rtab .any (opsOf Try.f13 5) = swarflaw07_ShipHold.T5 := by kernel_rfl
theorem swarflaw07_ShipHold.bits5 : waitsOk swarflaw07_ShipHold.T5.2 swarflaw07_ShipHold.B5 = true := by kernel_rfl
def swarflaw07_ShipHold.T6 : Bool × List (List Nat × List Nat) := (true, [([], []), ([0], [0]), ([], []), ([2], [2]), ([3], [3]), ([4], [4]), ([5], [5]), ([], []), ([7], [7]), ([6, 8], [6, 8]), ([1, 0, 1, 2, 3, 4, 5, 6, 7, 8, 9], [1]), ([10, 0, 1, 2, 3, 4, 5, 6, 7, 8, 9], [10]), ([11, 9, 8, 0, 1, 2, 3, 4, 5, 6, 7, 8, 9], [9, 11])])
def swarflaw07_ShipHold.B6 : List Nat := [0, 1, 0, 4, 12, 28, 60, 0, 128, 508, 1023, 2047, 4095]
theorem swarflaw07_ShipHold.tab6 : rtab .any (opsOf Try.f13 6) = swarflaw07_ShipHold.T6 := by kernel_rfl
theorem swarflaw07_ShipHold.bits6 : waitsOk swarflaw07_ShipHold.T6.2 swarflaw07_ShipHold.B6 = true := by kernel_rfl
set_option maxHeartbeats 8000000 in
set_option maxRecDepth 100000 in
theorem swarflaw07_ShipHold.calls (k : Nat) (A0 : Option Addr) (c0 : Nat) (l0 : List Int) (r : Bool) (hrt : Aside0 (r = true)) (w : World) (hr0 : Kd.C (Kd.int .i64) w A0 l0.length l0) (hc0 : l0.length ≤ c0) (h : swarflaw07_ShipHold.f k l0 = some r) :
  Calls Try.prog 13 #[.slice A0 l0.length c0] w fun e w' => e = .returned (.bool r) ∧ Below w.heap.size w w' := by
 have hu26 := Try.underlying26
 have hu85 := Try.underlying85
 have hu56 := Try.underlying56
 have HR0 := Aside0.mk hr0
 have HC0 := Aside0.mk hc0
 clear hr0 hc0
 have HB := Aside0.mk (Below.refl w.heap.size w)
 have H : ((swarfkit_FeedOf.f l0).bind fun t1325 => ((swarfkit_Feed_Either.f t1325 (([4, 30] : List Int))).bind fun bt1330 => ((swarfkit_VoyageOf.f k bt1330.2 2 2 4 bt1330.1).bind fun bt1332 => ((swarfkit_CopyVoyage.f bt1332.1 bt1332.2.1 bt1332.2.2.1 bt1332.2.2.2.1 bt1332.2.2.2.2.1 bt1332.2.2.2.2.2.1 bt1332.2.2.2.2.2.2.1).bind fun bt1347 => ((swarfkit_Feed_Often.f bt1332.2.2.2.2.2.2.2 1 2).bind fun bt1361 => (if bt1361.1 = true then ((swarfkit_Feed_Below.f bt1361.2 40).bind fun bt1363 => ((swarfkit_Feed_Below.f bt1363.2 1500).bind fun bt1365 => ((swarfkit_Feed_Below.f bt1365.2 1500).bind fun bt1367 => (if bt1347.2.2.2.1.length < 5864062014805 then (swarflaw07_ShipHold.j0 k bt1332.1 bt1332.2.1 bt1332.2.2.1 bt1332.2.2.2.1 bt1332.2.2.2.2.1 bt1332.2.2.2.2.2.1 bt1332.2.2.2.2.2.2.1 bt1347.1 bt1347.2.1 bt1347.2.2.1 (bt1347.2.2.2.1 ++ [(⟨bt1363.1, bt1365.1, bt1367.1⟩ : S85)]) bt1347.2.2.2.2.1 bt1347.2.2.2.2.2.1 bt1347.2.2.2.2.2.2) else (none))))) else (if 0 < (bt1347.2.2.2.1.length : Int) then ((swarfkit_Feed_Below.f bt1361.2 20).bind fun bt1373 => (swarflaw07_ShipHold.j0 k bt1332.1 bt1332.2.1 bt1332.2.2.1 bt1332.2.2.2.1 bt1332.2.2.2.2.1 bt1332.2.2.2.2.2.1 bt1332.2.2.2.2.2.2.1 bt1347.1 bt1347.2.1 bt1347.2.2.1 (bt1347.2.2.2.1.set (0 : Int).toNat (⟨wrap64 (((rd_T85 bt1347.2.2.2.1 0).f0) + bt1373.1), (rd_T85 bt1347.2.2.2.1 0).f1, (rd_T85 bt1347.2.2.2.1 0).f2⟩ : S85)) bt1347.2.2.2.2.1 bt1347.2.2.2.2.2.1 bt1347.2.2.2.2.2.2)) else (none)))))))) = some r := h
 clear h
 replace H := Option.bind_eq_some_iff.mp H
 obtain ⟨t1325, A20, H⟩ := H
 try dsimp only at H
 have A2 := Aside0.mk A20
 clear A20
 obtain ⟨y1327, hy1327⟩ : ∃ y_ : List Int, y_ = (([4, 30] : List Int)) := ⟨_, rfl⟩
 replace H : ((swarfkit_Feed_Either.f t1325 y1327).bind fun bt1330 => ((swarfkit_VoyageOf.f k bt1330.2 2 2 4 bt1330.1).bind fun bt1332 => ((swarfkit_CopyVoyage.f bt1332.1 bt1332.2.1 bt1332.2.2.1 bt1332.2.2.2.1 bt1332.2.2.2.2.1 bt1332.2.2.2.2.2.1 bt1332.2.2.2.2.2.2.1).bind fun bt1347 => ((swarfkit_Feed_Often.f bt1332.2.2.2.2.2.2.2 1 2).bind fun bt1361 => (if bt1361.1 = true then ((swarfkit_Feed_Below.f bt1361.2 40).bind fun bt1363 => ((swarfkit_Feed_Below.f bt1363.2 1500).bind fun bt1365 => ((swarfkit_Feed_Below.f bt1365.2 1500).bind fun bt1367 => (if bt1347.2.2.2.1.length < 5864062014805 then (swarflaw07_ShipHold.j0 k bt1332.1 bt1332.2.1 bt1332.2.2.1 bt1332.2.2.2.1 bt1332.2.2.2.2.1 bt1332.2.2.2.2.2.1 bt1332.2.2.2.2.2.2.1 bt1347.1 bt1347.2.1 bt1347.2.2.1 (bt1347.2.2.2.1 ++ [(⟨bt1363.1, bt1365.1, bt1367.1⟩ : S85)]) bt1347.2.2.2.2.1 bt1347.2.2.2.2.2.1 bt1347.2.2.2.2.2.2) else (none))))) else (if 0 < (bt1347.2.2.2.1.length : Int) then ((swarfkit_Feed_Below.f bt1361.2 20).bind fun bt1373 => (swarflaw07_ShipHold.j0 k bt1332.1 bt1332.2.1 bt1332.2.2.1 bt1332.2.2.2.1 bt1332.2.2.2.2.1 bt1332.2.2.2.2.2.1 bt1332.2.2.2.2.2.2.1 bt1347.1 bt1347.2.1 bt1347.2.2.1 (bt1347.2.2.2.1.set (0 : Int).toNat (⟨wrap64 (((rd_T85 bt1347.2.2.2.1 0).f0) + bt1373.1), (rd_T85 bt1347.2.2.2.1 0).f1, (rd_T85 bt1347.2.2.2.1 0).f2⟩ : S85)) bt1347.2.2.2.2.1 bt1347.2.2.2.2.2.1 bt1347.2.2.2.2.2.2)) else (none))))))) = some r := by first | (rw [hy1327]; with_reducible exact H) | (have H2_ := (Option.bind_some _ _).symm.trans H; rw [hy1327]; with_reducible exact H2_) | (have H2_ := (Option.bind_some _ _).symm.trans H; with_reducible exact H2_) | with_reducible exact H | (rw [hy1327]; exact H) | exact H
 have Ny1327 := Aside0.mk hy1327
 clear hy1327
 replace H := Option.bind_eq_some_iff.mp H
 obtain ⟨⟨t1330, t1331⟩, A30, H⟩ := H
 try dsimp only at H
 have A3 := Aside0.mk A30
 clear A30
 replace H := Option.bind_eq_some_iff.mp H
 obtain ⟨⟨t1332, t1333, t1334, t1335, t1338, t1339, t1342, t1345⟩, A40, H⟩ := H
 try dsimp only at H
 have A4 := Aside0.mk A40
 clear A40
 replace H := Option.bind_eq_some_iff.mp H
 obtain ⟨⟨t1347, t1348, t1349, t1350, t1353, t1354, t1357⟩, A50, H⟩ := H
 try dsimp only at H
 have A5 := Aside0.mk A50
 clear A50
 replace H := Option.bind_eq_some_iff.mp H
 obtain ⟨⟨t1361, t1362⟩, A60, H⟩ := H
 try dsimp only at H
 have A6 := Aside0.mk A60
 clear A60
 have HC7 := Aside0.mk H
 clear H
 go_enter Try.func13, Try.ntmps13
 go_upto_if 28 with (first | ((with_reducible refine gate_callee (f := 16) rfl ?_); refine goesL_ (some 19) rfl rfl Try.func16 (by kernel_rfl) rfl #[.slice A0 l0.length c0] rfl (by (try simp only [List.map_toArray, List.map_cons, List.map_nil]); first | done | rfl | (simp only [List.length_drop, List.length_take]; rfl)) ?_; (with_reducible refine (swarfkit_FeedOf.calls _ _ l0 t1325 w _ ?side1 ?side2 ?side3 A2.out).mono ?_); (case side1 => exact below_y HB.out); (case side2 => exact HR0.out); (case side3 => exact HC0.out); rintro e w8 ⟨g1326, rfl, hi, hb, hb2⟩; refine ⟨_, rfl, ?_⟩; replace HB := Aside0.mk (hb); have HI1326 := Aside0.mk (hi); (try clear hb); (try clear hk); (try clear hi)) | ((with_reducible refine gate_dst (N := 22) rfl ?_); refine Kd.R_lit (Kd.int .i64) _ 3 ?hg (N := 22) ?hd (xs := ([4, 30] : List Int)) (inner := [.int .i64 4, .int .i64 30]) (ok := fun _ => True) (okp := fun _ => True) ?hr ?hp (fun _ hk => hk) trivial (Below.refl _ _) (Nat.le_refl _) (by simp) ?_; (case hd => rfl); (case hg => rfl); (case hr => first | (go_simp; done) | (go_simp; rfl)); (case hp => exact (Reps.one (show Kd.M (Kd.int .i64) _ _ _ 4 [.int .i64 4] from rfl) (Reps.one (show Kd.M (Kd.int .i64) _ _ _ 30 [.int .i64 30] from rfl) (Reps.none _ _)))); intro v1328 w9 ho10 hb hg_ hnew_; clear hg_ hnew_; (first | rw [← Ny1327.out] at ho10 | (simp only [Int.reduceToNat] at ho10; rw [← Ny1327.out] at ho10)); have HO1329 := Aside0.mk (Kd.R_lower ho10 (below_size (by exact below_y HB.out))); replace HI1326 := Aside0.mk (IsS90.below (by exact IsS90.up HI1326.out) hb); replace HB := bl_x HB hb; clear hb ho10; obtain ⟨Ao11, co11, eo11⟩ := Kd.R_slice HO1329.out; subst eo11) | ((with_reducible refine gate_callee (f := 18) rfl ?_); refine goesL_ (some 23) rfl rfl Try.func18 (by kernel_rfl) rfl #[.pointer (some ⟨g1326, 0, none⟩), .slice Ao11 y1327.length co11] rfl (by (try simp only [List.map_toArray, List.map_cons, List.map_nil]); first | done | rfl | (simp only [List.length_drop, List.length_take]; rfl)) ?_; (with_reducible refine (swarfkit_Feed_Either.calls g1326 t1325 _ _ y1327 t1330 t1331 w _ ?side1 ?side2 ?side3 ?side4 ?side5 A3.out).mono ?_); (case side1 => exact IsS90.up HI1326.out); (case side2 => exact below_y HB.out); (case side3 => exact Kd.C_y (Kd.R_reads' HO1329.out).2.2); (case side4 => exact (Kd.R_reads' HO1329.out).2.1); (case side5 => exact far_slice (IsS90.own_ne HI1326.out HO1329.out (by decide))); rintro e w12 ⟨rfl, hi, hb, hk⟩; refine ⟨_, rfl, ?_⟩; replace HO1329 := Aside0.mk (Kd.R_mono (Kd.R_keep (IsS90.apart (show IsS90 w _ g1326 t1325 from by exact IsS90.up HI1326.out) (Kd.R_x HO1329.out) (by decide)) hk (fun _ h => h.2)) (fun _ h => h.1)); replace HB := Aside0.mk (hb); replace HI1326 := Aside0.mk (hi); (try clear hb); (try clear hk); (try clear hi)) | ((with_reducible refine gate_callee (f := 17) rfl ?_); refine goesL_ (some 24) rfl rfl Try.func17 (by kernel_rfl) rfl #[.pointer (some ⟨g1326, 0, none⟩), .int .i64 2, .int .i64 2, .int .i64 4, .int .i64 t1330] rfl (by (try simp only [List.map_toArray, List.map_cons, List.map_nil]); first | done | rfl | (simp only [List.length_drop, List.length_take]; rfl)) ?_; (with_reducible refine (swarfkit_VoyageOf.calls k g1326 t1331 2 2 4 t1330 t1332 t1333 t1334 t1335 t1338 t1339 t1342 t1345 w _ ?side1 ?side2 A4.out).mono ?_); (case side1 => exact IsS90.up HI1326.out); (case side2 => exact below_y HB.out); rintro e w13 ⟨v1336, v1340, v1343, rfl, ho0, ho1, ho2, hi, hb, hk⟩; refine ⟨_, rfl, ?_⟩; replace HO1329 := Aside0.mk (Kd.R_mono (Kd.R_keep (IsS90.apart (show IsS90 w _ g1326 t1331 from by exact IsS90.up HI1326.out) (Kd.R_x HO1329.out) (by decide)) hk (fun _ h => h.2)) (fun _ h => h.1)); have HO1337 := Aside0.mk (Kd.R_lower ho0 (below_size (by exact below_y HB.out))); have HO1341 := Aside0.mk (Kd.S_lower ho1 (below_size (by exact below_y HB.out))); have HO1344 := Aside0.mk (Kd.R_lower ho2 (below_size (by exact below_y HB.out))); replace HB := Aside0.mk (hb); replace HI1326 := Aside0.mk (hi); (try clear hb); (try clear hk); (try clear hi); (try clear ho0); (try clear ho1); (try clear ho2)) | ((with_reducible refine gate_dst (N := 4) rfl ?_); refine box_event ?hg (N := 4) ?hd (cs := #[.int .i64 0, .int .i64 0, .int .i64 0, .slice none 0 0, .int .i64 0, .slice none 0 0, .slice none 0 0]) (t := 26) ?hr ?_; (case hd => rfl); (case hg => rfl); (case hr => first | (go_simp; done) | (go_simp; rfl)); intro gb1346 hg w14 hbox hb; replace HO1329 := Aside0.mk (Kd.R_below (Kd.R_x HO1329.out) hb); replace HO1337 := Aside0.mk (Kd.R_below (Kd.R_x HO1337.out) hb); replace HO1341 := Aside0.mk (Kd.S_below (Kd.S_x HO1341.out) hb); replace HO1344 := Aside0.mk (Kd.R_below (Kd.R_x HO1344.out) hb); have BK1346 := Aside0.mk (hbox); have GW1346 := Aside0.mk ((by rw [hg]; exact (below_size (by exact below_y HB.out)) : w.heap.size ≤ gb1346)); have GE1346 := Aside0.mk ((by rw [hg]; exact (below_size (by exact below_y HB.out)) : w.heap.size ≤ gb1346)); replace HB := bl_x HB hb; have NB1326_1346 := Aside0.mk ((by rw [hg]; exact Nat.ne_of_lt (IsS90.lt (show IsS90 w _ g1326 t1345 from by exact IsS90.up HI1326.out)) : g1326 ≠ gb1346)); have NB1346_1326 := Aside0.mk ((by rw [hg]; exact Nat.ne_of_gt (IsS90.lt (show IsS90 w _ g1326 t1345 from by exact IsS90.up HI1326.out)) : gb1346 ≠ g1326)); replace HI1326 := Aside0.mk (IsS90.below (by exact IsS90.up HI1326.out) hb); clear hb hbox hg; have hnb15 := NB1346_1326.out; have hnc15 := NB1326_1346.out; obtain ⟨_, _, _, _, _, _, _⟩ := cz7 BK1346; have hfz16_0 := blk_frozen BK1346.out; obtain ⟨Ao17, co17, eo17⟩ := Kd.R_slice HO1337.out; subst eo17; obtain ⟨Ao18, co18, eo18⟩ := Kd.S_slice HO1341.out; subst eo18; obtain ⟨Ao19, co19, eo19⟩ := Kd.R_slice HO1344.out; subst eo19) | ((with_reducible refine gate_callee (f := 20) rfl ?_); refine goesL_ (some 26) rfl rfl Try.func20 (by kernel_rfl) rfl #[.agg #[.int .i64 t1332, .int .i64 t1333, .int .i64 t1334, .slice Ao17 t1335.length co17, .int .i64 t1338, .slice Ao18 t1339.length co18, .slice Ao19 t1342.length co19]] rfl (by (try simp only [List.map_toArray, List.map_cons, List.map_nil]); first | done | rfl | (simp only [List.length_drop, List.length_take]; rfl)) ?_; (with_reducible refine (swarfkit_CopyVoyage.calls t1332 t1333 t1334 _ _ t1335 t1338 _ _ t1339 _ _ t1342 t1347 t1348 t1349 t1350 t1353 t1354 t1357 _ ?side1 ?side2 ?side3 ?side4 ?side5 ?side6 A5.out).mono ?_); (case side1 => refine (Kd.R_reads' (e := 85) (base := w.heap.size) (ok := fun k_ => True) (n := t1335.length) (c := co17) ?_).2.2; exact (by (with_reducible repeat (first | apply Kd.R_alloc | apply Kd.R_drewN | apply Kd.R_drew)); exact (Kd.R_mono (Kd.R_far (p := ⟨gb1346, 6, none⟩) (Kd.R_far (p := ⟨gb1346, 5, none⟩) (Kd.R_far (p := ⟨gb1346, 4, none⟩) (Kd.R_far (p := ⟨gb1346, 3, none⟩) (Kd.R_far (p := ⟨gb1346, 2, none⟩) (Kd.R_far (p := ⟨gb1346, 1, none⟩) (Kd.R_far (p := ⟨gb1346, 0, none⟩) (Kd.R_types HO1337.out BK1346.out (by decide)) (fun _ hk => hk.2) (.int .i64 t1332)) (fun _ hk => hk.2) (.int .i64 t1333)) (fun _ hk => hk.2) (.int .i64 t1334)) (fun _ hk => hk.2) (.slice Ao17 t1335.length co17)) (fun _ hk => hk.2) (.int .i64 t1338)) (fun _ hk => hk.2) (.slice Ao18 t1339.length co18)) (fun _ hk => hk.2) (.slice Ao19 t1342.length co19)) (fun _ h_ => h_.1)))); (case side2 => exact (Kd.R_reads' HO1337.out).2.1); (case side3 => refine (Kd.S_reads' (e := 59) (base := w.heap.size) (ok := fun k_ => True) (n := t1339.length) (c := co18) ?_).2.2; exact (by (with_reducible repeat (first | apply Kd.S_alloc | apply Kd.S_drewN | apply Kd.S_drew)); exact (Kd.S_mono (Kd.S_far (p := ⟨gb1346, 6, none⟩) (Kd.S_far (p := ⟨gb1346, 5, none⟩) (Kd.S_far (p := ⟨gb1346, 4, none⟩) (Kd.S_far (p := ⟨gb1346, 3, none⟩) (Kd.S_far (p := ⟨gb1346, 2, none⟩) (Kd.S_far (p := ⟨gb1346, 1, none⟩) (Kd.S_far (p := ⟨gb1346, 0, none⟩) (Kd.S_types HO1341.out BK1346.out (by decide)) (fun _ hk => hk.2) (.int .i64 t1332)) (fun _ hk => hk.2) (.int .i64 t1333)) (fun _ hk => hk.2) (.int .i64 t1334)) (fun _ hk => hk.2) (.slice Ao17 t1335.length co17)) (fun _ hk => hk.2) (.int .i64 t1338)) (fun _ hk => hk.2) (.slice Ao18 t1339.length co18)) (fun _ hk => hk.2) (.slice Ao19 t1342.length co19)) (fun _ h_ => h_.1)))); (case side4 => exact (Kd.S_reads' HO1341.out).2.1); (case side5 => refine (Kd.R_reads' (e := 79) (base := w.heap.size) (ok := fun k_ => True) (n := t1342.length) (c := co19) ?_).2.2; exact (by (with_reducible repeat (first | apply Kd.R_alloc | apply Kd.R_drewN | apply Kd.R_drew)); exact (Kd.R_mono (Kd.R_far (p := ⟨gb1346, 6, none⟩) (Kd.R_far (p := ⟨gb1346, 5, none⟩) (Kd.R_far (p := ⟨gb1346, 4, none⟩) (Kd.R_far (p := ⟨gb1346, 3, none⟩) (Kd.R_far (p := ⟨gb1346, 2, none⟩) (Kd.R_far (p := ⟨gb1346, 1, none⟩) (Kd.R_far (p := ⟨gb1346, 0, none⟩) (Kd.R_types HO1344.out BK1346.out (by decide)) (fun _ hk => hk.2) (.int .i64 t1332)) (fun _ hk => hk.2) (.int .i64 t1333)) (fun _ hk => hk.2) (.int .i64 t1334)) (fun _ hk => hk.2) (.slice Ao17 t1335.length co17)) (fun _ hk => hk.2) (.int .i64 t1338)) (fun _ hk => hk.2) (.slice Ao18 t1339.length co18)) (fun _ hk => hk.2) (.slice Ao19 t1342.length co19)) (fun _ h_ => h_.1)))); (case side6 => exact (Kd.R_reads' HO1344.out).2.1); rintro e w20 ⟨v1351, v1355, v1358, rfl, ho0, ho1, ho2, hb⟩; refine ⟨_, rfl, ?_⟩; replace HO1329 := Aside0.mk (Kd.R_below (by (with_reducible repeat (first | apply Kd.R_alloc | apply Kd.R_drewN | apply Kd.R_drew)); exact (Kd.R_mono (Kd.R_far (p := ⟨gb1346, 6, none⟩) (Kd.R_far (p := ⟨gb1346, 5, none⟩) (Kd.R_far (p := ⟨gb1346, 4, none⟩) (Kd.R_far (p := ⟨gb1346, 3, none⟩) (Kd.R_far (p := ⟨gb1346, 2, none⟩) (Kd.R_far (p := ⟨gb1346, 1, none⟩) (Kd.R_far (p := ⟨gb1346, 0, none⟩) (Kd.R_types HO1329.out BK1346.out (by decide)) (fun _ hk => hk.2) (.int .i64 t1332)) (fun _ hk => hk.2) (.int .i64 t1333)) (fun _ hk => hk.2) (.int .i64 t1334)) (fun _ hk => hk.2) (.slice Ao17 t1335.length co17)) (fun _ hk => hk.2) (.int .i64 t1338)) (fun _ hk => hk.2) (.slice Ao18 t1339.length co18)) (fun _ hk => hk.2) (.slice Ao19 t1342.length co19)) (fun _ h_ => h_.1))) hb); have HO1352 := Aside0.mk (Kd.R_lower (Kd.R_new' ho0 (Kd.R_lt (by (with_reducible repeat (first | apply Kd.R_alloc | apply Kd.R_drewN | apply Kd.R_drew)); exact (Kd.R_mono (Kd.R_far (p := ⟨gb1346, 6, none⟩) (Kd.R_far (p := ⟨gb1346, 5, none⟩) (Kd.R_far (p := ⟨gb1346, 4, none⟩) (Kd.R_far (p := ⟨gb1346, 3, none⟩) (Kd.R_far (p := ⟨gb1346, 2, none⟩) (Kd.R_far (p := ⟨gb1346, 1, none⟩) (Kd.R_far (p := ⟨gb1346, 0, none⟩) (Kd.R_types HO1337.out BK1346.out (by decide)) (fun _ hk => hk.2) (.int .i64 t1332)) (fun _ hk => hk.2) (.int .i64 t1333)) (fun _ hk => hk.2) (.int .i64 t1334)) (fun _ hk => hk.2) (.slice Ao17 t1335.length co17)) (fun _ hk => hk.2) (.int .i64 t1338)) (fun _ hk => hk.2) (.slice Ao18 t1339.length co18)) (fun _ hk => hk.2) (.slice Ao19 t1342.length co19)) (fun _ h_ => h_.1))))) (below_size (by exact below_y HB.out))); replace HO1337 := Aside0.mk (Kd.R_elder' (by (with_reducible repeat (first | apply Kd.R_alloc | apply Kd.R_drewN | apply Kd.R_drew)); exact (Kd.R_mono (Kd.R_far (p := ⟨gb1346, 6, none⟩) (Kd.R_far (p := ⟨gb1346, 5, none⟩) (Kd.R_far (p := ⟨gb1346, 4, none⟩) (Kd.R_far (p := ⟨gb1346, 3, none⟩) (Kd.R_far (p := ⟨gb1346, 2, none⟩) (Kd.R_far (p := ⟨gb1346, 1, none⟩) (Kd.R_far (p := ⟨gb1346, 0, none⟩) (Kd.R_types HO1337.out BK1346.out (by decide)) (fun _ hk => hk.2) (.int .i64 t1332)) (fun _ hk => hk.2) (.int .i64 t1333)) (fun _ hk => hk.2) (.int .i64 t1334)) (fun _ hk => hk.2) (.slice Ao17 t1335.length co17)) (fun _ hk => hk.2) (.int .i64 t1338)) (fun _ hk => hk.2) (.slice Ao18 t1339.length co18)) (fun _ hk => hk.2) (.slice Ao19 t1342.length co19)) (fun _ h_ => h_.1))) (Kd.R_base ho0) hb); have HO1356 := Aside0.mk (Kd.S_lower (Kd.S_new' ho1 (Kd.S_lt (by (with_reducible repeat (first | apply Kd.S_alloc | apply Kd.S_drewN | apply Kd.S_drew)); exact (Kd.S_mono (Kd.S_far (p := ⟨gb1346, 6, none⟩) (Kd.S_far (p := ⟨gb1346, 5, none⟩) (Kd.S_far (p := ⟨gb1346, 4, none⟩) (Kd.S_far (p := ⟨gb1346, 3, none⟩) (Kd.S_far (p := ⟨gb1346, 2, none⟩) (Kd.S_far (p := ⟨gb1346, 1, none⟩) (Kd.S_far (p := ⟨gb1346, 0, none⟩) (Kd.S_types HO1341.out BK1346.out (by decide)) (fun _ hk => hk.2) (.int .i64 t1332)) (fun _ hk => hk.2) (.int .i64 t1333)) (fun _ hk => hk.2) (.int .i64 t1334)) (fun _ hk => hk.2) (.slice Ao17 t1335.length co17)) (fun _ hk => hk.2) (.int .i64 t1338)) (fun _ hk => hk.2) (.slice Ao18 t1339.length co18)) (fun _ hk => hk.2) (.slice Ao19 t1342.length co19)) (fun _ h_ => h_.1))))) (below_size (by exact below_y HB.out))); replace HO1341 := Aside0.mk (Kd.S_elder' (by (with_reducible repeat (first | apply Kd.S_alloc | apply Kd.S_drewN | apply Kd.S_drew)); exact (Kd.S_mono (Kd.S_far (p := ⟨gb1346, 6, none⟩) (Kd.S_far (p := ⟨gb1346, 5, none⟩) (Kd.S_far (p := ⟨gb1346, 4, none⟩) (Kd.S_far (p := ⟨gb1346, 3, none⟩) (Kd.S_far (p := ⟨gb1346, 2, none⟩) (Kd.S_far (p := ⟨gb1346, 1, none⟩) (Kd.S_far (p := ⟨gb1346, 0, none⟩) (Kd.S_types HO1341.out BK1346.out (by decide)) (fun _ hk => hk.2) (.int .i64 t1332)) (fun _ hk => hk.2) (.int .i64 t1333)) (fun _ hk => hk.2) (.int .i64 t1334)) (fun _ hk => hk.2) (.slice Ao17 t1335.length co17)) (fun _ hk => hk.2) (.int .i64 t1338)) (fun _ hk => hk.2) (.slice Ao18 t1339.length co18)) (fun _ hk => hk.2) (.slice Ao19 t1342.length co19)) (fun _ h_ => h_.1))) (Kd.S_base ho1) hb); have HO1359 := Aside0.mk (Kd.R_lower (Kd.R_new' ho2 (Kd.R_lt (by (with_reducible repeat (first | apply Kd.R_alloc | apply Kd.R_drewN | apply Kd.R_drew)); exact (Kd.R_mono (Kd.R_far (p := ⟨gb1346, 6, none⟩) (Kd.R_far (p := ⟨gb1346, 5, none⟩) (Kd.R_far (p := ⟨gb1346, 4, none⟩) (Kd.R_far (p := ⟨gb1346, 3, none⟩) (Kd.R_far (p := ⟨gb1346, 2, none⟩) (Kd.R_far (p := ⟨gb1346, 1, none⟩) (Kd.R_far (p := ⟨gb1346, 0, none⟩) (Kd.R_types HO1344.out BK1346.out (by decide)) (fun _ hk => hk.2) (.int .i64 t1332)) (fun _ hk => hk.2) (.int .i64 t1333)) (fun _ hk => hk.2) (.int .i64 t1334)) (fun _ hk => hk.2) (.slice Ao17 t1335.length co17)) (fun _ hk => hk.2) (.int .i64 t1338)) (fun _ hk => hk.2) (.slice Ao18 t1339.length co18)) (fun _ hk => hk.2) (.slice Ao19 t1342.length co19)) (fun _ h_ => h_.1))))) (below_size (by exact below_y HB.out))); replace HO1344 := Aside0.mk (Kd.R_elder' (by (with_reducible repeat (first | apply Kd.R_alloc | apply Kd.R_drewN | apply Kd.R_drew)); exact (Kd.R_mono (Kd.R_far (p := ⟨gb1346, 6, none⟩) (Kd.R_far (p := ⟨gb1346, 5, none⟩) (Kd.R_far (p := ⟨gb1346, 4, none⟩) (Kd.R_far (p := ⟨gb1346, 3, none⟩) (Kd.R_far (p := ⟨gb1346, 2, none⟩) (Kd.R_far (p := ⟨gb1346, 1, none⟩) (Kd.R_far (p := ⟨gb1346, 0, none⟩) (Kd.R_types HO1344.out BK1346.out (by decide)) (fun _ hk => hk.2) (.int .i64 t1332)) (fun _ hk => hk.2) (.int .i64 t1333)) (fun _ hk => hk.2) (.int .i64 t1334)) (fun _ hk => hk.2) (.slice Ao17 t1335.length co17)) (fun _ hk => hk.2) (.int .i64 t1338)) (fun _ hk => hk.2) (.slice Ao18 t1339.length co18)) (fun _ hk => hk.2) (.slice Ao19 t1342.length co19)) (fun _ h_ => h_.1))) (Kd.R_base ho2) hb); replace HI1326 := Aside0.mk (IsS90.below (show IsS90 w (((((((w14.setCell ⟨gb1346, 0, none⟩ (.int .i64 t1332)).setCell ⟨gb1346, 1, none⟩ (.int .i64 t1333)).setCell ⟨gb1346, 2, none⟩ (.int .i64 t1334)).setCell ⟨gb1346, 3, none⟩ (.slice Ao17 t1335.length co17)).setCell ⟨gb1346, 4, none⟩ (.int .i64 t1338)).setCell ⟨gb1346, 5, none⟩ (.slice Ao18 t1339.length co18)).setCell ⟨gb1346, 6, none⟩ (.slice Ao19 t1342.length co19)) g1326 t1345 from by exact IsS90.up HI1326.out) hb); replace BK1346 := Aside0.mk (blk_below (g := gb1346) (o := .cells #[.int .i64 t1332, .int .i64 t1333, .int .i64 t1334, .slice Ao17 t1335.length co17, .int .i64 t1338, .slice Ao18 t1339.length co18, .slice Ao19 t1342.length co19] 26 (0, 0)) (by (with_reducible repeat (first | refine blk_drewN ?_ _ | refine blk_drew ?_ | refine blk_alloc ?_ _)); refine blk_put (cs := #[.int .i64 t1332, .int .i64 t1333, .int .i64 t1334, .slice Ao17 t1335.length co17, .int .i64 t1338, .slice Ao18 t1339.length co18, .slice none 0 0]) ?_ 6 _ rfl; (with_reducible repeat (first | refine blk_drewN ?_ _ | refine blk_drew ?_ | refine blk_alloc ?_ _)); refine blk_put (cs := #[.int .i64 t1332, .int .i64 t1333, .int .i64 t1334, .slice Ao17 t1335.length co17, .int .i64 t1338, .slice none 0 0, .slice none 0 0]) ?_ 5 _ rfl; (with_reducible repeat (first | refine blk_drewN ?_ _ | refine blk_drew ?_ | refine blk_alloc ?_ _)); refine blk_put (cs := #[.int .i64 t1332, .int .i64 t1333, .int .i64 t1334, .slice Ao17 t1335.length co17, .int .i64 0, .slice none 0 0, .slice none 0 0]) ?_ 4 _ rfl; (with_reducible repeat (first | refine blk_drewN ?_ _ | refine blk_drew ?_ | refine blk_alloc ?_ _)); refine blk_put (cs := #[.int .i64 t1332, .int .i64 t1333, .int .i64 t1334, .slice none 0 0, .int .i64 0, .slice none 0 0, .slice none 0 0]) ?_ 3 _ rfl; (with_reducible repeat (first | refine blk_drewN ?_ _ | refine blk_drew ?_ | refine blk_alloc ?_ _)); refine blk_put (cs := #[.int .i64 t1332, .int .i64 t1333, .int .i64 0, .slice none 0 0, .int .i64 0, .slice none 0 0, .slice none 0 0]) ?_ 2 _ rfl; (with_reducible repeat (first | refine blk_drewN ?_ _ | refine blk_drew ?_ | refine blk_alloc ?_ _)); refine blk_put (cs := #[.int .i64 t1332, .int .i64 0, .int .i64 0, .slice none 0 0, .int .i64 0, .slice none 0 0, .slice none 0 0]) ?_ 1 _ rfl; (with_reducible repeat (first | refine blk_drewN ?_ _ | refine blk_drew ?_ | refine blk_alloc ?_ _)); refine blk_put (cs := #[.int .i64 0, .int .i64 0, .int .i64 0, .slice none 0 0, .int .i64 0, .slice none 0 0, .slice none 0 0]) ?_ 0 _ rfl; (with_reducible repeat (first | refine blk_drewN ?_ _ | refine blk_drew ?_ | refine blk_alloc ?_ _)); exact BK1346.out) hb); replace HB := bl_x HB hb; (try clear hb); (try clear hk); (try clear hi); (try clear ho0); (try clear ho1); (try clear ho2)) | ((with_reducible refine gate_dst (N := 5) rfl ?_); refine box_event ?hg (N := 5) ?hd (cs := #[.int .i64 0, .int .i64 0, .int .i64 0, .slice none 0 0, .int .i64 0, .slice none 0 0, .slice none 0 0]) (t := 26) ?hr ?_; (case hd => rfl); (case hg => rfl); (case hr => first | (go_simp; done) | (go_simp; rfl)); intro gb1360 hg w21 hbox hb; replace HO1329 := Aside0.mk (Kd.R_below (Kd.R_x HO1329.out) hb); replace HO1337 := Aside0.mk (Kd.R_below (Kd.R_x HO1337.out) hb); replace HO1341 := Aside0.mk (Kd.S_below (Kd.S_x HO1341.out) hb); replace HO1344 := Aside0.mk (Kd.R_below (Kd.R_x HO1344.out) hb); replace HO1352 := Aside0.mk (Kd.R_below (Kd.R_x HO1352.out) hb); replace HO1356 := Aside0.mk (Kd.S_below (Kd.S_x HO1356.out) hb); replace HO1359 := Aside0.mk (Kd.R_below (Kd.R_x HO1359.out) hb); have BK1360 := Aside0.mk (hbox); have GW1360 := Aside0.mk ((by rw [hg]; exact (below_size (by exact below_y HB.out)) : w.heap.size ≤ gb1360)); have GE1360 := Aside0.mk ((by rw [hg]; exact (below_size (by exact below_y HB.out)) : w.heap.size ≤ gb1360)); replace HB := bl_x HB hb; have NB1346_1360 := Aside0.mk ((by rw [hg]; exact Nat.ne_of_lt (blk_lt (g := gb1346) (o := .cells #[.int .i64 t1332, .int .i64 t1333, .int .i64 t1334, .slice Ao17 t1335.length co17, .int .i64 t1338, .slice Ao18 t1339.length co18, .slice Ao19 t1342.length co19] 26 (0, 0)) (blk_x BK1346.out)) : gb1346 ≠ gb1360)); have NB1360_1346 := Aside0.mk ((by rw [hg]; exact Nat.ne_of_gt (blk_lt (g := gb1346) (o := .cells #[.int .i64 t1332, .int .i64 t1333, .int .i64 t1334, .slice Ao17 t1335.length co17, .int .i64 t1338, .slice Ao18 t1339.length co18, .slice Ao19 t1342.length co19] 26 (0, 0)) (blk_x BK1346.out)) : gb1360 ≠ gb1346)); replace BK1346 := Aside0.mk (blk_below (blk_x BK1346.out) hb); have NB1326_1360 := Aside0.mk ((by rw [hg]; exact Nat.ne_of_lt (IsS90.lt (show IsS90 w _ g1326 t1345 from by exact IsS90.up HI1326.out)) : g1326 ≠ gb1360)); have NB1360_1326 := Aside0.mk ((by rw [hg]; exact Nat.ne_of_gt (IsS90.lt (show IsS90 w _ g1326 t1345 from by exact IsS90.up HI1326.out)) : gb1360 ≠ g1326)); replace HI1326 := Aside0.mk (IsS90.below (by exact IsS90.up HI1326.out) hb); clear hb hbox hg; have hnb22 := NB1360_1346.out; have hnc22 := NB1346_1360.out; have hnb23 := NB1360_1326.out; have hnc23 := NB1326_1360.out; obtain ⟨_, _, _, _, _, _, _⟩ := cz7 BK1360; have hfz24_0 := blk_frozen BK1360.out; obtain ⟨Ao25, co25, eo25⟩ := Kd.R_slice HO1352.out; subst eo25; obtain ⟨Ao26, co26, eo26⟩ := Kd.S_slice HO1356.out; subst eo26; obtain ⟨Ao27, co27, eo27⟩ := Kd.R_slice HO1359.out; subst eo27) | ((with_reducible refine gate_callee (f := 51) rfl ?_); refine goesL_ (some 28) rfl rfl Try.func51 (by kernel_rfl) rfl #[.pointer (some ⟨g1326, 0, none⟩), .int .i64 1, .int .i64 2] rfl (by (try simp only [List.map_toArray, List.map_cons, List.map_nil]); first | done | rfl | (simp only [List.length_drop, List.length_take]; rfl)) ?_; (with_reducible refine (swarfkit_Feed_Often.calls g1326 t1345 1 2 t1361 t1362 w _ ?side1 ?side2 A6.out).mono ?_); (case side1 => exact IsS90.up HI1326.out); (case side2 => exact below_y HB.out); rintro e w28 ⟨rfl, hi, hb, hk⟩; refine ⟨_, rfl, ?_⟩; replace HO1329 := Aside0.mk (Kd.R_mono (Kd.R_keep (IsS90.apart (show IsS90 w _ g1326 t1345 from by exact IsS90.up HI1326.out) (by (with_reducible repeat (first | apply Kd.R_alloc | apply Kd.R_drewN | apply Kd.R_drew)); exact (Kd.R_mono (Kd.R_far (p := ⟨gb1360, 6, none⟩) (Kd.R_far (p := ⟨gb1360, 5, none⟩) (Kd.R_far (p := ⟨gb1360, 4, none⟩) (Kd.R_far (p := ⟨gb1360, 3, none⟩) (Kd.R_far (p := ⟨gb1360, 2, none⟩) (Kd.R_far (p := ⟨gb1360, 1, none⟩) (Kd.R_far (p := ⟨gb1360, 0, none⟩) (Kd.R_types HO1329.out BK1360.out (by decide)) (fun _ hk => hk.2) (.int .i64 t1347)) (fun _ hk => hk.2) (.int .i64 t1348)) (fun _ hk => hk.2) (.int .i64 t1349)) (fun _ hk => hk.2) (.slice Ao25 t1350.length co25)) (fun _ hk => hk.2) (.int .i64 t1353)) (fun _ hk => hk.2) (.slice Ao26 t1354.length co26)) (fun _ hk => hk.2) (.slice Ao27 t1357.length co27)) (fun _ h_ => h_.1))) (by decide)) hk (fun _ h => h.2)) (fun _ h => h.1)); replace HO1337 := Aside0.mk (Kd.R_mono (Kd.R_keep (IsS90.apart (show IsS90 w _ g1326 t1345 from by exact IsS90.up HI1326.out) (by (with_reducible repeat (first | apply Kd.R_alloc | apply Kd.R_drewN | apply Kd.R_drew)); exact (Kd.R_mono (Kd.R_far (p := ⟨gb1360, 6, none⟩) (Kd.R_far (p := ⟨gb1360, 5, none⟩) (Kd.R_far (p := ⟨gb1360, 4, none⟩) (Kd.R_far (p := ⟨gb1360, 3, none⟩) (Kd.R_far (p := ⟨gb1360, 2, none⟩) (Kd.R_far (p := ⟨gb1360, 1, none⟩) (Kd.R_far (p := ⟨gb1360, 0, none⟩) (Kd.R_types HO1337.out BK1360.out (by decide)) (fun _ hk => hk.2) (.int .i64 t1347)) (fun _ hk => hk.2) (.int .i64 t1348)) (fun _ hk => hk.2) (.int .i64 t1349)) (fun _ hk => hk.2) (.slice Ao25 t1350.length co25)) (fun _ hk => hk.2) (.int .i64 t1353)) (fun _ hk => hk.2) (.slice Ao26 t1354.length co26)) (fun _ hk => hk.2) (.slice Ao27 t1357.length co27)) (fun _ h_ => h_.1))) (by decide)) hk (fun _ h => h.2)) (fun _ h => h.1)); replace HO1341 := Aside0.mk (Kd.S_mono (Kd.S_keep (IsS90.apartS (show IsS90 w _ g1326 t1345 from by exact IsS90.up HI1326.out) (by (with_reducible repeat (first | apply Kd.S_alloc | apply Kd.S_drewN | apply Kd.S_drew)); exact (Kd.S_mono (Kd.S_far (p := ⟨gb1360, 6, none⟩) (Kd.S_far (p := ⟨gb1360, 5, none⟩) (Kd.S_far (p := ⟨gb1360, 4, none⟩) (Kd.S_far (p := ⟨gb1360, 3, none⟩) (Kd.S_far (p := ⟨gb1360, 2, none⟩) (Kd.S_far (p := ⟨gb1360, 1, none⟩) (Kd.S_far (p := ⟨gb1360, 0, none⟩) (Kd.S_types HO1341.out BK1360.out (by decide)) (fun _ hk => hk.2) (.int .i64 t1347)) (fun _ hk => hk.2) (.int .i64 t1348)) (fun _ hk => hk.2) (.int .i64 t1349)) (fun _ hk => hk.2) (.slice Ao25 t1350.length co25)) (fun _ hk => hk.2) (.int .i64 t1353)) (fun _ hk => hk.2) (.slice Ao26 t1354.length co26)) (fun _ hk => hk.2) (.slice Ao27 t1357.length co27)) (fun _ h_ => h_.1))) (by decide)) hk (fun _ h => h.2)) (fun _ h => h.1)); replace HO1344 := Aside0.mk (Kd.R_mono (Kd.R_keep (IsS90.apart (show IsS90 w _ g1326 t1345 from by exact IsS90.up HI1326.out) (by (with_reducible repeat (first | apply Kd.R_alloc | apply Kd.R_drewN | apply Kd.R_drew)); exact (Kd.R_mono (Kd.R_far (p := ⟨gb1360, 6, none⟩) (Kd.R_far (p := ⟨gb1360, 5, none⟩) (Kd.R_far (p := ⟨gb1360, 4, none⟩) (Kd.R_far (p := ⟨gb1360, 3, none⟩) (Kd.R_far (p := ⟨gb1360, 2, none⟩) (Kd.R_far (p := ⟨gb1360, 1, none⟩) (Kd.R_far (p := ⟨gb1360, 0, none⟩) (Kd.R_types HO1344.out BK1360.out (by decide)) (fun _ hk => hk.2) (.int .i64 t1347)) (fun _ hk => hk.2) (.int .i64 t1348)) (fun _ hk => hk.2) (.int .i64 t1349)) (fun _ hk => hk.2) (.slice Ao25 t1350.length co25)) (fun _ hk => hk.2) (.int .i64 t1353)) (fun _ hk => hk.2) (.slice Ao26 t1354.length co26)) (fun _ hk => hk.2) (.slice Ao27 t1357.length co27)) (fun _ h_ => h_.1))) (by decide)) hk (fun _ h => h.2)) (fun _ h => h.1)); replace BK1346 := Aside0.mk (KeepBut.blk hk (g' := gb1346) (o := .cells #[.int .i64 t1332, .int .i64 t1333, .int .i64 t1334, .slice Ao17 t1335.length co17, .int .i64 t1338, .slice Ao18 t1339.length co18, .slice Ao19 t1342.length co19] 26 (0, 0)) (blk_w BK1346.out) NB1346_1326.out (by simp)); replace HO1352 := Aside0.mk (Kd.R_mono (Kd.R_keep (IsS90.apart (show IsS90 w _ g1326 t1345 from by exact IsS90.up HI1326.out) (by (with_reducible repeat (first | apply Kd.R_alloc | apply Kd.R_drewN | apply Kd.R_drew)); exact (Kd.R_mono (Kd.R_far (p := ⟨gb1360, 6, none⟩) (Kd.R_far (p := ⟨gb1360, 5, none⟩) (Kd.R_far (p := ⟨gb1360, 4, none⟩) (Kd.R_far (p := ⟨gb1360, 3, none⟩) (Kd.R_far (p := ⟨gb1360, 2, none⟩) (Kd.R_far (p := ⟨gb1360, 1, none⟩) (Kd.R_far (p := ⟨gb1360, 0, none⟩) (Kd.R_types HO1352.out BK1360.out (by decide)) (fun _ hk => hk.2) (.int .i64 t1347)) (fun _ hk => hk.2) (.int .i64 t1348)) (fun _ hk => hk.2) (.int .i64 t1349)) (fun _ hk => hk.2) (.slice Ao25 t1350.length co25)) (fun _ hk => hk.2) (.int .i64 t1353)) (fun _ hk => hk.2) (.slice Ao26 t1354.length co26)) (fun _ hk => hk.2) (.slice Ao27 t1357.length co27)) (fun _ h_ => h_.1))) (by decide)) hk (fun _ h => h.2)) (fun _ h => h.1)); replace HO1356 := Aside0.mk (Kd.S_mono (Kd.S_keep (IsS90.apartS (show IsS90 w _ g1326 t1345 from by exact IsS90.up HI1326.out) (by (with_reducible repeat (first | apply Kd.S_alloc | apply Kd.S_drewN | apply Kd.S_drew)); exact (Kd.S_mono (Kd.S_far (p := ⟨gb1360, 6, none⟩) (Kd.S_far (p := ⟨gb1360, 5, none⟩) (Kd.S_far (p := ⟨gb1360, 4, none⟩) (Kd.S_far (p := ⟨gb1360, 3, none⟩) (Kd.S_far (p := ⟨gb1360, 2, none⟩) (Kd.S_far (p := ⟨gb1360, 1, none⟩) (Kd.S_far (p := ⟨gb1360, 0, none⟩) (Kd.S_types HO1356.out BK1360.out (by decide)) (fun _ hk => hk.2) (.int .i64 t1347)) (fun _ hk => hk.2) (.int .i64 t1348)) (fun _ hk => hk.2) (.int .i64 t1349)) (fun _ hk => hk.2) (.slice Ao25 t1350.length co25)) (fun _ hk => hk.2) (.int .i64 t1353)) (fun _ hk => hk.2) (.slice Ao26 t1354.length co26)) (fun _ hk => hk.2) (.slice Ao27 t1357.length co27)) (fun _ h_ => h_.1))) (by decide)) hk (fun _ h => h.2)) (fun _ h => h.1)); replace HO1359 := Aside0.mk (Kd.R_mono (Kd.R_keep (IsS90.apart (show IsS90 w _ g1326 t1345 from by exact IsS90.up HI1326.out) (by (with_reducible repeat (first | apply Kd.R_alloc | apply Kd.R_drewN | apply Kd.R_drew)); exact (Kd.R_mono (Kd.R_far (p := ⟨gb1360, 6, none⟩) (Kd.R_far (p := ⟨gb1360, 5, none⟩) (Kd.R_far (p := ⟨gb1360, 4, none⟩) (Kd.R_far (p := ⟨gb1360, 3, none⟩) (Kd.R_far (p := ⟨gb1360, 2, none⟩) (Kd.R_far (p := ⟨gb1360, 1, none⟩) (Kd.R_far (p := ⟨gb1360, 0, none⟩) (Kd.R_types HO1359.out BK1360.out (by decide)) (fun _ hk => hk.2) (.int .i64 t1347)) (fun _ hk => hk.2) (.int .i64 t1348)) (fun _ hk => hk.2) (.int .i64 t1349)) (fun _ hk => hk.2) (.slice Ao25 t1350.length co25)) (fun _ hk => hk.2) (.int .i64 t1353)) (fun _ hk => hk.2) (.slice Ao26 t1354.length co26)) (fun _ hk => hk.2) (.slice Ao27 t1357.length co27)) (fun _ h_ => h_.1))) (by decide)) hk (fun _ h => h.2)) (fun _ h => h.1)); replace BK1360 := Aside0.mk (KeepBut.blk hk (g' := gb1360) (o := .cells #[.int .i64 t1347, .int .i64 t1348, .int .i64 t1349, .slice Ao25 t1350.length co25, .int .i64 t1353, .slice Ao26 t1354.length co26, .slice Ao27 t1357.length co27] 26 (0, 0)) (by (with_reducible repeat (first | refine blk_drewN ?_ _ | refine blk_drew ?_ | refine blk_alloc ?_ _)); refine blk_put (cs := #[.int .i64 t1347, .int .i64 t1348, .int .i64 t1349, .slice Ao25 t1350.length co25, .int .i64 t1353, .slice Ao26 t1354.length co26, .slice none 0 0]) ?_ 6 _ rfl; (with_reducible repeat (first | refine blk_drewN ?_ _ | refine blk_drew ?_ | refine blk_alloc ?_ _)); refine blk_put (cs := #[.int .i64 t1347, .int .i64 t1348, .int .i64 t1349, .slice Ao25 t1350.length co25, .int .i64 t1353, .slice none 0 0, .slice none 0 0]) ?_ 5 _ rfl; (with_reducible repeat (first | refine blk_drewN ?_ _ | refine blk_drew ?_ | refine blk_alloc ?_ _)); refine blk_put (cs := #[.int .i64 t1347, .int .i64 t1348, .int .i64 t1349, .slice Ao25 t1350.length co25, .int .i64 0, .slice none 0 0, .slice none 0 0]) ?_ 4 _ rfl; (with_reducible repeat (first | refine blk_drewN ?_ _ | refine blk_drew ?_ | refine blk_alloc ?_ _)); refine blk_put (cs := #[.int .i64 t1347, .int .i64 t1348, .int .i64 t1349, .slice none 0 0, .int .i64 0, .slice none 0 0, .slice none 0 0]) ?_ 3 _ rfl; (with_reducible repeat (first | refine blk_drewN ?_ _ | refine blk_drew ?_ | refine blk_alloc ?_ _)); refine blk_put (cs := #[.int .i64 t1347, .int .i64 t1348, .int .i64 0, .slice none 0 0, .int .i64 0, .slice none 0 0, .slice none 0 0]) ?_ 2 _ rfl; (with_reducible repeat (first | refine blk_drewN ?_ _ | refine blk_drew ?_ | refine blk_alloc ?_ _)); refine blk_put (cs := #[.int .i64 t1347, .int .i64 0, .int .i64 0, .slice none 0 0, .int .i64 0, .slice none 0 0, .slice none 0 0]) ?_ 1 _ rfl; (with_reducible repeat (first | refine blk_drewN ?_ _ | refine blk_drew ?_ | refine blk_alloc ?_ _)); refine blk_put (cs := #[.int .i64 0, .int .i64 0, .int .i64 0, .slice none 0 0, .int .i64 0, .slice none 0 0, .slice none 0 0]) ?_ 0 _ rfl; (with_reducible repeat (first | refine blk_drewN ?_ _ | refine blk_drew ?_ | refine blk_alloc ?_ _)); exact BK1360.out) NB1360_1326.out (by simp)); replace HB := Aside0.mk (hb); replace HI1326 := Aside0.mk (hi); (try clear hb); (try clear hk); (try clear hi)))
 (try simp only [Act.put, put_x])
 go_cut [] (fun wc => ∃ (kq : Nat) (x1347003_6 : List (S85)) (x1361003_6 : List (S85)) (u1347003 : Value) (u1361003 : Value), Aside0 (swarflaw07_ShipHold.j0 kq t1332 t1333 t1334 x1347003_6 t1338 t1339 t1342 t1347 t1348 t1349 x1361003_6 t1353 t1354 t1357 = some r) ∧ Aside0 (kq ≤ k) ∧ Aside0 (Kd.R k85 85 wc w.heap.size (fun k_ => some k_ ≠ (u1361003 : Value).ownBlock) u1347003 x1347003_6) ∧ Aside0 (Kd.S k59 59 wc w.heap.size (fun k_ => some k_ ≠ ((.slice Ao26 t1354.length co26) : Value).ownBlock) (.slice Ao18 t1339.length co18) t1339) ∧ Aside0 (Kd.R k79 79 wc w.heap.size (fun k_ => some k_ ≠ ((.slice Ao27 t1357.length co27) : Value).ownBlock) (.slice Ao19 t1342.length co19) t1342) ∧ Aside0 (Kd.R k85 85 wc w.heap.size (fun k_ => some k_ ≠ (u1347003 : Value).ownBlock) u1361003 x1361003_6) ∧ Aside0 (Kd.S k59 59 wc w.heap.size (fun k_ => some k_ ≠ ((.slice Ao18 t1339.length co18) : Value).ownBlock) (.slice Ao26 t1354.length co26) t1354) ∧ Aside0 (Kd.R k79 79 wc w.heap.size (fun k_ => some k_ ≠ ((.slice Ao19 t1342.length co19) : Value).ownBlock) (.slice Ao27 t1357.length co27) t1357) ∧ Aside0 (wc.heap[gb1346]? = some (.cells #[.int .i64 t1332, .int .i64 t1333, .int .i64 t1334, u1347003, .int .i64 t1338, (.slice Ao18 t1339.length co18), (.slice Ao19 t1342.length co19)] 26 (0, 0))) ∧ Aside0 (wc.heap[gb1360]? = some (.cells #[.int .i64 t1347, .int .i64 t1348, .int .i64 t1349, u1361003, .int .i64 t1353, (.slice Ao26 t1354.length co26), (.slice Ao27 t1357.length co27)] 26 (0, 0))) ∧ Aside0 (Below w.heap.size w wc))
 case first =>
  have H := HC7.out
  clear HC7
  by_cases c29 : t1361 = true
  ·
   subst c29
   have H1 : ((swarfkit_Feed_Below.f t1362 40).bind fun bt1363 => ((swarfkit_Feed_Below.f bt1363.2 1500).bind fun bt1365 => ((swarfkit_Feed_Below.f bt1365.2 1500).bind fun bt1367 => (if t1350.length < 5864062014805 then (swarflaw07_ShipHold.j0 k t1332 t1333 t1334 t1335 t1338 t1339 t1342 t1347 t1348 t1349 (t1350 ++ [(⟨bt1363.1, bt1365.1, bt1367.1⟩ : S85)]) t1353 t1354 t1357) else (none))))) = some r := by rw [if_pos rfl] at H; exact H
   clear H
   have H := H1
   clear H1
   replace H := Option.bind_eq_some_iff.mp H
   obtain ⟨⟨t1363, t1364⟩, A300, H⟩ := H
   try dsimp only at H
   have A30 := Aside0.mk A300
   clear A300
   replace H := Option.bind_eq_some_iff.mp H
   obtain ⟨⟨t1365, t1366⟩, A310, H⟩ := H
   try dsimp only at H
   have A31 := Aside0.mk A310
   clear A310
   replace H := Option.bind_eq_some_iff.mp H
   obtain ⟨⟨t1367, t1368⟩, A320, H⟩ := H
   try dsimp only at H
   have A32 := Aside0.mk A320
   clear A320
   by_cases c33 : t1350.length < 5864062014805
   ·
    rw [if_pos c33] at H
    have LMc33 := Aside0.mk c33
    clear c33
    obtain ⟨y1369, hy1369⟩ : ∃ y_ : List (S85), y_ = (t1350 ++ [(⟨t1363, t1365, t1367⟩ : S85)]) := ⟨_, rfl⟩
    replace H : (swarflaw07_ShipHold.j0 k t1332 t1333 t1334 t1335 t1338 t1339 t1342 t1347 t1348 t1349 y1369 t1353 t1354 t1357) = some r := by first | (rw [hy1369]; with_reducible exact H) | (have H2_ := (Option.bind_some _ _).symm.trans H; rw [hy1369]; with_reducible exact H2_) | (have H2_ := (Option.bind_some _ _).symm.trans H; with_reducible exact H2_) | with_reducible exact H | (rw [hy1369]; exact H) | exact H
    have Ny1369 := Aside0.mk hy1369
    clear hy1369
    have H' := Aside0.mk H
    clear H
    try go_wp2
    replace HO1329 := Aside0.mk (Kd.R_drew HO1329.out)
    replace HO1337 := Aside0.mk (Kd.R_drew HO1337.out)
    replace HO1341 := Aside0.mk (Kd.S_drew HO1341.out)
    replace HO1344 := Aside0.mk (Kd.R_drew HO1344.out)
    replace HO1352 := Aside0.mk (Kd.R_drew HO1352.out)
    replace HO1356 := Aside0.mk (Kd.S_drew HO1356.out)
    replace HO1359 := Aside0.mk (Kd.R_drew HO1359.out)
    replace BK1346 := Aside0.mk (blk_drew BK1346.out)
    replace BK1360 := Aside0.mk (blk_drew BK1360.out)
    replace HI1326 := Aside0.mk (IsS90.drew HI1326.out)
    replace HB := Aside0.mk (below_drew1 HB.out)
    refine start_ (n := 13) (S := fun w' => w'.cell? ⟨gb1360, 0, none⟩ = some (.int .i64 t1347) ∧ w'.cell? ⟨gb1360, 1, none⟩ = some (.int .i64 t1348) ∧ w'.cell? ⟨gb1360, 2, none⟩ = some (.int .i64 t1349) ∧ w'.cell? ⟨gb1360, 3, none⟩ = some (.slice Ao25 t1350.length co25) ∧ w'.cell? ⟨gb1360, 4, none⟩ = some (.int .i64 t1353) ∧ w'.cell? ⟨gb1360, 5, none⟩ = some (.slice Ao26 t1354.length co26) ∧ w'.cell? ⟨gb1360, 6, none⟩ = some (.slice Ao27 t1357.length co27)) (ds := [12]) #[false, false, false, false, false, false, false, false, false, false, false, false, false] (by kernel_rfl) rfl rfl ⟨(blk_cell BK1360.out 0).trans rfl, (blk_cell BK1360.out 1).trans rfl, (blk_cell BK1360.out 2).trans rfl, (blk_cell BK1360.out 3).trans rfl, (blk_cell BK1360.out 4).trans rfl, (blk_cell BK1360.out 5).trans rfl, (blk_cell BK1360.out 6).trans rfl⟩ (fun hHeld => ?_); refine with_tabW swarflaw07_ShipHold.tab5 swarflaw07_ShipHold.bits5 (fun HT_ HW_ => ?_)
    generalize w28.drew = w34 at HO1329 HO1337 HO1341 HO1344 HO1352 HO1356 HO1359 BK1346 BK1360 HI1326 HB hHeld ⊢
    refine pure_ (i := 0) (N := some 29) (v := ?_) (a' := ?_) (bz 13 1) rfl rfl (any_of HT_.out (by kernel_rfl)) (fun _ _ _ h => h) (Or.inl ⟨by rfl, ?_⟩) ?_ ?_
    rotate_left
    ·
     intro w'
     go_simp
     with_reducible rfl
    rotate_left
    ·
     simp only [Act.put, put_x, i64_w, i32_w]
     rfl
    refine pure_ (i := 2) (N := some 31) (v := ?_) (a' := ?_) (bz 13 5) rfl rfl (any_of HT_.out (by kernel_rfl)) (fun _ _ _ h => h) (Or.inl ⟨by rfl, ?_⟩) ?_ ?_
    rotate_left
    ·
     intro w'
     go_simp
     with_reducible rfl
    rotate_left
    ·
     simp only [Act.put, put_x, i64_w, i32_w]
     rfl
    refine pure_ (i := 4) (N := some 33) (v := ?_) (a' := ?_) (bz 13 21) rfl rfl (any_of HT_.out (by kernel_rfl)) (fun _ _ _ h => h) (Or.inl ⟨by rfl, ?_⟩) ?_ ?_
    rotate_left
    ·
     intro w'
     go_simp
     with_reducible rfl
    rotate_left
    ·
     simp only [Act.put, put_x, i64_w, i32_w]
     rfl
    refine pure_ (i := 6) (N := some 35) (v := ?_) (a' := ?_) (bz 13 85) rfl rfl (any_of HT_.out (by kernel_rfl)) (fun _ _ _ h => h) (Or.inl ⟨by rfl, ?_⟩) ?_ ?_
    rotate_left
    ·
     intro w'
     go_simp
     with_reducible rfl
    rotate_left
    ·
     simp only [Act.put, put_x, i64_w, i32_w]
     rfl
    refine take_ (i := 1) (N := some 30) (v := ?_) (a' := ?_) (bz 13 87) rfl rfl (take_ofW HT_.out HW_.out (by kernel_rfl)) (fun _ _ _ h => h) (Or.inl ⟨by rfl, ?_⟩) hHeld ?_ ?_
    rotate_left
    ·
     rintro w' ⟨s0, s1, s2, s3, s4, s5, s6⟩
     go_simp
     with_reducible rfl
    rotate_left
    ·
     simp only [Act.put, put_x, i64_w, i32_w]
     rfl
    refine one_ (i := 3) (N := some 32) (bz 13 95) rfl rfl (one_of HT_.out (by kernel_rfl)) (by decide) (fun K hK => ?_)
    refine goes_ Try.func33 (by kernel_rfl) rfl #[.pointer (some ⟨g1326, 0, none⟩), .int .i64 40] (by rfl) rfl rfl (by (try simp only [List.map_toArray, List.map_cons, List.map_nil]); first | done | rfl | (simp only [List.length_drop, List.length_take]; rfl)) ?_
    with_reducible refine (swarfkit_Feed_Below.calls g1326 t1362 40 t1363 t1364 w _ ?side1 ?side2 A30.out).mono ?_
    (case side1 => exact IsS90.up HI1326.out)
    (case side2 => exact below_y HB.out)
    rintro e w35 ⟨rfl, hi, hb, hk⟩
    refine ⟨_, rfl, ?_⟩
    replace HO1329 := Aside0.mk (Kd.R_mono (Kd.R_keep (IsS90.apart (show IsS90 w _ g1326 t1362 from by exact IsS90.up HI1326.out) (Kd.R_x HO1329.out) (by decide)) hk (fun _ h => h.2)) (fun _ h => h.1))
    replace HO1337 := Aside0.mk (Kd.R_mono (Kd.R_keep (IsS90.apart (show IsS90 w _ g1326 t1362 from by exact IsS90.up HI1326.out) (Kd.R_x HO1337.out) (by decide)) hk (fun _ h => h.2)) (fun _ h => h.1))
    replace HO1341 := Aside0.mk (Kd.S_mono (Kd.S_keep (IsS90.apartS (show IsS90 w _ g1326 t1362 from by exact IsS90.up HI1326.out) (Kd.S_x HO1341.out) (by decide)) hk (fun _ h => h.2)) (fun _ h => h.1))
    replace HO1344 := Aside0.mk (Kd.R_mono (Kd.R_keep (IsS90.apart (show IsS90 w _ g1326 t1362 from by exact IsS90.up HI1326.out) (Kd.R_x HO1344.out) (by decide)) hk (fun _ h => h.2)) (fun _ h => h.1))
    replace BK1346 := Aside0.mk (KeepBut.blk hk (blk_x BK1346.out) NB1346_1326.out (by simp))
    replace HO1352 := Aside0.mk (Kd.R_mono (Kd.R_keep (IsS90.apart (show IsS90 w _ g1326 t1362 from by exact IsS90.up HI1326.out) (Kd.R_x HO1352.out) (by decide)) hk (fun _ h => h.2)) (fun _ h => h.1))
    replace HO1356 := Aside0.mk (Kd.S_mono (Kd.S_keep (IsS90.apartS (show IsS90 w _ g1326 t1362 from by exact IsS90.up HI1326.out) (Kd.S_x HO1356.out) (by decide)) hk (fun _ h => h.2)) (fun _ h => h.1))
    replace HO1359 := Aside0.mk (Kd.R_mono (Kd.R_keep (IsS90.apart (show IsS90 w _ g1326 t1362 from by exact IsS90.up HI1326.out) (Kd.R_x HO1359.out) (by decide)) hk (fun _ h => h.2)) (fun _ h => h.1))
    replace BK1360 := Aside0.mk (KeepBut.blk hk (blk_x BK1360.out) NB1360_1326.out (by simp))
    replace HB := Aside0.mk (hb)
    replace HI1326 := Aside0.mk (hi)
    (try clear hb)
    (try clear hb2)
    (try clear hk)
    (try clear hi)
    refine hK.out _ _ ⟨(blk_cell BK1360.out 0).trans rfl, (blk_cell BK1360.out 1).trans rfl, (blk_cell BK1360.out 2).trans rfl, (blk_cell BK1360.out 3).trans rfl, (blk_cell BK1360.out 4).trans rfl, (blk_cell BK1360.out 5).trans rfl, (blk_cell BK1360.out 6).trans rfl⟩ (fun hHeld => ?_)
    clear hK K
    refine norm_ (a' := ?_) ?_ ?_
    rotate_left
    ·
     show Act.put _ (some 32) _ = _
     simp only [Act.put, put_x, i64_w, i32_w]
     rfl
    refine one_ (i := 5) (N := some 34) (bz 13 127) rfl rfl (one_of HT_.out (by kernel_rfl)) (by decide) (fun K hK => ?_)
    refine goes_ Try.func33 (by kernel_rfl) rfl #[.pointer (some ⟨g1326, 0, none⟩), .int .i64 1500] (by rfl) rfl rfl (by (try simp only [List.map_toArray, List.map_cons, List.map_nil]); first | done | rfl | (simp only [List.length_drop, List.length_take]; rfl)) ?_
    with_reducible refine (swarfkit_Feed_Below.calls g1326 t1364 1500 t1365 t1366 w _ ?side1 ?side2 A31.out).mono ?_
    (case side1 => exact IsS90.up HI1326.out)
    (case side2 => exact below_y HB.out)
    rintro e w36 ⟨rfl, hi, hb, hk⟩
    refine ⟨_, rfl, ?_⟩
    replace HO1329 := Aside0.mk (Kd.R_mono (Kd.R_keep (IsS90.apart (show IsS90 w _ g1326 t1364 from by exact IsS90.up HI1326.out) (Kd.R_x HO1329.out) (by decide)) hk (fun _ h => h.2)) (fun _ h => h.1))
    replace HO1337 := Aside0.mk (Kd.R_mono (Kd.R_keep (IsS90.apart (show IsS90 w _ g1326 t1364 from by exact IsS90.up HI1326.out) (Kd.R_x HO1337.out) (by decide)) hk (fun _ h => h.2)) (fun _ h => h.1))
    replace HO1341 := Aside0.mk (Kd.S_mono (Kd.S_keep (IsS90.apartS (show IsS90 w _ g1326 t1364 from by exact IsS90.up HI1326.out) (Kd.S_x HO1341.out) (by decide)) hk (fun _ h => h.2)) (fun _ h => h.1))
    replace HO1344 := Aside0.mk (Kd.R_mono (Kd.R_keep (IsS90.apart (show IsS90 w _ g1326 t1364 from by exact IsS90.up HI1326.out) (Kd.R_x HO1344.out) (by decide)) hk (fun _ h => h.2)) (fun _ h => h.1))
    replace BK1346 := Aside0.mk (KeepBut.blk hk (blk_x BK1346.out) NB1346_1326.out (by simp))
    replace HO1352 := Aside0.mk (Kd.R_mono (Kd.R_keep (IsS90.apart (show IsS90 w _ g1326 t1364 from by exact IsS90.up HI1326.out) (Kd.R_x HO1352.out) (by decide)) hk (fun _ h => h.2)) (fun _ h => h.1))
    replace HO1356 := Aside0.mk (Kd.S_mono (Kd.S_keep (IsS90.apartS (show IsS90 w _ g1326 t1364 from by exact IsS90.up HI1326.out) (Kd.S_x HO1356.out) (by decide)) hk (fun _ h => h.2)) (fun _ h => h.1))
    replace HO1359 := Aside0.mk (Kd.R_mono (Kd.R_keep (IsS90.apart (show IsS90 w _ g1326 t1364 from by exact IsS90.up HI1326.out) (Kd.R_x HO1359.out) (by decide)) hk (fun _ h => h.2)) (fun _ h => h.1))
    replace BK1360 := Aside0.mk (KeepBut.blk hk (blk_x BK1360.out) NB1360_1326.out (by simp))
    replace HB := Aside0.mk (hb)
    replace HI1326 := Aside0.mk (hi)
    (try clear hb)
    (try clear hb2)
    (try clear hk)
    (try clear hi)
    refine hK.out _ _ ⟨(blk_cell BK1360.out 0).trans rfl, (blk_cell BK1360.out 1).trans rfl, (blk_cell BK1360.out 2).trans rfl, (blk_cell BK1360.out 3).trans rfl, (blk_cell BK1360.out 4).trans rfl, (blk_cell BK1360.out 5).trans rfl, (blk_cell BK1360.out 6).trans rfl⟩ (fun hHeld => ?_)
    clear hK K
    refine norm_ (a' := ?_) ?_ ?_
    rotate_left
    ·
     show Act.put _ (some 34) _ = _
     simp only [Act.put, put_x, i64_w, i32_w]
     rfl
    refine one_ (i := 7) (N := some 36) (bz 13 255) rfl rfl (one_of HT_.out (by kernel_rfl)) (by decide) (fun K hK => ?_)
    refine goes_ Try.func33 (by kernel_rfl) rfl #[.pointer (some ⟨g1326, 0, none⟩), .int .i64 1500] (by rfl) rfl rfl (by (try simp only [List.map_toArray, List.map_cons, List.map_nil]); first | done | rfl | (simp only [List.length_drop, List.length_take]; rfl)) ?_
    with_reducible refine (swarfkit_Feed_Below.calls g1326 t1366 1500 t1367 t1368 w _ ?side1 ?side2 A32.out).mono ?_
    (case side1 => exact IsS90.up HI1326.out)
    (case side2 => exact below_y HB.out)
    rintro e w37 ⟨rfl, hi, hb, hk⟩
    refine ⟨_, rfl, ?_⟩
    replace HO1329 := Aside0.mk (Kd.R_mono (Kd.R_keep (IsS90.apart (show IsS90 w _ g1326 t1366 from by exact IsS90.up HI1326.out) (Kd.R_x HO1329.out) (by decide)) hk (fun _ h => h.2)) (fun _ h => h.1))
    replace HO1337 := Aside0.mk (Kd.R_mono (Kd.R_keep (IsS90.apart (show IsS90 w _ g1326 t1366 from by exact IsS90.up HI1326.out) (Kd.R_x HO1337.out) (by decide)) hk (fun _ h => h.2)) (fun _ h => h.1))
    replace HO1341 := Aside0.mk (Kd.S_mono (Kd.S_keep (IsS90.apartS (show IsS90 w _ g1326 t1366 from by exact IsS90.up HI1326.out) (Kd.S_x HO1341.out) (by decide)) hk (fun _ h => h.2)) (fun _ h => h.1))
    replace HO1344 := Aside0.mk (Kd.R_mono (Kd.R_keep (IsS90.apart (show IsS90 w _ g1326 t1366 from by exact IsS90.up HI1326.out) (Kd.R_x HO1344.out) (by decide)) hk (fun _ h => h.2)) (fun _ h => h.1))
    replace BK1346 := Aside0.mk (KeepBut.blk hk (blk_x BK1346.out) NB1346_1326.out (by simp))
    replace HO1352 := Aside0.mk (Kd.R_mono (Kd.R_keep (IsS90.apart (show IsS90 w _ g1326 t1366 from by exact IsS90.up HI1326.out) (Kd.R_x HO1352.out) (by decide)) hk (fun _ h => h.2)) (fun _ h => h.1))
    replace HO1356 := Aside0.mk (Kd.S_mono (Kd.S_keep (IsS90.apartS (show IsS90 w _ g1326 t1366 from by exact IsS90.up HI1326.out) (Kd.S_x HO1356.out) (by decide)) hk (fun _ h => h.2)) (fun _ h => h.1))
    replace HO1359 := Aside0.mk (Kd.R_mono (Kd.R_keep (IsS90.apart (show IsS90 w _ g1326 t1366 from by exact IsS90.up HI1326.out) (Kd.R_x HO1359.out) (by decide)) hk (fun _ h => h.2)) (fun _ h => h.1))
    replace BK1360 := Aside0.mk (KeepBut.blk hk (blk_x BK1360.out) NB1360_1326.out (by simp))
    replace HB := Aside0.mk (hb)
    replace HI1326 := Aside0.mk (hi)
    (try clear hb)
    (try clear hb2)
    (try clear hk)
    (try clear hi)
    refine hK.out _ _ ⟨(blk_cell BK1360.out 0).trans rfl, (blk_cell BK1360.out 1).trans rfl, (blk_cell BK1360.out 2).trans rfl, (blk_cell BK1360.out 3).trans rfl, (blk_cell BK1360.out 4).trans rfl, (blk_cell BK1360.out 5).trans rfl, (blk_cell BK1360.out 6).trans rfl⟩ (fun hHeld => ?_)
    clear hK K
    refine norm_ (a' := ?_) ?_ ?_
    rotate_left
    ·
     show Act.put _ (some 36) _ = _
     simp only [Act.put, put_x, i64_w, i32_w]
     rfl
    refine pure_ (i := 8) (N := some 37) (v := ?_) (a' := ?_) (bz 13 511) rfl rfl (any_of HT_.out (by kernel_rfl)) (fun _ _ _ h => h) (Or.inl ⟨by rfl, ?_⟩) ?_ ?_
    rotate_left
    ·
     intro w'
     go_simp
     with_reducible rfl
    rotate_left
    ·
     simp only [Act.put, put_x, i64_w, i32_w]
     rfl
    refine one_ (i := 9) (N := some 38) (bz 13 1023) rfl rfl (one_of HT_.out (by kernel_rfl)) (by decide) (fun K hK => ?_)
    refine value_ (w1 := ?_) (v := ?_) (by rfl) rfl ?_ ?_
    rotate_left 2
    ·
     go_simp
     constructor
     ·
      rfl
     ·
      rfl
    refine hK.out _ _ ⟨(blk_cell (blk_alloc BK1360.out _) 0).trans rfl, (blk_cell (blk_alloc BK1360.out _) 1).trans rfl, (blk_cell (blk_alloc BK1360.out _) 2).trans rfl, (blk_cell (blk_alloc BK1360.out _) 3).trans rfl, (blk_cell (blk_alloc BK1360.out _) 4).trans rfl, (blk_cell (blk_alloc BK1360.out _) 5).trans rfl, (blk_cell (blk_alloc BK1360.out _) 6).trans rfl⟩ (fun hHeld => ?_)
    clear hK K
    refine norm_ (a' := ?_) ?_ ?_
    rotate_left
    ·
     show Act.put _ (some 38) _ = _
     simp only [Act.put, put_x, i64_w, i32_w]
     rfl
    refine one_ (i := 10) (N := some 39) (bz 13 2047) rfl rfl (one_of HT_.out (by kernel_rfl)) (by decide) (fun K hK => ?_)
    refine Kd.R_append_step k85 (w0 := w) w.heap.size (by rfl) (.tmp 30) (.tmp 38) 22 85 (.agg #[(.int .i64 0), (.int .i64 0), (.int .i64 0)]) 24 rfl Try.underlying22 info85 rfl (by decide) (by omega) (.slice Ao25 t1350.length co25) t1350 (⟨t1363, t1365, t1367⟩ : S85) [.int .i64 t1363, .int .i64 t1365, .int .i64 t1367] (fun k_ => some k_ ≠ (.slice Ao17 t1335.length co17 : Value).ownBlock) (fun _ => False) rfl rfl ?aP (fun _ hk => hk.elim) ?aF ?aO ?aB ?aS ?aL ?_
    (case aP => exact k85_mkM _ _ _ (⟨t1363, t1365, t1367⟩ : S85))
    (case aB => exact (by exact below_y HB.out))
    (case aF => exact (fun k_ hk => Kd.fresh' (Kd.R_lt (Kd.R_x HO1337.out)) k_ hk))
    (case aO => exact (by (with_reducible repeat (first | apply Kd.R_alloc | apply Kd.R_drewN | apply Kd.R_drew)); exact Kd.R_mono HO1352.out (fun _ hk => hk.2)))
    (case aS => exact (below_size (by exact below_y HB.out)))
    (case aL => have := LMc33.out; omega)
    intro v1370 w38 ho hb hg hat
    rw [← Ny1369.out] at ho
    replace HI1326 := Aside0.mk (IsS90.grown (by exact IsS90.up HI1326.out) hg (IsS90.own_ne HI1326.out HO1352.out (by decide)))
    replace HO1329 := Aside0.mk (Kd.R_over' (Kd.R_x HO1329.out) (Kd.R_typed (Kd.R_x HO1352.out)) (by decide) hg)
    replace HO1337 := Aside0.mk (Kd.R_after (ok := (fun _ => True)) (Kd.R_x HO1337.out) hg hat)
    replace HO1341 := Aside0.mk (Kd.S_over' (Kd.S_x HO1341.out) (Kd.R_typed (Kd.R_x HO1352.out)) (by decide) hg)
    replace HO1344 := Aside0.mk (Kd.R_over' (Kd.R_x HO1344.out) (Kd.R_typed (Kd.R_x HO1352.out)) (by decide) hg)
    replace BK1346 := Aside0.mk (blk_grown (blk_x BK1346.out) hg (Kd.R_ne HO1352.out BK1346.out (by decide)))
    replace HO1356 := Aside0.mk (Kd.S_over' (Kd.S_x HO1356.out) (Kd.R_typed (Kd.R_x HO1352.out)) (by decide) hg)
    replace HO1359 := Aside0.mk (Kd.R_over' (Kd.R_x HO1359.out) (Kd.R_typed (Kd.R_x HO1352.out)) (by decide) hg)
    replace BK1360 := Aside0.mk (blk_grown (blk_x BK1360.out) hg (Kd.R_ne HO1352.out BK1360.out (by decide)))
    replace HB := Aside0.mk (hb)
    have HO1371 := Aside0.mk (ho)
    clear HO1352 ho hb hg hat
    obtain ⟨Ao39, co39, eo39⟩ := Kd.R_slice HO1371.out
    (first | subst eo39 | (injection eo39 with f1_ f2_ f3_; have f4_ := f1_.symm; have f5_ := f3_.symm; clear f1_ f2_ f3_; subst f4_; subst f5_))
    refine hK.out _ _ ⟨(blk_cell BK1360.out 0).trans rfl, (blk_cell BK1360.out 1).trans rfl, (blk_cell BK1360.out 2).trans rfl, (blk_cell BK1360.out 3).trans rfl, (blk_cell BK1360.out 4).trans rfl, (blk_cell BK1360.out 5).trans rfl, (blk_cell BK1360.out 6).trans rfl⟩ (fun hHeld => ?_)
    clear hK K
    refine norm_ (a' := ?_) ?_ ?_
    rotate_left
    ·
     show Act.put _ (some 39) _ = _
     simp only [Act.put, put_x, i64_w, i32_w]
     rfl
    refine pure_ (i := 11) (N := some 40) (v := ?_) (a' := ?_) (bz 13 4095) rfl rfl (any_of HT_.out (by kernel_rfl)) (fun _ _ _ h => h) (Or.inl ⟨by rfl, ?_⟩) ?_ ?_
    rotate_left
    ·
     intro w'
     go_simp
     with_reducible rfl
    rotate_left
    ·
     simp only [Act.put, put_x, i64_w, i32_w]
     rfl
    refine last_ (i := 12) (N := none) (bz 13 8191) rfl rfl (one_of HT_.out (by kernel_rfl)) (by decide) (fun K hK => ?_)
    have hs40 : w38.cell? ⟨gb1360, 3, none⟩ = some (.slice Ao25 t1350.length co25) := (blk_cell BK1360.out 3).trans rfl
    have hfs40 := blk_frozen BK1360.out 3
    have hns40_0 := NB1346_1360.out
    have hms40_0 := NB1360_1346.out
    refine skip_ (w1 := ?_) (by rfl) rfl ?_ ?_
    rotate_left
    ·
     go_simp
     rfl
    refine hK.out _ _ ?_
    clear hK K
    refine done_ (done_of HT_.out (by kernel_rfl)) ?_
    try go_wp2
    go_meet
    case rel => exact ⟨_, (t1335), (y1369), (.slice Ao17 t1335.length co17), (.slice Ao39 y1369.length co39), H', ⟨by first | omega | exact Nat.le_refl _⟩, ⟨by (with_reducible repeat (first | apply Kd.R_alloc | apply Kd.R_drewN | apply Kd.R_drew)); exact Kd.R_mono (Kd.R_far (p := ⟨gb1360, 3, none⟩) (Kd.R_types HO1337.out BK1360.out (by decide)) (fun _ hk => hk.2) (.slice Ao39 y1369.length co39)) (fun _ hk => hk.1.2)⟩, ⟨by (with_reducible repeat (first | apply Kd.S_alloc | apply Kd.S_drewN | apply Kd.S_drew)); exact Kd.S_mono (Kd.S_far (p := ⟨gb1360, 3, none⟩) (Kd.S_types HO1341.out BK1360.out (by decide)) (fun _ hk => hk.2) (.slice Ao39 y1369.length co39)) (fun _ hk => hk.1.2)⟩, ⟨by (with_reducible repeat (first | apply Kd.R_alloc | apply Kd.R_drewN | apply Kd.R_drew)); exact Kd.R_mono (Kd.R_far (p := ⟨gb1360, 3, none⟩) (Kd.R_types HO1344.out BK1360.out (by decide)) (fun _ hk => hk.2) (.slice Ao39 y1369.length co39)) (fun _ hk => hk.1.2)⟩, ⟨by (with_reducible repeat (first | apply Kd.R_alloc | apply Kd.R_drewN | apply Kd.R_drew)); exact Kd.R_mono (Kd.R_far (p := ⟨gb1360, 3, none⟩) (Kd.R_types HO1371.out BK1360.out (by decide)) (fun _ hk => hk.2) (.slice Ao39 y1369.length co39)) (fun _ hk => hk.1)⟩, ⟨by (with_reducible repeat (first | apply Kd.S_alloc | apply Kd.S_drewN | apply Kd.S_drew)); exact Kd.S_mono (Kd.S_far (p := ⟨gb1360, 3, none⟩) (Kd.S_types HO1356.out BK1360.out (by decide)) (fun _ hk => hk.2) (.slice Ao39 y1369.length co39)) (fun _ hk => hk.1.2)⟩, ⟨by (with_reducible repeat (first | apply Kd.R_alloc | apply Kd.R_drewN | apply Kd.R_drew)); exact Kd.R_mono (Kd.R_far (p := ⟨gb1360, 3, none⟩) (Kd.R_types HO1359.out BK1360.out (by decide)) (fun _ hk => hk.2) (.slice Ao39 y1369.length co39)) (fun _ hk => hk.1.2)⟩, ⟨blk_w BK1346.out⟩, ⟨by (with_reducible repeat (first | refine blk_drewN ?_ _ | refine blk_drew ?_ | refine blk_alloc ?_ _)); refine blk_put (cs := #[.int .i64 t1347, .int .i64 t1348, .int .i64 t1349, .slice Ao25 t1350.length co25, .int .i64 t1353, .slice Ao26 t1354.length co26, .slice Ao27 t1357.length co27]) ?_ 3 _ rfl; (with_reducible repeat (first | refine blk_drewN ?_ _ | refine blk_drew ?_ | refine blk_alloc ?_ _)); exact BK1360.out⟩, ⟨by exact below_y HB.out⟩⟩
   ·
    rw [if_neg c33] at H
    exact absurd H (by simp)
  ·
   replace c29 := Bool.eq_false_iff.mpr c29
   subst c29
   have H1 : (if 0 < (t1350.length : Int) then ((swarfkit_Feed_Below.f t1362 20).bind fun bt1373 => (swarflaw07_ShipHold.j0 k t1332 t1333 t1334 t1335 t1338 t1339 t1342 t1347 t1348 t1349 (t1350.set (0 : Int).toNat (⟨wrap64 (((rd_T85 t1350 0).f0) + bt1373.1), (rd_T85 t1350 0).f1, (rd_T85 t1350 0).f2⟩ : S85)) t1353 t1354 t1357)) else (none)) = some r := by rw [if_neg (show ¬ (false = true) by decide)] at H; exact H
   clear H
   have H := H1
   clear H1
   by_cases c41 : 0 < (t1350.length : Int)
   ·
    rw [if_pos c41] at H
    have c41b0 : decide (0 < (t1350.length : Int)) = true := decide_eq_true c41
    have c41b1 : decide (0 < t1350.length) = true := decide_eq_true (by omega)
    clear c41
    (first | rw [c41b0] | (simp only [i64_w, i32_w]; rw [c41b0]) | skip)
    replace H := Option.bind_eq_some_iff.mp H
    obtain ⟨⟨t1373, t1374⟩, A420, H⟩ := H
    try dsimp only at H
    have A42 := Aside0.mk A420
    clear A420
    obtain ⟨y1375, hy1375⟩ : ∃ y_ : List (S85), y_ = (t1350.set (0 : Int).toNat (⟨wrap64 (((rd_T85 t1350 0).f0) + t1373), (rd_T85 t1350 0).f1, (rd_T85 t1350 0).f2⟩ : S85)) := ⟨_, rfl⟩
    replace H : (swarflaw07_ShipHold.j0 k t1332 t1333 t1334 t1335 t1338 t1339 t1342 t1347 t1348 t1349 y1375 t1353 t1354 t1357) = some r := by first | (rw [hy1375]; with_reducible exact H) | (have H2_ := (Option.bind_some _ _).symm.trans H; rw [hy1375]; with_reducible exact H2_) | (have H2_ := (Option.bind_some _ _).symm.trans H; with_reducible exact H2_) | with_reducible exact H | (rw [hy1375]; exact H) | exact H
    have Ny1375 := Aside0.mk hy1375
    clear hy1375
    have H' := Aside0.mk H
    clear H
    try go_wp2
    replace HO1329 := Aside0.mk (Kd.R_drew HO1329.out)
    replace HO1337 := Aside0.mk (Kd.R_drew HO1337.out)
    replace HO1341 := Aside0.mk (Kd.S_drew HO1341.out)
    replace HO1344 := Aside0.mk (Kd.R_drew HO1344.out)
    replace HO1352 := Aside0.mk (Kd.R_drew HO1352.out)
    replace HO1356 := Aside0.mk (Kd.S_drew HO1356.out)
    replace HO1359 := Aside0.mk (Kd.R_drew HO1359.out)
    replace BK1346 := Aside0.mk (blk_drew BK1346.out)
    replace BK1360 := Aside0.mk (blk_drew BK1360.out)
    replace HI1326 := Aside0.mk (IsS90.drew HI1326.out)
    replace HB := Aside0.mk (below_drew1 HB.out)
    have p1372 : 0 ≤ (0 : Int) := (by omega)
    have q1372 : 0 < (t1350.length : Int) := of_x
    obtain ⟨ad1372, e1372, hx1372_0, hx1372_1, hx1372_2⟩ := at_T85 (Kd.R_reads' HO1352.out).2.2 0 p1372 q1372
    cases e1372
    have qi1372 : (0 < t1350.length) = True := eq_true (by omega)
    (try rw [show ((0 : Int)).toNat = 0 from rfl] at hx1372_0)
    (try rw [show 0 * 3 = 0 from rfl] at hx1372_0)
    (try rw [Addr.add_zero'] at hx1372_0)
    (try rw [show ((0 : Int)).toNat = 0 from rfl] at hx1372_1)
    (try rw [show 0 * 3 = 0 from rfl] at hx1372_1)
    (try rw [Addr.add_zero'] at hx1372_1)
    (try rw [show ((0 : Int)).toNat = 0 from rfl] at hx1372_2)
    (try rw [show 0 * 3 = 0 from rfl] at hx1372_2)
    (try rw [Addr.add_zero'] at hx1372_2)
    replace p1372 := eq_true p1372
    replace q1372 := eq_true q1372
    refine start_ (n := 13) (S := fun w' => w'.cell? ⟨gb1360, 0, none⟩ = some (.int .i64 t1347) ∧ w'.cell? ⟨gb1360, 1, none⟩ = some (.int .i64 t1348) ∧ w'.cell? ⟨gb1360, 2, none⟩ = some (.int .i64 t1349) ∧ w'.cell? ⟨gb1360, 3, none⟩ = some (.slice (some ad1372) t1350.length co25) ∧ w'.cell? ⟨gb1360, 4, none⟩ = some (.int .i64 t1353) ∧ w'.cell? ⟨gb1360, 5, none⟩ = some (.slice Ao26 t1354.length co26) ∧ w'.cell? ⟨gb1360, 6, none⟩ = some (.slice Ao27 t1357.length co27) ∧ w'.cell? ad1372 = some (.int .i64 ((rd_T85 t1350 0).f0)) ∧ w'.cell? ⟨ad1372.block, ad1372.off + 1, none⟩ = some (.int .i64 ((rd_T85 t1350 0).f1)) ∧ w'.cell? ⟨ad1372.block, ad1372.off + 2, none⟩ = some (.int .i64 ((rd_T85 t1350 0).f2))) (ds := [12]) #[false, false, false, false, false, false, false, false, false, false, false, false, false] (by kernel_rfl) rfl rfl ⟨(blk_cell BK1360.out 0).trans rfl, (blk_cell BK1360.out 1).trans rfl, (blk_cell BK1360.out 2).trans rfl, (blk_cell BK1360.out 3).trans rfl, (blk_cell BK1360.out 4).trans rfl, (blk_cell BK1360.out 5).trans rfl, (blk_cell BK1360.out 6).trans rfl, hx1372_0, hx1372_1, hx1372_2⟩ (fun hHeld => ?_); refine with_tabW swarflaw07_ShipHold.tab6 swarflaw07_ShipHold.bits6 (fun HT_ HW_ => ?_)
    generalize w28.drew = w44 at HO1329 HO1337 HO1341 HO1344 HO1352 HO1356 HO1359 BK1346 BK1360 HI1326 HB hx1372_0 hx1372_1 hx1372_2 hHeld ⊢
    refine pure_ (i := 0) (N := some 41) (v := ?_) (a' := ?_) (bz 13 1) rfl rfl (any_of HT_.out (by kernel_rfl)) (fun _ _ _ h => h) (Or.inl ⟨by rfl, ?_⟩) ?_ ?_
    rotate_left
    ·
     intro w'
     go_simp
     with_reducible rfl
    rotate_left
    ·
     simp only [Act.put, put_x, i64_w, i32_w]
     rfl
    refine pure_ (i := 2) (N := some 43) (v := ?_) (a' := ?_) (bz 13 5) rfl rfl (any_of HT_.out (by kernel_rfl)) (fun _ _ _ h => h) (Or.inl ⟨by rfl, ?_⟩) ?_ ?_
    rotate_left
    ·
     intro w'
     go_simp
     with_reducible rfl
    rotate_left
    ·
     simp only [Act.put, put_x, i64_w, i32_w]
     rfl
    refine pure_ (i := 7) (N := some 48) (v := ?_) (a' := ?_) (bz 13 133) rfl rfl (any_of HT_.out (by kernel_rfl)) (fun _ _ _ h => h) (Or.inl ⟨by rfl, ?_⟩) ?_ ?_
    rotate_left
    ·
     intro w'
     go_simp
     with_reducible rfl
    rotate_left
    ·
     simp only [Act.put, put_x, i64_w, i32_w]
     rfl
    refine take_ (i := 1) (N := some 42) (v := ?_) (a' := ?_) (bz 13 135) rfl rfl (take_ofW HT_.out HW_.out (by kernel_rfl)) (fun _ _ _ h => h) (Or.inl ⟨by rfl, ?_⟩) hHeld ?_ ?_
    rotate_left
    ·
     rintro w' ⟨s0, s1, s2, s3, s4, s5, s6, s7, s8, s9⟩
     go_simp
     with_reducible rfl
    rotate_left
    ·
     simp only [Act.put, put_x, i64_w, i32_w]
     rfl
    refine take_ (i := 3) (N := some 44) (v := ?_) (a' := ?_) (bz 13 143) rfl rfl (take_ofW HT_.out HW_.out (by kernel_rfl)) (fun _ _ _ h => h) (Or.inl ⟨by rfl, ?_⟩) hHeld ?_ ?_
    rotate_left
    ·
     rintro w' ⟨s0, s1, s2, s3, s4, s5, s6, s7, s8, s9⟩
     go_simp
     with_reducible rfl
    rotate_left
    ·
     simp only [Act.put, put_x, i64_w, i32_w]
     rfl
    refine pure_ (i := 4) (N := some 45) (v := ?_) (a' := ?_) (bz 13 159) rfl rfl (any_of HT_.out (by kernel_rfl)) (fun _ _ _ h => h) (Or.inl ⟨by rfl, ?_⟩) ?_ ?_
    rotate_left
    ·
     intro w'
     go_simp
     with_reducible rfl
    rotate_left
    ·
     simp only [Act.put, put_x, i64_w, i32_w]
     rfl
    refine pure_ (i := 5) (N := some 46) (v := ?_) (a' := ?_) (bz 13 191) rfl rfl (any_of HT_.out (by kernel_rfl)) (fun _ _ _ h => h) (Or.inl ⟨by rfl, ?_⟩) ?_ ?_
    rotate_left
    ·
     intro w'
     go_simp
     with_reducible rfl
    rotate_left
    ·
     simp only [Act.put, put_x, i64_w, i32_w]
     rfl
    refine take_ (i := 6) (N := some 47) (v := ?_) (a' := ?_) (bz 13 255) rfl rfl (take_ofW HT_.out HW_.out (by kernel_rfl)) (fun _ _ _ h => h) (Or.inl ⟨by rfl, ?_⟩) hHeld ?_ ?_
    rotate_left
    ·
     rintro w' ⟨s0, s1, s2, s3, s4, s5, s6, s7, s8, s9⟩
     go_simp
     with_reducible rfl
    rotate_left
    ·
     simp only [Act.put, put_x, i64_w, i32_w]
     rfl
    refine one_ (i := 8) (N := some 49) (bz 13 511) rfl rfl (one_of HT_.out (by kernel_rfl)) (by decide) (fun K hK => ?_)
    refine goes_ Try.func33 (by kernel_rfl) rfl #[.pointer (some ⟨g1326, 0, none⟩), .int .i64 20] (by rfl) rfl rfl (by (try simp only [List.map_toArray, List.map_cons, List.map_nil]); first | done | rfl | (simp only [List.length_drop, List.length_take]; rfl)) ?_
    with_reducible refine (swarfkit_Feed_Below.calls g1326 t1362 20 t1373 t1374 w _ ?side1 ?side2 A42.out).mono ?_
    (case side1 => exact IsS90.up HI1326.out)
    (case side2 => exact below_y HB.out)
    rintro e w45 ⟨rfl, hi, hb, hk⟩
    have HS7_ := keep_cell hk (hHeld.2.2.2.2.2.2.2.1) (by first | (rw [add_block]; exact Kd.own_blk (IsS90.own_ne HI1326.out HO1352.out (by decide))) | (show (Addr.add _ _).block ≠ _; rw [add_block]; exact Kd.own_blk (IsS90.own_ne HI1326.out HO1352.out (by decide))) | exact Kd.own_blk (ad := ad1372) (IsS90.own_ne HI1326.out HO1352.out (by decide)))
    have HS8_ := keep_cell hk (hHeld.2.2.2.2.2.2.2.2.1) (by first | (rw [add_block]; exact Kd.own_blk (IsS90.own_ne HI1326.out HO1352.out (by decide))) | (show (Addr.add _ _).block ≠ _; rw [add_block]; exact Kd.own_blk (IsS90.own_ne HI1326.out HO1352.out (by decide))) | exact Kd.own_blk (ad := ad1372) (IsS90.own_ne HI1326.out HO1352.out (by decide)))
    have HS9_ := keep_cell hk (hHeld.2.2.2.2.2.2.2.2.2) (by first | (rw [add_block]; exact Kd.own_blk (IsS90.own_ne HI1326.out HO1352.out (by decide))) | (show (Addr.add _ _).block ≠ _; rw [add_block]; exact Kd.own_blk (IsS90.own_ne HI1326.out HO1352.out (by decide))) | exact Kd.own_blk (ad := ad1372) (IsS90.own_ne HI1326.out HO1352.out (by decide)))
    refine ⟨_, rfl, ?_⟩
    replace HO1329 := Aside0.mk (Kd.R_mono (Kd.R_keep (IsS90.apart (show IsS90 w _ g1326 t1362 from by exact IsS90.up HI1326.out) (Kd.R_x HO1329.out) (by decide)) hk (fun _ h => h.2)) (fun _ h => h.1))
    replace HO1337 := Aside0.mk (Kd.R_mono (Kd.R_keep (IsS90.apart (show IsS90 w _ g1326 t1362 from by exact IsS90.up HI1326.out) (Kd.R_x HO1337.out) (by decide)) hk (fun _ h => h.2)) (fun _ h => h.1))
    replace HO1341 := Aside0.mk (Kd.S_mono (Kd.S_keep (IsS90.apartS (show IsS90 w _ g1326 t1362 from by exact IsS90.up HI1326.out) (Kd.S_x HO1341.out) (by decide)) hk (fun _ h => h.2)) (fun _ h => h.1))
    replace HO1344 := Aside0.mk (Kd.R_mono (Kd.R_keep (IsS90.apart (show IsS90 w _ g1326 t1362 from by exact IsS90.up HI1326.out) (Kd.R_x HO1344.out) (by decide)) hk (fun _ h => h.2)) (fun _ h => h.1))
    replace BK1346 := Aside0.mk (KeepBut.blk hk (blk_x BK1346.out) NB1346_1326.out (by simp))
    replace HO1352 := Aside0.mk (Kd.R_mono (Kd.R_keep (IsS90.apart (show IsS90 w _ g1326 t1362 from by exact IsS90.up HI1326.out) (Kd.R_x HO1352.out) (by decide)) hk (fun _ h => h.2)) (fun _ h => h.1))
    replace HO1356 := Aside0.mk (Kd.S_mono (Kd.S_keep (IsS90.apartS (show IsS90 w _ g1326 t1362 from by exact IsS90.up HI1326.out) (Kd.S_x HO1356.out) (by decide)) hk (fun _ h => h.2)) (fun _ h => h.1))
    replace HO1359 := Aside0.mk (Kd.R_mono (Kd.R_keep (IsS90.apart (show IsS90 w _ g1326 t1362 from by exact IsS90.up HI1326.out) (Kd.R_x HO1359.out) (by decide)) hk (fun _ h => h.2)) (fun _ h => h.1))
    replace BK1360 := Aside0.mk (KeepBut.blk hk (blk_x BK1360.out) NB1360_1326.out (by simp))
    replace HB := Aside0.mk (hb)
    replace HI1326 := Aside0.mk (hi)
    (try clear hb)
    (try clear hb2)
    (try clear hk)
    (try clear hi)
    have p43 : 0 ≤ (0 : Int) := (by omega)
    have q43 : (0 : Int) < ((t1350.length : Int) : Int) := of_x
    have qi43 : (0 < t1350.length) = True := eq_true (by omega)
    obtain ⟨go43, co43, eo43, gb43, gl43, cl43, HG43⟩ := Kd.R_form HO1352.out (by omega)
    (first | cases eo43 | (injection eo43 with ea_ en_ ec_; (first | subst ea_ | (injection ea_ with ea_; subst ea_)); subst ec_; clear en_))
    have GB43 := Aside0.mk gb43
    have GG43 := Aside0.mk HG43
    clear gb43 gl43 HG43
    (first | simp only [add_plain] at hx1372_0 | skip)
    (first | simp only [add_plain] at hx1372_1 | skip)
    (first | simp only [add_plain] at hx1372_2 | skip)
    obtain ⟨ce43, hcl43, hM43, hcc43, hfr43⟩ := Kd.R_elem HO1352.out z85 (0 : Int) p43 q43
    obtain rfl := k85_openM hM43
    have hx43_0 : World.cell? _ ⟨go43, (0 : Int).toNat * 3, none⟩ = some (.int .i64 ((rd_T85 t1350 0).f0)) := hcc43 0 _ rfl
    have hx43_1 : World.cell? _ ⟨go43, (0 : Int).toNat * 3 + 1, none⟩ = some (.int .i64 ((rd_T85 t1350 0).f1)) := hcc43 1 _ rfl
    have hx43_2 : World.cell? _ ⟨go43, (0 : Int).toNat * 3 + 2, none⟩ = some (.int .i64 ((rd_T85 t1350 0).f2)) := hcc43 2 _ rfl
    have hf43_0 : World.frozen? _ ⟨go43, (0 : Int).toNat * 3, none⟩ = false := hfr43 0
    have hf43_1 : World.frozen? _ ⟨go43, (0 : Int).toNat * 3 + 1, none⟩ = false := hfr43 1
    have hf43_2 : World.frozen? _ ⟨go43, (0 : Int).toNat * 3 + 2, none⟩ = false := hfr43 2
    clear hcl43 hcc43 hfr43 hM43
    (try rw [show ((0 : Int)).toNat = 0 from rfl] at hx43_0)
    (try simp only [Nat.reduceMul, Nat.zero_mul, Nat.zero_add, Nat.reduceAdd] at hx43_0)
    (try rw [show ((0 : Int)).toNat = 0 from rfl] at hf43_0)
    (try simp only [Nat.reduceMul, Nat.zero_mul, Nat.zero_add, Nat.reduceAdd] at hf43_0)
    (try rw [show ((0 : Int)).toNat = 0 from rfl] at hx43_1)
    (try simp only [Nat.reduceMul, Nat.zero_mul, Nat.zero_add, Nat.reduceAdd] at hx43_1)
    (try rw [show ((0 : Int)).toNat = 0 from rfl] at hf43_1)
    (try simp only [Nat.reduceMul, Nat.zero_mul, Nat.zero_add, Nat.reduceAdd] at hf43_1)
    (try rw [show ((0 : Int)).toNat = 0 from rfl] at hx43_2)
    (try simp only [Nat.reduceMul, Nat.zero_mul, Nat.zero_add, Nat.reduceAdd] at hx43_2)
    (try rw [show ((0 : Int)).toNat = 0 from rfl] at hf43_2)
    (try simp only [Nat.reduceMul, Nat.zero_mul, Nat.zero_add, Nat.reduceAdd] at hf43_2)
    replace p43 := eq_true p43
    replace q43 := eq_true q43
    have HN1326_go43 := Aside0.mk (show g1326 ≠ go43 from by have h_ := IsS90.own_ne HI1326.out HO1352.out (by decide); intro e_; exact h_ (by rw [e_]; rfl))
    obtain ⟨ce46, hcl46, hM46, hcc46, hfr46⟩ := Kd.R_elem HO1352.out z85 (0 : Int) (by omega) (by have h_ : (0 : Int) < ((t1350.length : Int) : Int) := of_x; first | exact h_ | (have e_ := (Kd.R_reads' HO1352.out).1; omega) | simpa using h_)
    obtain rfl := k85_openM hM46
    have HP46 := (Kd.R_seg HO1352.out (0 : Int) (by omega) (by have h_ : (0 : Int) < ((t1350.length : Int) : Int) := of_x; first | exact h_ | (have e_ := (Kd.R_reads' HO1352.out).1; omega) | simpa using h_) (seg := [.int .i64 (wrap64 (((rd_T85 t1350 0).f0) + t1373))]) (j := 0) hcl46 hcc46 (show 1 ≤ 3 from by decide) (x' := (⟨wrap64 (((rd_T85 t1350 0).f0) + t1373), (rd_T85 t1350 0).f1, (rd_T85 t1350 0).f2⟩ : S85)) (k85_mkM _ _ _ (⟨wrap64 (((rd_T85 t1350 0).f0) + t1373), (rd_T85 t1350 0).f1, (rd_T85 t1350 0).f2⟩ : S85) ) (fun _ hk => hk)).1
    rw [← Ny1375.out] at HP46
    have HQ46 := Aside0.mk HP46
    clear hcl46 hcc46 hfr46 hM46 HP46
    refine hK.out _ _ ⟨(blk_cell BK1360.out 0).trans rfl, (blk_cell BK1360.out 1).trans rfl, (blk_cell BK1360.out 2).trans rfl, (blk_cell BK1360.out 3).trans rfl, (blk_cell BK1360.out 4).trans rfl, (blk_cell BK1360.out 5).trans rfl, (blk_cell BK1360.out 6).trans rfl, HS7_, HS8_, HS9_⟩ (fun hHeld => ?_)
    clear hK K
    refine norm_ (a' := ?_) ?_ ?_
    rotate_left
    ·
     show Act.put _ (some 49) _ = _
     simp only [Act.put, put_x, i64_w, i32_w]
     rfl
    refine pure_ (i := 9) (N := some 50) (v := ?_) (a' := ?_) (bz 13 1023) rfl rfl (any_of HT_.out (by kernel_rfl)) (fun _ _ _ h => h) (Or.inl ⟨by rfl, ?_⟩) ?_ ?_
    rotate_left
    ·
     intro w'
     go_simp
     with_reducible rfl
    rotate_left
    ·
     simp only [Act.put, put_x, i64_w, i32_w]
     rfl
    refine pure_ (i := 10) (N := some 51) (v := ?_) (a' := ?_) (bz 13 2047) rfl rfl (any_of HT_.out (by kernel_rfl)) (fun _ _ _ h => h) (Or.inl ⟨by rfl, ?_⟩) ?_ ?_
    rotate_left
    ·
     intro w'
     go_simp
     with_reducible rfl
    rotate_left
    ·
     simp only [Act.put, put_x, i64_w, i32_w]
     rfl
    refine pure_ (i := 11) (N := some 52) (v := ?_) (a' := ?_) (bz 13 4095) rfl rfl (any_of HT_.out (by kernel_rfl)) (fun _ _ _ h => h) (Or.inl ⟨by rfl, ?_⟩) ?_ ?_
    rotate_left
    ·
     intro w'
     go_simp
     with_reducible rfl
    rotate_left
    ·
     simp only [Act.put, put_x, i64_w, i32_w]
     rfl
    refine last_ (i := 12) (N := none) (bz 13 8191) rfl rfl (one_of HT_.out (by kernel_rfl)) (by decide) (fun K hK => ?_)
    refine skip_ (w1 := ?_) (by rfl) rfl ?_ ?_
    rotate_left
    ·
     go_simp
     rfl
    refine hK.out _ _ ?_
    clear hK K
    refine done_ (done_of HT_.out (by kernel_rfl)) ?_
    try go_wp2
    go_meet
    case rel => exact ⟨_, (t1335), (y1375), (.slice Ao17 t1335.length co17), (.slice (some ⟨go43, 0, none⟩) t1350.length co25), H', ⟨by first | omega | exact Nat.le_refl _⟩, ⟨by (with_reducible repeat (first | apply Kd.R_alloc | apply Kd.R_drewN | apply Kd.R_drew)); exact Kd.R_mono (Kd.R_far (p := ⟨go43, 0, none⟩) (Kd.R_mono HO1337.out (fun k_ hk => (⟨hk, fun e_ => hk.2 (by rw [e_]; rfl)⟩ : _ ∧ k_ ≠ go43))) (fun _ hk => hk.2) (.int .i64 (wrap64 (((rd_T85 t1350 0).f0) + t1373)))) (fun _ hk => hk.1.2)⟩, ⟨by (with_reducible repeat (first | apply Kd.S_alloc | apply Kd.S_drewN | apply Kd.S_drew)); exact Kd.S_mono (Kd.S_far (p := ⟨go43, 0, none⟩) (Kd.S_types HO1341.out GG43.out (by decide)) (fun _ hk => hk.2) (.int .i64 (wrap64 (((rd_T85 t1350 0).f0) + t1373)))) (fun _ hk => hk.1.2)⟩, ⟨by (with_reducible repeat (first | apply Kd.R_alloc | apply Kd.R_drewN | apply Kd.R_drew)); exact Kd.R_mono (Kd.R_far (p := ⟨go43, 0, none⟩) (Kd.R_types HO1344.out GG43.out (by decide)) (fun _ hk => hk.2) (.int .i64 (wrap64 (((rd_T85 t1350 0).f0) + t1373)))) (fun _ hk => hk.1.2)⟩, ⟨by (with_reducible repeat (first | apply Kd.R_alloc | apply Kd.R_drewN | apply Kd.R_drew)); exact Kd.R_mono HQ46.out (fun _ hk => hk.2)⟩, ⟨by (with_reducible repeat (first | apply Kd.S_alloc | apply Kd.S_drewN | apply Kd.S_drew)); exact Kd.S_mono (Kd.S_far (p := ⟨go43, 0, none⟩) (Kd.S_types HO1356.out GG43.out (by decide)) (fun _ hk => hk.2) (.int .i64 (wrap64 (((rd_T85 t1350 0).f0) + t1373)))) (fun _ hk => hk.1.2)⟩, ⟨by (with_reducible repeat (first | apply Kd.R_alloc | apply Kd.R_drewN | apply Kd.R_drew)); exact Kd.R_mono (Kd.R_far (p := ⟨go43, 0, none⟩) (Kd.R_types HO1359.out GG43.out (by decide)) (fun _ hk => hk.2) (.int .i64 (wrap64 (((rd_T85 t1350 0).f0) + t1373)))) (fun _ hk => hk.1.2)⟩, ⟨by (with_reducible repeat (first | refine blk_drewN ?_ _ | refine blk_drew ?_ | refine blk_alloc ?_ _)); refine blk_far ?_ (by have h_ := Kd.R_ne HO1352.out BK1346.out (by decide); intro e_; exact h_ (by rw [e_]; rfl)) _; (with_reducible repeat (first | refine blk_drewN ?_ _ | refine blk_drew ?_ | refine blk_alloc ?_ _)); exact BK1346.out⟩, ⟨by (with_reducible repeat (first | refine blk_drewN ?_ _ | refine blk_drew ?_ | refine blk_alloc ?_ _)); refine blk_far ?_ (by have h_ := Kd.R_ne HO1352.out BK1360.out (by decide); intro e_; exact h_ (by rw [e_]; rfl)) _; (with_reducible repeat (first | refine blk_drewN ?_ _ | refine blk_drew ?_ | refine blk_alloc ?_ _)); exact BK1360.out⟩, ⟨by exact below_y HB.out⟩⟩
   ·
    rw [if_neg c41] at H
    exact absurd H (by simp)
 case rest =>
  clear HC7
  obtain ⟨kq, x1347003_6, x1361003_6, u1347003, u1361003, HA, HJ6, HO_1347003, HO_1347005, HO_1347006, HO_1361003, HO_1361005, HO_1361006, BK1346, BK1360, HB⟩ := hcut
  cases kq with
  | zero => exact absurd HA.out (by simp [swarflaw07_ShipHold.j0])
  | succ kj6 =>
   have H := HA.out
   clear HA
   simp only [swarflaw07_ShipHold.j0] at H
   replace H := Option.bind_eq_some_iff.mp H
   obtain ⟨⟨t1376, t1379, t1380⟩, A470, H⟩ := H
   try dsimp only at H
   have A47 := Aside0.mk A470
   clear A470
   replace H := Option.bind_eq_some_iff.mp H
   obtain ⟨⟨t1381, t1384, t1385⟩, A480, H⟩ := H
   try dsimp only at H
   have A48 := Aside0.mk A480
   clear A480
   have HC49 := Aside0.mk H
   clear H
   have hnb50 := NB1346_1360.out
   have hnc50 := NB1360_1346.out
   obtain ⟨_, _, _, _, _, _, _⟩ := cz7 BK1346
   have hfz51_0 := blk_frozen BK1346.out
   obtain ⟨Ao52, co52, eo52⟩ := Kd.R_slice HO_1347003.out
   subst eo52
   go_upto_region 9 with (first | ((with_reducible refine gate_callee (f := 28) rfl ?_); refine goesL_ (some 55) rfl rfl Try.func28 (by kernel_rfl) rfl #[.agg #[.int .i64 t1332, .int .i64 t1333, .int .i64 t1334, .slice Ao52 x1347003_6.length co52, .int .i64 t1338, .slice Ao18 t1339.length co18, .slice Ao19 t1342.length co19]] rfl (by (try simp only [List.map_toArray, List.map_cons, List.map_nil]); first | done | rfl | (simp only [List.length_drop, List.length_take]; rfl)) ?_; (with_reducible refine (ship_Best.calls t1332 t1333 t1334 _ _ x1347003_6 t1338 _ _ t1339 _ _ t1342 t1376 t1379 t1380 _ ?side1 ?side2 ?side3 ?side4 ?side5 ?side6 A47.out).mono ?_); (case side1 => exact Kd.C_y (Kd.R_reads' HO_1347003.out).2.2); (case side2 => exact (Kd.R_reads' HO_1347003.out).2.1); (case side3 => exact Kd.C_y (Kd.S_reads' HO_1347005.out).2.2); (case side4 => exact (Kd.S_reads' HO_1347005.out).2.1); (case side5 => exact Kd.C_y (Kd.R_reads' HO_1347006.out).2.2); (case side6 => exact (Kd.R_reads' HO_1347006.out).2.1); rintro e w53 ⟨v1377, rfl, ho0, hb⟩; refine ⟨_, rfl, ?_⟩; replace HO_1347003 := Aside0.mk (Kd.R_below (Kd.R_x HO_1347003.out) hb); replace HO_1347005 := Aside0.mk (Kd.S_below (Kd.S_x HO_1347005.out) hb); replace HO_1347006 := Aside0.mk (Kd.R_below (Kd.R_x HO_1347006.out) hb); replace HO_1361003 := Aside0.mk (Kd.R_below (Kd.R_x HO_1361003.out) hb); replace HO_1361005 := Aside0.mk (Kd.S_below (Kd.S_x HO_1361005.out) hb); replace HO_1361006 := Aside0.mk (Kd.R_below (Kd.R_x HO_1361006.out) hb); have HO1378 := Aside0.mk (Kd.R_lower ho0 (below_size (by exact below_y HB.out))); replace BK1346 := Aside0.mk (blk_below (blk_x BK1346.out) hb); replace BK1360 := Aside0.mk (blk_below (blk_x BK1360.out) hb); replace HB := bl_x HB hb; (try clear hb); (try clear hk); (try clear hi); (try clear ho0); obtain ⟨_, _, _, _, _, _, _⟩ := cz7 BK1360; have hfz54_0 := blk_frozen BK1360.out; obtain ⟨Ao55, co55, eo55⟩ := Kd.R_slice HO_1361003.out; subst eo55) | ((with_reducible refine gate_callee (f := 28) rfl ?_); refine goesL_ (some 61) rfl rfl Try.func28 (by kernel_rfl) rfl #[.agg #[.int .i64 t1347, .int .i64 t1348, .int .i64 t1349, .slice Ao55 x1361003_6.length co55, .int .i64 t1353, .slice Ao26 t1354.length co26, .slice Ao27 t1357.length co27]] rfl (by (try simp only [List.map_toArray, List.map_cons, List.map_nil]); first | done | rfl | (simp only [List.length_drop, List.length_take]; rfl)) ?_; (with_reducible refine (ship_Best.calls t1347 t1348 t1349 _ _ x1361003_6 t1353 _ _ t1354 _ _ t1357 t1381 t1384 t1385 _ ?side1 ?side2 ?side3 ?side4 ?side5 ?side6 A48.out).mono ?_); (case side1 => exact Kd.C_y (Kd.R_reads' HO_1361003.out).2.2); (case side2 => exact (Kd.R_reads' HO_1361003.out).2.1); (case side3 => exact Kd.C_y (Kd.S_reads' HO_1361005.out).2.2); (case side4 => exact (Kd.S_reads' HO_1361005.out).2.1); (case side5 => exact Kd.C_y (Kd.R_reads' HO_1361006.out).2.2); (case side6 => exact (Kd.R_reads' HO_1361006.out).2.1); rintro e w56 ⟨v1382, rfl, ho0, hb⟩; refine ⟨_, rfl, ?_⟩; replace HO_1347003 := Aside0.mk (Kd.R_below (Kd.R_x HO_1347003.out) hb); replace HO_1347005 := Aside0.mk (Kd.S_below (Kd.S_x HO_1347005.out) hb); replace HO_1347006 := Aside0.mk (Kd.R_below (Kd.R_x HO_1347006.out) hb); replace HO_1361003 := Aside0.mk (Kd.R_below (Kd.R_x HO_1361003.out) hb); replace HO_1361005 := Aside0.mk (Kd.S_below (Kd.S_x HO_1361005.out) hb); replace HO_1361006 := Aside0.mk (Kd.R_below (Kd.R_x HO_1361006.out) hb); have HO1383 := Aside0.mk (Kd.R_lower (Kd.R_new' ho0 (Kd.R_lt (Kd.R_x HO1378.out))) (below_size (by exact below_y HB.out))); replace HO1378 := Aside0.mk (Kd.R_elder' (Kd.R_x HO1378.out) (Kd.R_base ho0) hb); replace BK1346 := Aside0.mk (blk_below (blk_x BK1346.out) hb); replace BK1360 := Aside0.mk (blk_below (blk_x BK1360.out) hb); replace HB := bl_x HB hb; (try clear hb); (try clear hk); (try clear hi); (try clear ho0)))
   (try simp only [Act.put, put_x])
   go_cut [79] (fun v79 wc => ∃ (kq : Nat) (x79_48 : Bool), v79 = .bool x79_48 ∧ Aside0 (swarflaw07_ShipHold.j1 kq t1376 t1379 x79_48 t1332 t1333 t1334 x1347003_6 t1338 t1339 t1342 = some r) ∧ Aside0 (kq ≤ kj6) ∧ Aside0 (Kd.R (Kd.int .i64) 3 wc w.heap.size (fun _ => True) v1377 t1376) ∧ Aside0 (Kd.R k85 85 wc w.heap.size (fun k_ => some k_ ≠ ((.slice Ao55 x1361003_6.length co55) : Value).ownBlock) (.slice Ao52 x1347003_6.length co52) x1347003_6) ∧ Aside0 (Kd.S k59 59 wc w.heap.size (fun k_ => some k_ ≠ ((.slice Ao26 t1354.length co26) : Value).ownBlock) (.slice Ao18 t1339.length co18) t1339) ∧ Aside0 (Kd.R k79 79 wc w.heap.size (fun k_ => some k_ ≠ ((.slice Ao27 t1357.length co27) : Value).ownBlock) (.slice Ao19 t1342.length co19) t1342) ∧ Aside0 (Kd.R k85 85 wc w.heap.size (fun k_ => some k_ ≠ ((.slice Ao52 x1347003_6.length co52) : Value).ownBlock) (.slice Ao55 x1361003_6.length co55) x1361003_6) ∧ Aside0 (Kd.S k59 59 wc w.heap.size (fun k_ => some k_ ≠ ((.slice Ao18 t1339.length co18) : Value).ownBlock) (.slice Ao26 t1354.length co26) t1354) ∧ Aside0 (Kd.R k79 79 wc w.heap.size (fun k_ => some k_ ≠ ((.slice Ao19 t1342.length co19) : Value).ownBlock) (.slice Ao27 t1357.length co27) t1357) ∧ Aside0 (wc.heap[gb1346]? = some (.cells #[.int .i64 t1332, .int .i64 t1333, .int .i64 t1334, (.slice Ao52 x1347003_6.length co52), .int .i64 t1338, (.slice Ao18 t1339.length co18), (.slice Ao19 t1342.length co19)] 26 (0, 0))) ∧ Aside0 (wc.heap[gb1360]? = some (.cells #[.int .i64 t1347, .int .i64 t1348, .int .i64 t1349, (.slice Ao55 x1361003_6.length co55), .int .i64 t1353, (.slice Ao26 t1354.length co26), (.slice Ao27 t1357.length co27)] 26 (0, 0))) ∧ Aside0 (Below w.heap.size w wc))
   case first =>
    have H := HC49.out
    clear HC49
    by_cases c57 : t1380 = 0
    ·
     rw [if_pos c57] at H
     have c57b0 : (t1380 == 0) = true := beq_iff_eq.mpr c57
     have c57b1 : (t1380 != 0) = false := bne_eq_false_iff_eq.mpr c57
     clear c57
     (first | rw [c57b0] | (simp only [i64_w, i32_w]; rw [c57b0]) | skip)
     by_cases c58 : t1385 = 0
     ·
      rw [if_pos c58] at H
      have c58b0 : (t1385 == 0) = true := beq_iff_eq.mpr c58
      have c58b1 : (t1385 != 0) = false := bne_eq_false_iff_eq.mpr c58
      clear c58
      by_cases c59 : t1384 < t1379
      ·
       rw [if_pos c59] at H
       have c59b0 : decide (t1384 < t1379) = true := decide_eq_true c59
       clear c59
       have H' := Aside0.mk H
       clear H
       go_wp2
       go_meet
       case rel => exact ⟨_, (true), (by first | rfl | (simp; done) | (simp [*]; done)), H', ⟨by have := HJ6.out; first | omega | exact Nat.le_refl _⟩, ⟨by (with_reducible repeat (first | apply Kd.R_alloc | apply Kd.R_drewN | apply Kd.R_drew)); exact Kd.R_mono HO1378.out (fun _ hk => trivial)⟩, ⟨by (with_reducible repeat (first | apply Kd.R_alloc | apply Kd.R_drewN | apply Kd.R_drew)); exact HO_1347003.out⟩, ⟨by (with_reducible repeat (first | apply Kd.S_alloc | apply Kd.S_drewN | apply Kd.S_drew)); exact HO_1347005.out⟩, ⟨by (with_reducible repeat (first | apply Kd.R_alloc | apply Kd.R_drewN | apply Kd.R_drew)); exact HO_1347006.out⟩, ⟨by (with_reducible repeat (first | apply Kd.R_alloc | apply Kd.R_drewN | apply Kd.R_drew)); exact HO_1361003.out⟩, ⟨by (with_reducible repeat (first | apply Kd.S_alloc | apply Kd.S_drewN | apply Kd.S_drew)); exact HO_1361005.out⟩, ⟨by (with_reducible repeat (first | apply Kd.R_alloc | apply Kd.R_drewN | apply Kd.R_drew)); exact HO_1361006.out⟩, ⟨blk_x BK1346.out⟩, ⟨blk_x BK1360.out⟩, ⟨by exact below_y HB.out⟩⟩
      ·
       rw [if_neg c59] at H
       have c59b0 : decide (t1384 < t1379) = false := decide_eq_false c59
       clear c59
       have H' := Aside0.mk H
       clear H
       go_wp2
       go_meet
       case rel => exact ⟨_, (decide (t1379 < (-1))), (by first | rfl | (simp; done) | (simp [*]; done)), H', ⟨by have := HJ6.out; first | omega | exact Nat.le_refl _⟩, ⟨by (with_reducible repeat (first | apply Kd.R_alloc | apply Kd.R_drewN | apply Kd.R_drew)); exact Kd.R_mono HO1378.out (fun _ hk => trivial)⟩, ⟨by (with_reducible repeat (first | apply Kd.R_alloc | apply Kd.R_drewN | apply Kd.R_drew)); exact HO_1347003.out⟩, ⟨by (with_reducible repeat (first | apply Kd.S_alloc | apply Kd.S_drewN | apply Kd.S_drew)); exact HO_1347005.out⟩, ⟨by (with_reducible repeat (first | apply Kd.R_alloc | apply Kd.R_drewN | apply Kd.R_drew)); exact HO_1347006.out⟩, ⟨by (with_reducible repeat (first | apply Kd.R_alloc | apply Kd.R_drewN | apply Kd.R_drew)); exact HO_1361003.out⟩, ⟨by (with_reducible repeat (first | apply Kd.S_alloc | apply Kd.S_drewN | apply Kd.S_drew)); exact HO_1361005.out⟩, ⟨by (with_reducible repeat (first | apply Kd.R_alloc | apply Kd.R_drewN | apply Kd.R_drew)); exact HO_1361006.out⟩, ⟨blk_x BK1346.out⟩, ⟨blk_x BK1360.out⟩, ⟨by exact below_y HB.out⟩⟩
     ·
      rw [if_neg c58] at H
      have c58b0 : (t1385 == 0) = false := beq_eq_false_iff_ne.mpr c58
      have c58b1 : (t1385 != 0) = true := bne_iff_ne.mpr c58
      have H' := Aside0.mk H
      clear H
      go_wp2
      go_meet
      case rel => exact ⟨_, (true), (by first | rfl | (simp; done) | (simp [*]; done)), H', ⟨by have := HJ6.out; first | omega | exact Nat.le_refl _⟩, ⟨by (with_reducible repeat (first | apply Kd.R_alloc | apply Kd.R_drewN | apply Kd.R_drew)); exact Kd.R_mono HO1378.out (fun _ hk => trivial)⟩, ⟨by (with_reducible repeat (first | apply Kd.R_alloc | apply Kd.R_drewN | apply Kd.R_drew)); exact HO_1347003.out⟩, ⟨by (with_reducible repeat (first | apply Kd.S_alloc | apply Kd.S_drewN | apply Kd.S_drew)); exact HO_1347005.out⟩, ⟨by (with_reducible repeat (first | apply Kd.R_alloc | apply Kd.R_drewN | apply Kd.R_drew)); exact HO_1347006.out⟩, ⟨by (with_reducible repeat (first | apply Kd.R_alloc | apply Kd.R_drewN | apply Kd.R_drew)); exact HO_1361003.out⟩, ⟨by (with_reducible repeat (first | apply Kd.S_alloc | apply Kd.S_drewN | apply Kd.S_drew)); exact HO_1361005.out⟩, ⟨by (with_reducible repeat (first | apply Kd.R_alloc | apply Kd.R_drewN | apply Kd.R_drew)); exact HO_1361006.out⟩, ⟨blk_x BK1346.out⟩, ⟨blk_x BK1360.out⟩, ⟨by exact below_y HB.out⟩⟩
    ·
     rw [if_neg c57] at H
     have c57b0 : (t1380 == 0) = false := beq_eq_false_iff_ne.mpr c57
     have c57b1 : (t1380 != 0) = true := bne_iff_ne.mpr c57
     (first | rw [c57b0] | (simp only [i64_w, i32_w]; rw [c57b0]) | skip)
     have H' := Aside0.mk H
     clear H
     go_wp2
     go_meet
     case rel => exact ⟨_, (true), (by first | rfl | (simp; done) | (simp [*]; done)), H', ⟨by have := HJ6.out; first | omega | exact Nat.le_refl _⟩, ⟨by (with_reducible repeat (first | apply Kd.R_alloc | apply Kd.R_drewN | apply Kd.R_drew)); exact Kd.R_mono HO1378.out (fun _ hk => trivial)⟩, ⟨by (with_reducible repeat (first | apply Kd.R_alloc | apply Kd.R_drewN | apply Kd.R_drew)); exact HO_1347003.out⟩, ⟨by (with_reducible repeat (first | apply Kd.S_alloc | apply Kd.S_drewN | apply Kd.S_drew)); exact HO_1347005.out⟩, ⟨by (with_reducible repeat (first | apply Kd.R_alloc | apply Kd.R_drewN | apply Kd.R_drew)); exact HO_1347006.out⟩, ⟨by (with_reducible repeat (first | apply Kd.R_alloc | apply Kd.R_drewN | apply Kd.R_drew)); exact HO_1361003.out⟩, ⟨by (with_reducible repeat (first | apply Kd.S_alloc | apply Kd.S_drewN | apply Kd.S_drew)); exact HO_1361005.out⟩, ⟨by (with_reducible repeat (first | apply Kd.R_alloc | apply Kd.R_drewN | apply Kd.R_drew)); exact HO_1361006.out⟩, ⟨blk_x BK1346.out⟩, ⟨blk_x BK1360.out⟩, ⟨by exact below_y HB.out⟩⟩
   case rest =>
    clear HC49
    obtain ⟨kq, x79_48, rfl, HA, HJ48, HO_6, HO_1347003, HO_1347005, HO_1347006, HO_1361003, HO_1361005, HO_1361006, BK1346, BK1360, HB⟩ := hcut
    cases kq with
    | zero => exact absurd HA.out (by simp [swarflaw07_ShipHold.j1])
    | succ kj48 =>
     have H := HA.out
     clear HA
     simp only [swarflaw07_ShipHold.j1] at H
     by_cases c60 : x79_48 = true
     ·
      subst c60
      have H1 : (some false) = some r := by rw [if_pos rfl] at H; exact H
      clear H
      have H := H1
      clear H1
      exact absurd ((Option.some.inj H).trans hrt.out) (by decide)
     ·
      replace c60 := Bool.eq_false_iff.mpr c60
      subst c60
      have H1 : (if t1379 < 0 then ((swarflaw07_awake.f kj48).bind fun t1386 => (some t1386)) else ((ship_Level.f kj48 t1332 t1333 t1334 x1347003_6 t1338 t1339 t1342 t1376).bind fun bt1387 => ((ship_Sail.f t1332 t1333 t1334 x1347003_6 t1338 t1339 t1342 t1376).bind fun bt1392 => (if bt1387.2.2.2 = 0 then (if bt1392.2.2 = 0 then (if bt1387.1 = true then (if bt1392.1 = 1 then ((swarflaw07_awake.f kj48).bind fun t1397 => (some t1397)) else (some false)) else (some false)) else (some false)) else (some false))))) = some r := by rw [if_neg (show ¬ (false = true) by decide)] at H; exact H
      clear H
      have H := H1
      clear H1
      by_cases c61 : t1379 < 0
      ·
       rw [if_pos c61] at H
       have c61b0 : decide (t1379 < 0) = true := decide_eq_true c61
       clear c61
       replace H := Option.bind_eq_some_iff.mp H
       obtain ⟨t1386, A620, H⟩ := H
       replace H : (some t1386) = some r := H
       have A62 := Aside0.mk A620
       clear A620
       obtain rfl := Option.some.inj H
       go_wp2_with (first | ((with_reducible refine gate_callee (f := 15) rfl ?_); refine goesL_ (some 82) rfl rfl Try.func15 (by kernel_rfl) rfl #[] rfl (by (try simp only [List.map_toArray, List.map_cons, List.map_nil]); first | done | rfl | (simp only [List.length_drop, List.length_take]; rfl)) ?_; (with_reducible refine (swarflaw07_awake.calls kj48  t1386 _ A62.out).mono ?_); rintro e w63 ⟨rfl, hb⟩; refine ⟨_, rfl, ?_⟩; replace HO_6 := Aside0.mk (Kd.R_below (Kd.R_x HO_6.out) hb); replace HO_1347003 := Aside0.mk (Kd.R_below (Kd.R_x HO_1347003.out) hb); replace HO_1347005 := Aside0.mk (Kd.S_below (Kd.S_x HO_1347005.out) hb); replace HO_1347006 := Aside0.mk (Kd.R_below (Kd.R_x HO_1347006.out) hb); replace HO_1361003 := Aside0.mk (Kd.R_below (Kd.R_x HO_1361003.out) hb); replace HO_1361005 := Aside0.mk (Kd.S_below (Kd.S_x HO_1361005.out) hb); replace HO_1361006 := Aside0.mk (Kd.R_below (Kd.R_x HO_1361006.out) hb); replace BK1346 := Aside0.mk (blk_below (blk_x BK1346.out) hb); replace BK1360 := Aside0.mk (blk_below (blk_x BK1360.out) hb); replace HB := bl_x HB hb; (try clear hb); (try clear hk); (try clear hi)))
       go_ret
       exact ⟨by first | rfl | (simp [errW_none, errW_some] <;> rfl) | (simp [*, errW_none, errW_some] <;> rfl), by exact below_y HB.out⟩
      ·
       rw [if_neg c61] at H
       have c61b0 : decide (t1379 < 0) = false := decide_eq_false c61
       clear c61
       replace H := Option.bind_eq_some_iff.mp H
       obtain ⟨⟨t1387, t1388, t1389, t1390⟩, A640, H⟩ := H
       try dsimp only at H
       have A64 := Aside0.mk A640
       clear A640
       replace H := Option.bind_eq_some_iff.mp H
       obtain ⟨⟨t1392, t1393, t1396⟩, A650, H⟩ := H
       try dsimp only at H
       have A65 := Aside0.mk A650
       clear A650
       by_cases c66 : t1390 = 0
       ·
        rw [if_pos c66] at H
        have c66b0 : (t1390 == 0) = true := beq_iff_eq.mpr c66
        have c66b1 : (t1390 != 0) = false := bne_eq_false_iff_eq.mpr c66
        clear c66
        by_cases c67 : t1396 = 0
        ·
         rw [if_pos c67] at H
         have c67b0 : (t1396 == 0) = true := beq_iff_eq.mpr c67
         have c67b1 : (t1396 != 0) = false := bne_eq_false_iff_eq.mpr c67
         clear c67
         by_cases c68 : t1387 = true
         ·
          subst c68
          have H1 : (if t1392 = 1 then ((swarflaw07_awake.f kj48).bind fun t1397 => (some t1397)) else (some false)) = some r := by rw [if_pos rfl] at H; exact H
          clear H
          have H := H1
          clear H1
          by_cases c69 : t1392 = 1
          ·
           rw [if_pos c69] at H
           have c69b0 : (t1392 == 1) = true := beq_iff_eq.mpr c69
           have c69b1 : (t1392 != 1) = false := bne_eq_false_iff_eq.mpr c69
           clear c69
           replace H := Option.bind_eq_some_iff.mp H
           obtain ⟨t1397, A700, H⟩ := H
           replace H : (some t1397) = some r := H
           have A70 := Aside0.mk A700
           clear A700
           obtain rfl := Option.some.inj H
           have hnb71 := NB1346_1360.out
           have hnc71 := NB1360_1346.out
           obtain ⟨_, _, _, _, _, _, _⟩ := cz7 BK1346
           have hfz72_0 := blk_frozen BK1346.out
           obtain ⟨Ao73, co73, eo73⟩ := Kd.R_slice HO_6.out
           subst eo73
           go_wp2_with (first | ((with_reducible refine gate_callee (f := 37) rfl ?_); refine goesL_ (some 86) rfl rfl Try.func37 (by kernel_rfl) rfl #[.agg #[.int .i64 t1332, .int .i64 t1333, .int .i64 t1334, .slice Ao52 x1347003_6.length co52, .int .i64 t1338, .slice Ao18 t1339.length co18, .slice Ao19 t1342.length co19], .slice Ao73 t1376.length co73] rfl (by (try simp only [List.map_toArray, List.map_cons, List.map_nil]); first | done | rfl | (simp only [List.length_drop, List.length_take]; rfl)) ?_; (with_reducible refine (ship_Level.calls kj48 t1332 t1333 t1334 _ _ x1347003_6 t1338 _ _ t1339 _ _ t1342 _ _ t1376 true t1388 t1389 t1390 _ ?side1 ?side2 ?side3 ?side4 ?side5 ?side6 ?side7 ?side8 A64.out).mono ?_); (case side1 => exact Kd.C_y (Kd.R_reads' HO_1347003.out).2.2); (case side2 => exact (Kd.R_reads' HO_1347003.out).2.1); (case side3 => exact Kd.C_y (Kd.S_reads' HO_1347005.out).2.2); (case side4 => exact (Kd.S_reads' HO_1347005.out).2.1); (case side5 => exact Kd.C_y (Kd.R_reads' HO_1347006.out).2.2); (case side6 => exact (Kd.R_reads' HO_1347006.out).2.1); (case side7 => exact Kd.C_y (Kd.R_reads' HO_6.out).2.2); (case side8 => exact (Kd.R_reads' HO_6.out).2.1); rintro e w74 ⟨rfl, hb⟩; refine ⟨_, rfl, ?_⟩; replace HO_6 := Aside0.mk (Kd.R_below (Kd.R_x HO_6.out) hb); replace HO_1347003 := Aside0.mk (Kd.R_below (Kd.R_x HO_1347003.out) hb); replace HO_1347005 := Aside0.mk (Kd.S_below (Kd.S_x HO_1347005.out) hb); replace HO_1347006 := Aside0.mk (Kd.R_below (Kd.R_x HO_1347006.out) hb); replace HO_1361003 := Aside0.mk (Kd.R_below (Kd.R_x HO_1361003.out) hb); replace HO_1361005 := Aside0.mk (Kd.S_below (Kd.S_x HO_1361005.out) hb); replace HO_1361006 := Aside0.mk (Kd.R_below (Kd.R_x HO_1361006.out) hb); replace BK1346 := Aside0.mk (blk_below (blk_x BK1346.out) hb); replace BK1360 := Aside0.mk (blk_below (blk_x BK1360.out) hb); replace HB := bl_x HB hb; (try clear hb); (try clear hk); (try clear hi)) | ((with_reducible refine gate_dst (N := 13) rfl ?_); refine box_event ?hg (N := 13) ?hd (cs := #[.int .i64 0, .int .i64 0]) (t := 56) ?hr ?_; (case hd => rfl); (case hg => rfl); (case hr => first | (go_simp; done) | (go_simp; rfl)); intro gb1391 hg w75 hbox hb; replace HO_6 := Aside0.mk (Kd.R_below (Kd.R_x HO_6.out) hb); replace HO_1347003 := Aside0.mk (Kd.R_below (Kd.R_x HO_1347003.out) hb); replace HO_1347005 := Aside0.mk (Kd.S_below (Kd.S_x HO_1347005.out) hb); replace HO_1347006 := Aside0.mk (Kd.R_below (Kd.R_x HO_1347006.out) hb); replace HO_1361003 := Aside0.mk (Kd.R_below (Kd.R_x HO_1361003.out) hb); replace HO_1361005 := Aside0.mk (Kd.S_below (Kd.S_x HO_1361005.out) hb); replace HO_1361006 := Aside0.mk (Kd.R_below (Kd.R_x HO_1361006.out) hb); have BK1391 := Aside0.mk (hbox); have GW1391 := Aside0.mk ((by rw [hg]; exact (below_size (by exact below_y HB.out)) : w.heap.size ≤ gb1391)); have GE1391 := Aside0.mk ((by rw [hg]; exact (below_size (by exact below_y HB.out)) : w.heap.size ≤ gb1391)); replace HB := bl_x HB hb; have NB1346_1391 := Aside0.mk ((by rw [hg]; exact Nat.ne_of_lt (blk_lt (g := gb1346) (o := .cells #[.int .i64 t1332, .int .i64 t1333, .int .i64 t1334, .slice Ao52 x1347003_6.length co52, .int .i64 t1338, .slice Ao18 t1339.length co18, .slice Ao19 t1342.length co19] 26 (0, 0)) (blk_x BK1346.out)) : gb1346 ≠ gb1391)); have NB1391_1346 := Aside0.mk ((by rw [hg]; exact Nat.ne_of_gt (blk_lt (g := gb1346) (o := .cells #[.int .i64 t1332, .int .i64 t1333, .int .i64 t1334, .slice Ao52 x1347003_6.length co52, .int .i64 t1338, .slice Ao18 t1339.length co18, .slice Ao19 t1342.length co19] 26 (0, 0)) (blk_x BK1346.out)) : gb1391 ≠ gb1346)); replace BK1346 := Aside0.mk (blk_below (blk_x BK1346.out) hb); have NB1360_1391 := Aside0.mk ((by rw [hg]; exact Nat.ne_of_lt (blk_lt (g := gb1360) (o := .cells #[.int .i64 t1347, .int .i64 t1348, .int .i64 t1349, .slice Ao55 x1361003_6.length co55, .int .i64 t1353, .slice Ao26 t1354.length co26, .slice Ao27 t1357.length co27] 26 (0, 0)) (blk_x BK1360.out)) : gb1360 ≠ gb1391)); have NB1391_1360 := Aside0.mk ((by rw [hg]; exact Nat.ne_of_gt (blk_lt (g := gb1360) (o := .cells #[.int .i64 t1347, .int .i64 t1348, .int .i64 t1349, .slice Ao55 x1361003_6.length co55, .int .i64 t1353, .slice Ao26 t1354.length co26, .slice Ao27 t1357.length co27] 26 (0, 0)) (blk_x BK1360.out)) : gb1391 ≠ gb1360)); replace BK1360 := Aside0.mk (blk_below (blk_x BK1360.out) hb); clear hb hbox hg; have hnb76 := NB1391_1346.out; have hnc76 := NB1346_1391.out; have hnb77 := NB1391_1360.out; have hnc77 := NB1360_1391.out; obtain ⟨_, _⟩ := cz2 BK1391; have hfz78_0 := blk_frozen BK1391.out; obtain ⟨_, _, _, _, _, _, _⟩ := cz7 BK1346; have hfz79_0 := blk_frozen BK1346.out) | ((with_reducible refine gate_callee (f := 22) rfl ?_); refine goesL_ (some 93) rfl rfl Try.func22 (by kernel_rfl) rfl #[.agg #[.int .i64 t1332, .int .i64 t1333, .int .i64 t1334, .slice Ao52 x1347003_6.length co52, .int .i64 t1338, .slice Ao18 t1339.length co18, .slice Ao19 t1342.length co19], .slice Ao73 t1376.length co73] rfl (by (try simp only [List.map_toArray, List.map_cons, List.map_nil]); first | done | rfl | (simp only [List.length_drop, List.length_take]; rfl)) ?_; (with_reducible refine (ship_Sail.calls t1332 t1333 t1334 _ _ x1347003_6 t1338 _ _ t1339 _ _ t1342 _ _ t1376 t1392 t1393 t1396 _ ?side1 ?side2 ?side3 ?side4 ?side5 ?side6 ?side7 ?side8 A65.out).mono ?_); (case side1 => refine (Kd.R_reads' (e := 85) (base := w.heap.size) (ok := fun k_ => some k_ ≠ (.slice Ao55 x1361003_6.length co55 : Value).ownBlock) (n := x1347003_6.length) (c := co52) ?_).2.2; exact (by (with_reducible repeat (first | apply Kd.R_alloc | apply Kd.R_drewN | apply Kd.R_drew)); exact (Kd.R_mono (Kd.R_far (p := ⟨gb1391, 1, none⟩) (Kd.R_far (p := ⟨gb1391, 0, none⟩) (Kd.R_types HO_1347003.out BK1391.out (by decide)) (fun _ hk => hk.2) (.int .i64 t1388)) (fun _ hk => hk.2) (.int .i64 t1389)) (fun _ h_ => h_.1)))); (case side2 => exact (Kd.R_reads' HO_1347003.out).2.1); (case side3 => refine (Kd.S_reads' (e := 59) (base := w.heap.size) (ok := fun k_ => some k_ ≠ (.slice Ao26 t1354.length co26 : Value).ownBlock) (n := t1339.length) (c := co18) ?_).2.2; exact (by (with_reducible repeat (first | apply Kd.S_alloc | apply Kd.S_drewN | apply Kd.S_drew)); exact (Kd.S_mono (Kd.S_far (p := ⟨gb1391, 1, none⟩) (Kd.S_far (p := ⟨gb1391, 0, none⟩) (Kd.S_types HO_1347005.out BK1391.out (by decide)) (fun _ hk => hk.2) (.int .i64 t1388)) (fun _ hk => hk.2) (.int .i64 t1389)) (fun _ h_ => h_.1)))); (case side4 => exact (Kd.S_reads' HO_1347005.out).2.1); (case side5 => refine (Kd.R_reads' (e := 79) (base := w.heap.size) (ok := fun k_ => some k_ ≠ (.slice Ao27 t1357.length co27 : Value).ownBlock) (n := t1342.length) (c := co19) ?_).2.2; exact (by (with_reducible repeat (first | apply Kd.R_alloc | apply Kd.R_drewN | apply Kd.R_drew)); exact (Kd.R_mono (Kd.R_far (p := ⟨gb1391, 1, none⟩) (Kd.R_far (p := ⟨gb1391, 0, none⟩) (Kd.R_types HO_1347006.out BK1391.out (by decide)) (fun _ hk => hk.2) (.int .i64 t1388)) (fun _ hk => hk.2) (.int .i64 t1389)) (fun _ h_ => h_.1)))); (case side6 => exact (Kd.R_reads' HO_1347006.out).2.1); (case side7 => refine (Kd.R_reads' (e := 3) (base := w.heap.size) (ok := fun k_ => True) (n := t1376.length) (c := co73) ?_).2.2; exact (by (with_reducible repeat (first | apply Kd.R_alloc | apply Kd.R_drewN | apply Kd.R_drew)); exact (Kd.R_mono (Kd.R_far (p := ⟨gb1391, 1, none⟩) (Kd.R_far (p := ⟨gb1391, 0, none⟩) (Kd.R_types HO_6.out BK1391.out (by decide)) (fun _ hk => hk.2) (.int .i64 t1388)) (fun _ hk => hk.2) (.int .i64 t1389)) (fun _ h_ => h_.1)))); (case side8 => exact (Kd.R_reads' HO_6.out).2.1); rintro e w80 ⟨v1394, rfl, ho0, hb⟩; refine ⟨_, rfl, ?_⟩; replace HO_6 := Aside0.mk (Kd.R_below (by (with_reducible repeat (first | apply Kd.R_alloc | apply Kd.R_drewN | apply Kd.R_drew)); exact (Kd.R_mono (Kd.R_far (p := ⟨gb1391, 1, none⟩) (Kd.R_far (p := ⟨gb1391, 0, none⟩) (Kd.R_types HO_6.out BK1391.out (by decide)) (fun _ hk => hk.2) (.int .i64 t1388)) (fun _ hk => hk.2) (.int .i64 t1389)) (fun _ h_ => h_.1))) hb); replace HO_1347003 := Aside0.mk (Kd.R_below (by (with_reducible repeat (first | apply Kd.R_alloc | apply Kd.R_drewN | apply Kd.R_drew)); exact (Kd.R_mono (Kd.R_far (p := ⟨gb1391, 1, none⟩) (Kd.R_far (p := ⟨gb1391, 0, none⟩) (Kd.R_types HO_1347003.out BK1391.out (by decide)) (fun _ hk => hk.2) (.int .i64 t1388)) (fun _ hk => hk.2) (.int .i64 t1389)) (fun _ h_ => h_.1))) hb); replace HO_1347005 := Aside0.mk (Kd.S_below (by (with_reducible repeat (first | apply Kd.S_alloc | apply Kd.S_drewN | apply Kd.S_drew)); exact (Kd.S_mono (Kd.S_far (p := ⟨gb1391, 1, none⟩) (Kd.S_far (p := ⟨gb1391, 0, none⟩) (Kd.S_types HO_1347005.out BK1391.out (by decide)) (fun _ hk => hk.2) (.int .i64 t1388)) (fun _ hk => hk.2) (.int .i64 t1389)) (fun _ h_ => h_.1))) hb); replace HO_1347006 := Aside0.mk (Kd.R_below (by (with_reducible repeat (first | apply Kd.R_alloc | apply Kd.R_drewN | apply Kd.R_drew)); exact (Kd.R_mono (Kd.R_far (p := ⟨gb1391, 1, none⟩) (Kd.R_far (p := ⟨gb1391, 0, none⟩) (Kd.R_types HO_1347006.out BK1391.out (by decide)) (fun _ hk => hk.2) (.int .i64 t1388)) (fun _ hk => hk.2) (.int .i64 t1389)) (fun _ h_ => h_.1))) hb); replace HO_1361003 := Aside0.mk (Kd.R_below (by (with_reducible repeat (first | apply Kd.R_alloc | apply Kd.R_drewN | apply Kd.R_drew)); exact (Kd.R_mono (Kd.R_far (p := ⟨gb1391, 1, none⟩) (Kd.R_far (p := ⟨gb1391, 0, none⟩) (Kd.R_types HO_1361003.out BK1391.out (by decide)) (fun _ hk => hk.2) (.int .i64 t1388)) (fun _ hk => hk.2) (.int .i64 t1389)) (fun _ h_ => h_.1))) hb); replace HO_1361005 := Aside0.mk (Kd.S_below (by (with_reducible repeat (first | apply Kd.S_alloc | apply Kd.S_drewN | apply Kd.S_drew)); exact (Kd.S_mono (Kd.S_far (p := ⟨gb1391, 1, none⟩) (Kd.S_far (p := ⟨gb1391, 0, none⟩) (Kd.S_types HO_1361005.out BK1391.out (by decide)) (fun _ hk => hk.2) (.int .i64 t1388)) (fun _ hk => hk.2) (.int .i64 t1389)) (fun _ h_ => h_.1))) hb); replace HO_1361006 := Aside0.mk (Kd.R_below (by (with_reducible repeat (first | apply Kd.R_alloc | apply Kd.R_drewN | apply Kd.R_drew)); exact (Kd.R_mono (Kd.R_far (p := ⟨gb1391, 1, none⟩) (Kd.R_far (p := ⟨gb1391, 0, none⟩) (Kd.R_types HO_1361006.out BK1391.out (by decide)) (fun _ hk => hk.2) (.int .i64 t1388)) (fun _ hk => hk.2) (.int .i64 t1389)) (fun _ h_ => h_.1))) hb); have HO1395 := Aside0.mk (Kd.R_lower (Kd.R_newB ho0 (g := gb1391) (o := .cells #[.int .i64 t1388, .int .i64 t1389] 56 (0, 0)) (by (with_reducible repeat (first | refine blk_drewN ?_ _ | refine blk_drew ?_ | refine blk_alloc ?_ _)); refine blk_put (cs := #[.int .i64 t1388, .int .i64 0]) ?_ 1 _ rfl; (with_reducible repeat (first | refine blk_drewN ?_ _ | refine blk_drew ?_ | refine blk_alloc ?_ _)); refine blk_put (cs := #[.int .i64 0, .int .i64 0]) ?_ 0 _ rfl; (with_reducible repeat (first | refine blk_drewN ?_ _ | refine blk_drew ?_ | refine blk_alloc ?_ _)); exact BK1391.out)) (below_size (by exact below_y HB.out))); replace BK1346 := Aside0.mk (blk_below (g := gb1346) (o := .cells #[.int .i64 t1332, .int .i64 t1333, .int .i64 t1334, .slice Ao52 x1347003_6.length co52, .int .i64 t1338, .slice Ao18 t1339.length co18, .slice Ao19 t1342.length co19] 26 (0, 0)) (blk_w BK1346.out) hb); replace BK1360 := Aside0.mk (blk_below (g := gb1360) (o := .cells #[.int .i64 t1347, .int .i64 t1348, .int .i64 t1349, .slice Ao55 x1361003_6.length co55, .int .i64 t1353, .slice Ao26 t1354.length co26, .slice Ao27 t1357.length co27] 26 (0, 0)) (blk_w BK1360.out) hb); replace BK1391 := Aside0.mk (blk_below (g := gb1391) (o := .cells #[.int .i64 t1388, .int .i64 t1389] 56 (0, 0)) (by (with_reducible repeat (first | refine blk_drewN ?_ _ | refine blk_drew ?_ | refine blk_alloc ?_ _)); refine blk_put (cs := #[.int .i64 t1388, .int .i64 0]) ?_ 1 _ rfl; (with_reducible repeat (first | refine blk_drewN ?_ _ | refine blk_drew ?_ | refine blk_alloc ?_ _)); refine blk_put (cs := #[.int .i64 0, .int .i64 0]) ?_ 0 _ rfl; (with_reducible repeat (first | refine blk_drewN ?_ _ | refine blk_drew ?_ | refine blk_alloc ?_ _)); exact BK1391.out) hb); replace HB := bl_x HB hb; (try clear hb); (try clear hk); (try clear hi); (try clear ho0)) | (go_at_call 15; (with_reducible refine (swarflaw07_awake.calls kj48  t1397 _ A70.out).mono ?_); rintro e w81 ⟨rfl, hb⟩; replace HO_6 := Aside0.mk (Kd.R_below (Kd.R_x HO_6.out) hb); replace HO_1347003 := Aside0.mk (Kd.R_below (Kd.R_x HO_1347003.out) hb); replace HO_1347005 := Aside0.mk (Kd.S_below (Kd.S_x HO_1347005.out) hb); replace HO_1347006 := Aside0.mk (Kd.R_below (Kd.R_x HO_1347006.out) hb); replace HO_1361003 := Aside0.mk (Kd.R_below (Kd.R_x HO_1361003.out) hb); replace HO_1361005 := Aside0.mk (Kd.S_below (Kd.S_x HO_1361005.out) hb); replace HO_1361006 := Aside0.mk (Kd.R_below (Kd.R_x HO_1361006.out) hb); replace HO1395 := Aside0.mk (Kd.R_below (Kd.R_x HO1395.out) hb); replace BK1346 := Aside0.mk (blk_below (blk_x BK1346.out) hb); replace BK1360 := Aside0.mk (blk_below (blk_x BK1360.out) hb); replace BK1391 := Aside0.mk (blk_below (blk_x BK1391.out) hb); replace HB := bl_x HB hb; (try clear hb); (try clear hk); (try clear hi)))
           go_ret
           exact ⟨by first | rfl | (simp [errW_none, errW_some] <;> rfl) | (simp [*, errW_none, errW_some] <;> rfl), by exact below_y HB.out⟩
          ·
           rw [if_neg c69] at H
           have c69b0 : (t1392 == 1) = false := beq_eq_false_iff_ne.mpr c69
           have c69b1 : (t1392 != 1) = true := bne_iff_ne.mpr c69
           exact absurd ((Option.some.inj H).trans hrt.out) (by decide)
         ·
          replace c68 := Bool.eq_false_iff.mpr c68
          subst c68
          have H1 : (some false) = some r := by rw [if_neg (show ¬ (false = true) by decide)] at H; exact H
          clear H
          have H := H1
          clear H1
          exact absurd ((Option.some.inj H).trans hrt.out) (by decide)
        ·
         rw [if_neg c67] at H
         have c67b0 : (t1396 == 0) = false := beq_eq_false_iff_ne.mpr c67
         have c67b1 : (t1396 != 0) = true := bne_iff_ne.mpr c67
         exact absurd ((Option.some.inj H).trans hrt.out) (by decide)
       ·
        rw [if_neg c66] at H
        have c66b0 : (t1390 == 0) = false := beq_eq_false_iff_ne.mpr c66
        have c66b1 : (t1390 != 0) = true := bne_iff_ne.mpr c66
        exact absurd ((Option.some.inj H).trans hrt.out) (by decide)
def swarflaw07_ShipHold.Pure : Prop := ∀ (l0 : List Int), l0.length ≤ maxLen → l0.length * 8 ≤ 140737488351232 → (∀ x ∈ l0, (Lit.int .i64 x).wf = true) → ∃ k, swarflaw07_ShipHold.f k l0 = some true
theorem swarflaw07_ShipHold.walk (P : swarflaw07_ShipHold.Pure) (a0 : Option Addr) (len0 cap0 : Nat) (z0 : List Int) (w : World) (w0 : (a0 = none ∧ len0 = 0 ∧ cap0 = 0 ∧ z0 = []) ∨ ∃ x, a0 = some x ∧ len0 ≤ cap0 ∧ cap0 ≤ maxLen ∧ z0.length = cap0 ∧ (∀ i, i < z0.length → w.cell? (x.add i) = some (.int .i64 (z0.getD i 0))) ∧ ∀ n ∈ z0, (Lit.int .i64 n).wf = true) (y0 : len0 * 8 ≤ 140737488351232) :
  Calls Try.prog 13 #[.slice a0 len0 cap0] w fun e w' => e = .returned (.bool true) ∧ Below w.heap.size w w' := by
 obtain ⟨l0, rfl, hr0, hm0, hw0, hc0⟩ := ReadsInt.ofRowC w0
 obtain ⟨k, h⟩ := P l0 hm0 y0 hw0
 refine (swarflaw07_ShipHold.calls k _ _ l0 true ⟨rfl⟩ w (Kd.C_of_reads (d := (0 : Int)) (h1 := fun _ => rfl) hr0) hc0 h).mono ?_
 rintro e w' ⟨rfl, hd⟩
 exact ⟨rfl, hd⟩
end Go.Proofs.Ytodmemndaaiolaa.PC7
namespace Go.Proofs.Ytodmemndaaiolaa.PC7
set_option linter.unusedVariables false
set_option linter.unusedSimpArgs false
open Go.RowKit Go.Proofs.YtodmemndaaiolaaW.PrintWords Go.Proofs.YtodmemndaaiolaaW.PrintLast Go.Proofs.YtodmemndaaiolaaW.PrintMore
theorem lighter_refl : ∀ s : List Int, Lighter s s
  | [] => trivial
  | a :: s => ⟨.inl rfl, lighter_refl s⟩
theorem sailO_eq {H S L' : Nat} {T L U R V : Int} {holds : List S85} {sills : List S59} {lots : List S79} (h : VoyOK H S L' T L U R holds V sills lots) (hT : T ≤ 1000) (q : Q4) (soon : Bool) : sailO U V sills q soon = sailL (sills.map (plainS soon)) V (needsW U q soon) :=
  sailW_eq hT soon _ sills h.si V h.leaves.1 (by have := h.leaves; omega)
end Go.Proofs.Ytodmemndaaiolaa.PC7
namespace Go.Proofs.Ytodmemndaaiolaa.PC7
open Go.RowKit Go.Proofs.YtodmemndaaiolaaW.PrintWords Go.Proofs.YtodmemndaaiolaaW.PrintLast Go.Proofs.YtodmemndaaiolaaW.PrintMore
attribute [local go_sem] max2_int min2_int max_two min_two max_three min_three max_four min_four
set_option linter.unusedVariables false
set_option linter.unusedSimpArgs false
end Go.Proofs.Ytodmemndaaiolaa.PC7
namespace Go.Proofs.Ytodmemndaaiolaa.PC7
set_option linter.unusedVariables false
set_option linter.unusedSimpArgs false
open Go.RowKit Go.Proofs.YtodmemndaaiolaaW.PrintWords Go.Proofs.YtodmemndaaiolaaW.PrintLast Go.Proofs.YtodmemndaaiolaaW.PrintMore
theorem anyS_l2 (L U R V : Int) (holds : List S85) (sills : List S59) (lots : List S79) (s : List Int) (hs : s.length = lots.length) (hsl : s.length ≤ 1000) (h : Nat) (hn : Int)
    (hk : Res (fun k => ship_checkStowage.l1 k s holds hn (wrap64 ((h : Int) + 1)) L U R holds V sills lots) (fun _ => True)) (d : Nat) :
    ∀ (i : Nat) (c : Int), i + d = s.length → Res (fun k => ship_checkStowage.l2 k s (h : Int) c holds hn (h : Int) s (s.length : Int) (i : Int) L U R holds V sills lots) (fun _ => True) := by
  induction d with
  | zero =>
    intro i c hi
    refine Res.succ ?_
    simp (disch := omega) only [ship_checkStowage.l2, if_neg]
    by_cases hc : c < 0
    · simp only [if_pos hc]; exact Res.now trivial
    · simp only [if_neg hc]; exact hk
  | succ d ih =>
    intro i c hi
    refine Res.succ ?_
    simp (disch := omega) only [ship_checkStowage.l2, if_pos, rdI, rd79]
    rw [wrapS (by omega)]
    by_cases e : s.getD i 0 = (h : Int)
    · simp only [if_pos e]; exact ih (i + 1) _ (by omega)
    · simp only [if_neg e]; exact ih (i + 1) _ (by omega)
theorem anyS_l1 (L U R V : Int) (holds : List S85) (sills : List S59) (lots : List S79) (hh : holds.length ≤ 1000) (s : List Int) (hs : s.length = lots.length) (hsl : s.length ≤ 1000) (d : Nat) :
    ∀ i : Nat, i + d = holds.length → Res (fun k => ship_checkStowage.l1 k s holds (holds.length : Int) (i : Int) L U R holds V sills lots) (fun _ => True) := by
  induction d with
  | zero =>
    intro i hi
    refine Res.succ ?_
    simp (disch := omega) only [ship_checkStowage.l1, if_neg]
    exact Res.now trivial
  | succ d ih =>
    intro i hi
    refine Res.succ ?_
    simp (disch := omega) only [ship_checkStowage.l1, if_pos, rd85]
    refine anyS_l2 L U R V holds sills lots s hs hsl i _ ?_ s.length 0 _ (by omega)
    rw [wrapS (by omega)]
    exact ih (i + 1) (by omega)
theorem anyS_l0 (L U R V : Int) (holds : List S85) (sills : List S59) (lots : List S79) (hh : holds.length ≤ 1000) (s : List Int) (hs : s.length = lots.length) (hsl : s.length ≤ 1000) (hr : ∀ y, y ∈ s → -1 ≤ y ∧ y < (holds.length : Int)) (d : Nat) :
    ∀ i : Nat, i + d = s.length → Res (fun k => ship_checkStowage.l0 k s s (s.length : Int) (i : Int) L U R holds V sills lots) (fun _ => True) := by
  induction d with
  | zero =>
    intro i hi
    refine Res.succ ?_
    simp (disch := omega) only [ship_checkStowage.l0, if_neg]
    exact anyS_l1 L U R V holds sills lots hh s hs hsl holds.length 0 (by omega)
  | succ d ih =>
    intro i hi
    obtain ⟨b1, b2⟩ := hr _ (getD_mem s i 0 (by omega))
    refine Res.succ ?_
    simp (disch := omega) only [ship_checkStowage.l0, if_pos, rdI]
    refine Res.take (in_t b1 (by rw [wrap64_id (by omega) (by omega)]; omega)) ?_
    simp only [if_true]
    rw [wrapS (by omega)]
    exact ih (i + 1) (by omega)
theorem apart_l0 (L U R V : Int) (holds : List S85) (sills : List S59) (lots : List S79) (s : List Int) (hs : s.length = lots.length) (hsl : s.length ≤ 1000) (hr : ∀ y, y ∈ s → -1 ≤ y ∧ y < (holds.length : Int)) (d : Nat) :
    ∀ (i : Nat) (a b : Int), i + d = s.length → Res (fun k => ship_apart.l0 k s (s.length : Int) (i : Int) L U R holds V sills lots a b) (fun _ => True) := by
  induction d with
  | zero =>
    intro i a b hi
    refine Res.succ ?_
    simp (disch := omega) only [ship_apart.l0, if_neg]
    exact Res.now trivial
  | succ d ih =>
    intro i a b hi
    obtain ⟨b1, b2⟩ := hr _ (getD_mem s i 0 (by omega))
    refine Res.succ ?_
    simp (disch := omega) only [ship_apart.l0, if_pos, rdI, rd79]
    rw [wrapS (by omega)]
    by_cases e : s.getD i 0 < 0
    · simp only [if_pos e]; exact ih (i + 1) _ _ (by omega)
    · simp (disch := omega) only [if_neg e, if_pos]; exact ih (i + 1) _ _ (by omega)
theorem level_res (L U R V : Int) (holds : List S85) (sills : List S59) (lots : List S79) (y z : Int) : Res (fun k => ship_level.f k L U R holds V sills lots y z) (fun _ => True) := by
  unfold ship_level.f
  have hg : Res (fun k => ship_greatest.f k z [wrap64 (-y)]) (fun _ => True) := by
    unfold ship_greatest.f
    refine Res.succ ?_
    simp (disch := decide) only [ship_greatest.l0, List.length_singleton, if_pos]
    rw [show wrap64 (0 + 1) = 1 from wrap64_id (n := 0 + 1) (by decide) (by decide)]
    refine Res.succ ?_
    simp (disch := decide) only [ship_greatest.l0, if_neg]
    exact ⟨_, Ev.now _, trivial⟩
  obtain ⟨r, h1, _⟩ := hg
  exact Res.bind h1 (Res.now trivial)
theorem tell {H S L' : Nat} {T L U R V : Int} {holds : List S85} {sills : List S59} {lots : List S79} (h : VoyOK H S L' T L U R holds V sills lots) (hH : H ≤ 3) (hS : S ≤ 4) (hL : L' ≤ 6) (hT : T ≤ 1000) {s : List Int} (hs : s.length = lots.length) (hr : ∀ y, y ∈ s → -1 ≤ y ∧ y < (holds.length : Int)) :
    ∃ e : Int, Ev (fun k => ship_CheckStowage.f k L U R holds V sills lots s) e ∧ (e ≠ 0 → goodO L U R holds V sills lots s = some false) ∧
      (e = 0 → ∃ (b : Bool) (x1 x2 v : Int) (o : List S56), Ev (fun k => ship_Level.f k L U R holds V sills lots s) (b, x1, x2, 0) ∧ ship_Sail.f L U R holds V sills lots s = some (v, o, 0) ∧ goodO L U R holds V sills lots s = some (b && decide (v = 1))) := by
  have hln := h.ln; have hhn := h.hn; have h1 := h.light
  have hw : wrap64 (1000 * L) = 1000 * L := wrap64_id (by omega) (by omega)
  have hq0 : QOK (10000000 + 1500000 * ((0 : Nat) : Int)) ⟨wrap64 (1000 * L), wrap64 (1000 * L), wrap64 (1000 * L), wrap64 (1000 * L)⟩ := by
    rw [hw]; exact ⟨⟨by show 0 ≤ 1000 * L; omega, Int.le_refl _⟩, ⟨by show 0 ≤ 1000 * L; omega, Int.le_refl _⟩, by show 1000 * L ≤ _; omega, by show 1000 * L ≤ _; omega⟩
  obtain ⟨_, Q, _, hQ, _, _, oQ⟩ := ladO_le hT holds lots h.ho h.lo (by omega) s s 0 _ _ (by omega) (lighter_refl s) hr hq0 hq0 ⟨Int.le_refl _, Int.le_refl _, Int.le_refl _, Int.le_refl _⟩
  have hQ' : ladenO L holds lots s = some Q := hQ
  obtain ⟨e, he, _⟩ : Res (fun k => ship_checkStowage.f k L U R holds V sills lots s) (fun _ => True) := by
    unfold ship_checkStowage.f
    simp (disch := omega) only [if_pos]
    exact anyS_l0 L U R V holds sills lots (by omega) s hs (by omega) hr s.length 0 (by omega)
  have hck := check_ev h hH hS hL hT
  have hC : Ev (fun k => ship_CheckStowage.f k L U R holds V sills lots s) e := by
    unfold ship_CheckStowage.f
    refine Ev.bind hck ?_
    simp only [if_true]
    exact Ev.tail he
  have hcs : chkS L U R holds V sills lots s = some e := limO_of he
  refine ⟨e, hC, fun hne => ?_, fun h0 => ?_⟩
  · unfold goodO
    refine Option.bind_eq_some_iff.2 ⟨e, hcs, ?_⟩
    rw [if_neg hne]
  · subst h0
    obtain ⟨⟨x1, x2⟩, hx, _⟩ := apart_l0 L U R V holds sills lots s hs (by omega) hr s.length 0 0 0 (by omega)
    have hx' : Ev (fun k => ship_apart.f k L U R holds V sills lots s) (x1, x2) := hx
    obtain ⟨b, hb, _⟩ := level_res L U R V holds sills lots x1 x2
    have hu : 0 ≤ U ∧ U ≤ 5000 := by have := h.under; omega
    have hv := h.leaves
    have hno : lensOK sills := ⟨by have := h.sn; omega, fun x hx => by obtain ⟨_, _, _, _, a5, _⟩ := h.si x hx; omega⟩
    have n1 := needsW_eq oQ hu true
    have n2 := needsW_eq oQ hu false
    simp only [if_true, Bool.false_eq_true, if_false] at n1 n2
    have b0 := oQ.b0; have b1 := oQ.b1
    have hle : (sailO U V sills Q false).length ≤ (sailO U V sills Q true).length := by
      rw [sailO_eq h hT, sailO_eq h hT]
      exact (sailL_le _ _ V V _ _ (better_soon sills h.si) (sillsOK_of h.si false) (sillsOK_of h.si true) hv.1 (Int.le_refl _) (by omega)).1
    have hbd : (sailO U V sills Q false).length ≤ sills.length := sailW_len _ _ _ _
    refine ⟨b, x1, x2, verdictE sills.length (sailO U V sills Q true) (sailO U V sills Q false), overE (sailO U V sills Q true) (sailO U V sills Q false), ?_, ?_, ?_⟩
    · unfold ship_Level.f
      refine Ev.bind hC ?_
      simp only [if_true]
      refine Ev.bind hx' (Ev.bind hb ?_)
      exact Ev.now _
    · unfold ship_Sail.f
      refine Option.bind_eq_some_iff.2 ⟨_, limO_of hC, ?_⟩
      rw [if_pos rfl, if_pos ⟨by omega, hno⟩]
      refine Option.bind_eq_some_iff.2 ⟨_, hQ', ?_⟩
      unfold sailR
      rw [if_pos hle]
    · unfold goodO
      refine Option.bind_eq_some_iff.2 ⟨0, hcs, ?_⟩
      rw [if_pos rfl]
      refine Option.bind_eq_some_iff.2 ⟨(x1, x2), limO_of hx', ?_⟩
      refine Option.bind_eq_some_iff.2 ⟨b, limO_of hb, ?_⟩
      cases b with
      | false => rfl
      | true =>
        rw [if_pos rfl]
        refine Option.bind_eq_some_iff.2 ⟨Q, hQ', ?_⟩
        unfold verdictE
        by_cases c : (sailO U V sills Q false).length = sills.length
        · rw [if_pos c, decide_eq_false (by omega)]; rfl
        · rw [if_neg c, decide_eq_true (show (sailO U V sills Q false).length < sills.length by omega)]
          by_cases c2 : (sailO U V sills Q true).length < sills.length
          · rw [if_pos c2]; rfl
          · rw [if_neg c2]; rfl
theorem best_ok {H S L' : Nat} {T L U R V : Int} {holds : List S85} {sills : List S59} {lots : List S79} (h : VoyOK H S L' T L U R holds V sills lots) (hH : H ≤ 3) (hS : S ≤ 4) (hL : L' ≤ 6) (hT : T ≤ 1000) :
    ship_Best.f L U R holds V sills lots = some ((bestOf (goodB L U R holds V sills lots) (fun t => worthGo lots 0 t 0) (stowsL holds.length lots.length) ([], -1)).1, (bestOf (goodB L U R holds V sills lots) (fun t => worthGo lots 0 t 0) (stowsL holds.length lots.length) ([], -1)).2, 0) := by
  have hln := h.ln; have hhn := h.hn
  have hno : lensOK sills := ⟨by have := h.sn; omega, fun x hx => by obtain ⟨_, _, _, _, a5, _⟩ := h.si x hx; omega⟩
  unfold ship_Best.f
  refine Option.bind_eq_some_iff.2 ⟨0, limO_of (check_ev h hH hS hL hT), ?_⟩
  have hall : ∀ t, t ∈ stowsL holds.length lots.length → (goodO L U R holds V sills lots t).isSome = true := fun t ht => by
    obtain ⟨h1, h2⟩ := stowsL_mem _ _ t ht
    obtain ⟨e, _, g1, g2⟩ := tell h hH hS hL hT h1 h2
    by_cases e0 : e = 0
    · obtain ⟨_, _, _, _, _, _, _, hg⟩ := g2 e0
      rw [hg]; rfl
    · rw [g1 e0]; rfl
  rw [if_pos rfl, if_pos ⟨by omega, by omega, hno, hall⟩]
def ldS (h : S85) (t : S56) (q : Q4) : Q4 := ⟨q.b0 + t.f0 * h.f1, q.b1 + t.f0 * h.f2, q.h0 + t.f1 * h.f1, q.h1 + t.f1 * h.f2⟩
def ldL (holds : List S85) (lots : List S79) : Nat → List Int → Q4 → Q4
  | _, [], q => q
  | i, a :: r, q => ldL holds lots (i + 1) r (if a < 0 then q else ldS (holds.getD a.toNat z85) (lots.getD i z79).f0 q)
def apS (h : S85) (t : S56) (x : Int × Int) : Int × Int := (x.1 + min (t.f0 * (h.f1 - h.f2)) (t.f1 * (h.f1 - h.f2)), x.2 + max (t.f0 * (h.f1 - h.f2)) (t.f1 * (h.f1 - h.f2)))
def apL (holds : List S85) (lots : List S79) : Nat → List Int → Int × Int → Int × Int
  | _, [], x => x
  | i, a :: r, x => apL holds lots (i + 1) r (if a < 0 then x else apS (holds.getD a.toNat z85) (lots.getD i z79).f0 x)
def q0 (L : Int) : Q4 := ⟨1000 * L, 1000 * L, 1000 * L, 1000 * L⟩
theorem ladS_eq {T B : Int} {h : S85} {c : S79} {q : Q4} (hT : T ≤ 1000) (hh : HoldV T h) (hc : LotV T c) (hB : 0 ≤ B ∧ B ≤ 1000000000000) (hq : QOK B q) : ladS h c.f0 q = ldS h c.f0 q := by
  obtain ⟨a1, a2, a3, a4, a5, a6⟩ := hh
  obtain ⟨c1, c2, c3, c4, c5⟩ := hc
  obtain ⟨⟨q1, q2⟩, ⟨q3, q4⟩, q5, q6⟩ := hq
  have m1 := mul_bd (A := 1000) (B := 1500) c1 (by omega) a3 (by omega)
  have m2 := mul_bd (A := 1000) (B := 1500) c1 (by omega) a5 (by omega)
  have m3 := mul_bd (A := 1000) (B := 1500) (show 0 ≤ c.f0.f1 by omega) (by omega) a3 (by omega)
  have m4 := mul_bd (A := 1000) (B := 1500) (show 0 ≤ c.f0.f1 by omega) (by omega) a5 (by omega)
  unfold ladS ldS
  rw [wrap64_id (n := c.f0.f0 * h.f1) (by omega) (by omega), wrap64_id (n := c.f0.f0 * h.f2) (by omega) (by omega), wrap64_id (n := c.f0.f1 * h.f1) (by omega) (by omega), wrap64_id (n := c.f0.f1 * h.f2) (by omega) (by omega),
    wrap64_id (by omega) (by omega), wrap64_id (by omega) (by omega), wrap64_id (by omega) (by omega), wrap64_id (by omega) (by omega)]
theorem ladO_eq {T : Int} (hT : T ≤ 1000) (holds : List S85) (lots : List S79) (hho : ∀ h, h ∈ holds → HoldV T h) (hlo : ∀ c, c ∈ lots → LotV T c) (hln : lots.length ≤ 1000) :
    ∀ (s : List Int) (i : Nat) (q : Q4), i + s.length = lots.length → (∀ y, y ∈ s → -1 ≤ y ∧ y < (holds.length : Int)) → QOK (10000000 + 1500000 * (i : Int)) q → ladO holds lots i s q = some (ldL holds lots i s q) ∧ QOK 10000000000 (ldL holds lots i s q)
  | [], i, q, hi, _, hq => ⟨rfl, hq.b0, hq.b1, by have := hq.h0; simp at hi; show q.h0 ≤ _; omega, by have := hq.h1; simp at hi; show q.h1 ≤ _; omega⟩
  | a :: s, i, q, hi, hr, hq => by
    have hil : i < lots.length := by simp at hi; omega
    obtain ⟨r1, r2⟩ := hr a (by simp)
    have hr' : ∀ y, y ∈ s → -1 ≤ y ∧ y < (holds.length : Int) := fun y hy => hr y (List.mem_cons_of_mem _ hy)
    have hcl := hlo _ (getD_mem lots i z79 hil)
    have hi' : i + 1 + s.length = lots.length := by simp at hi; omega
    by_cases ha : a < 0
    · simp only [ladO, ldL, if_pos ha]
      exact ladO_eq hT holds lots hho hlo hln s (i + 1) q hi' hr' ⟨hq.b0, hq.b1, by have := hq.h0; omega, by have := hq.h1; omega⟩
    · obtain ⟨g, rfl⟩ := Int.eq_ofNat_of_zero_le (show 0 ≤ a by omega)
      have hho' := hho _ (getD_mem holds g z85 (by omega))
      have e := ladS_eq hT hho' hcl (B := 10000000 + 1500000 * (i : Int)) ⟨by omega, by omega⟩ hq
      obtain ⟨k1, _, _⟩ := ladS_ok hT hho' hcl (B := 10000000 + 1500000 * (i : Int)) ⟨by omega, by omega⟩ hq
      rw [e] at k1
      simp only [ladO, ldL, if_neg ha, if_pos r2, if_pos hil, rd85, rd79, e, Int.toNat_natCast]
      exact ladO_eq hT holds lots hho hlo hln s (i + 1) _ hi' hr' (by rw [show 10000000 + 1500000 * ((i + 1 : Nat) : Int) = 10000000 + 1500000 * (i : Int) + 1500000 by omega]; exact k1)
theorem mn_min (a b : Int) : mn a b = min a b := by
  unfold mn
  by_cases h : b < a
  · rw [if_pos h]; omega
  · rw [if_neg h]; omega
theorem mul_bd2 {a b A B : Int} (h0 : 0 ≤ a) (h1 : a ≤ A) (h2 : -B ≤ b) (h3 : b ≤ B) (hB : 0 ≤ B) : -(A * B) ≤ a * b ∧ a * b ≤ A * B := by
  have k1 := Int.mul_le_mul_of_nonneg_left h3 h0
  have k2 := Int.mul_le_mul_of_nonneg_left h2 h0
  have k3 := Int.mul_le_mul_of_nonneg_right h1 hB
  rw [Int.mul_neg] at k2
  exact ⟨by omega, by omega⟩
theorem apart_eq {T : Int} (hT : T ≤ 1000) (L U R V : Int) (holds : List S85) (sills : List S59) (lots : List S79) (hho : ∀ h, h ∈ holds → HoldV T h) (hlo : ∀ c, c ∈ lots → LotV T c) (s : List Int) (hs : s.length = lots.length) (hsl : s.length ≤ 1000) (hr : ∀ y, y ∈ s → -1 ≤ y ∧ y < (holds.length : Int)) (d : Nat) :
    ∀ (i : Nat) (a b : Int), i + d = s.length → -(1500000 * (i : Int)) ≤ a → a ≤ 1500000 * (i : Int) → -(1500000 * (i : Int)) ≤ b → b ≤ 1500000 * (i : Int) → Ev (fun k => ship_apart.l0 k s (s.length : Int) (i : Int) L U R holds V sills lots a b) (apL holds lots i (s.drop i) (a, b)) := by
  induction d with
  | zero =>
    intro i a b hi _ _ _ _
    refine Ev.succ ?_
    rw [List.drop_of_length_le (by omega)]
    simp (disch := omega) only [ship_apart.l0, if_neg]
    exact Ev.now _
  | succ d ih =>
    intro i a b hi ha1 ha2 hb1 hb2
    have hlt : i < s.length := by omega
    obtain ⟨b1, b2⟩ := hr _ (getD_mem s i 0 hlt)
    have hcl := hlo _ (getD_mem lots i z79 (by omega))
    rw [List.drop_eq_getElem_cons hlt, ← getD_get s i 0 hlt]
    simp only [apL]
    refine Ev.succ ?_
    simp (disch := omega) only [ship_apart.l0, if_pos, rdI, rd79]
    rw [wrapS (by omega)]
    by_cases e : s.getD i 0 < 0
    · simp only [if_pos e]; exact ih (i + 1) _ _ (by omega) (by omega) (by omega) (by omega) (by omega)
    · obtain ⟨g, hg⟩ := Int.eq_ofNat_of_zero_le (show 0 ≤ s.getD i 0 by omega)
      rw [hg] at e b2 ⊢
      have hho' := hho _ (getD_mem holds g z85 (by omega))
      obtain ⟨h1, h2, h3, h4, h5, h6⟩ := hho'
      obtain ⟨c1, c2, c3, c4, c5⟩ := hcl
      have m1 := mul_bd2 (A := 1000) (B := 1500) c1 (by omega) (show -1500 ≤ (holds.getD g z85).f1 - (holds.getD g z85).f2 by omega) (by omega) (by decide)
      have m2 := mul_bd2 (A := 1000) (B := 1500) (show 0 ≤ (lots.getD i z79).f0.f1 by omega) (by omega) (show -1500 ≤ (holds.getD g z85).f1 - (holds.getD g z85).f2 by omega) (by omega) (by decide)
      simp (disch := omega) only [if_neg e, if_pos, rd85, Int.toNat_natCast, apS]
      rw [wrap64_id (n := (holds.getD g z85).f1 - (holds.getD g z85).f2) (by omega) (by omega)]
      generalize (holds.getD g z85).f1 - (holds.getD g z85).f2 = u at *
      generalize (lots.getD i z79).f0.f0 * u = p at *
      generalize (lots.getD i z79).f0.f1 * u = q at *
      rw [wrap64_id (n := p) (by omega) (by omega), wrap64_id (n := q) (by omega) (by omega), mn_min, mx_max, wrap64_id (n := a + min p q) (by omega) (by omega), wrap64_id (n := b + max p q) (by omega) (by omega)]
      exact ih (i + 1) _ _ (by omega) (by omega) (by omega) (by omega) (by omega)
theorem apL_bd {T : Int} (hT : T ≤ 1000) (holds : List S85) (lots : List S79) (hho : ∀ h, h ∈ holds → HoldV T h) (hlo : ∀ c, c ∈ lots → LotV T c) (hln : lots.length ≤ 1000) :
    ∀ (s : List Int) (i : Nat) (x : Int × Int), i + s.length = lots.length → (∀ y, y ∈ s → -1 ≤ y ∧ y < (holds.length : Int)) → -(1500000 * (i : Int)) ≤ x.1 → x.1 ≤ x.2 → x.2 ≤ 1500000 * (i : Int) →
      -1500000000 ≤ (apL holds lots i s x).1 ∧ (apL holds lots i s x).1 ≤ (apL holds lots i s x).2 ∧ (apL holds lots i s x).2 ≤ 1500000000
  | [], i, x, hi, _, h1, h2, h3 => by simp at hi; exact ⟨by show _ ≤ x.1; omega, h2, by show x.2 ≤ _; omega⟩
  | a :: s, i, x, hi, hr, h1, h2, h3 => by
    have hil : i < lots.length := by simp at hi; omega
    obtain ⟨r1, r2⟩ := hr a (by simp)
    have hr' : ∀ y, y ∈ s → -1 ≤ y ∧ y < (holds.length : Int) := fun y hy => hr y (List.mem_cons_of_mem _ hy)
    have hcl := hlo _ (getD_mem lots i z79 hil)
    have hi' : i + 1 + s.length = lots.length := by simp at hi; omega
    simp only [apL]
    by_cases ha : a < 0
    · simp only [if_pos ha]
      exact apL_bd hT holds lots hho hlo hln s (i + 1) x hi' hr' (by omega) h2 (by omega)
    · obtain ⟨g, rfl⟩ := Int.eq_ofNat_of_zero_le (show 0 ≤ a by omega)
      have hho' := hho _ (getD_mem holds g z85 (by omega))
      obtain ⟨k1, k2, k3, k4, k5, k6⟩ := hho'
      obtain ⟨c1, c2, c3, c4, c5⟩ := hcl
      have m1 := mul_bd2 (A := 1000) (B := 1500) c1 (by omega) (show -1500 ≤ (holds.getD g z85).f1 - (holds.getD g z85).f2 by omega) (by omega) (by decide)
      have m2 := mul_bd2 (A := 1000) (B := 1500) (show 0 ≤ (lots.getD i z79).f0.f1 by omega) (by omega) (show -1500 ≤ (holds.getD g z85).f1 - (holds.getD g z85).f2 by omega) (by omega) (by decide)
      simp only [if_neg ha, Int.toNat_natCast]
      refine apL_bd hT holds lots hho hlo hln s (i + 1) _ hi' hr' ?_ ?_ ?_ <;> simp only [apS] <;> omega
def roomOK (holds : List S85) (lots : List S79) (s : List Int) : Prop := ∀ h : Nat, h < holds.length → used lots h 0 s ≤ (holds.getD h z85).f0
theorem room_l2 (L U R V : Int) (holds : List S85) (sills : List S59) (lots : List S79) {T : Int} (ho : ∀ c, c ∈ lots → LotV T c) (hT : T ≤ 1000) (P : Int → Prop) (s : List Int) (hs : s.length = lots.length) (hsl : s.length ≤ 1000) (h : Nat) (c0 : Int) (hn : Int) (hP : ¬ used lots h 0 s ≤ c0 → P 13)
    (hk : used lots h 0 s ≤ c0 → Res (fun k => ship_checkStowage.l1 k s holds hn (wrap64 ((h : Int) + 1)) L U R holds V sills lots) P) (d : Nat) :
    ∀ (i : Nat) (c : Int), i + d = s.length → c - used lots h i (s.drop i) = c0 - used lots h 0 s → -5000000 - 1000 * (i : Int) ≤ c ∧ c ≤ 5000000 → Res (fun k => ship_checkStowage.l2 k s (h : Int) c holds hn (h : Int) s (s.length : Int) (i : Int) L U R holds V sills lots) P := by
  induction d with
  | zero =>
    intro i c hi he hb
    refine Res.succ ?_
    rw [List.drop_of_length_le (by omega)] at he
    simp only [used] at he
    simp (disch := omega) only [ship_checkStowage.l2, if_neg]
    by_cases hc : c < 0
    · simp only [if_pos hc]; exact Res.now (hP (by omega))
    · simp only [if_neg hc]; exact hk (by omega)
  | succ d ih =>
    intro i c hi he hb
    have hlt : i < s.length := by omega
    obtain ⟨b1, b2, b3, b4, b5⟩ := ho _ (getD_mem lots i z79 (by omega))
    rw [List.drop_eq_getElem_cons hlt, ← getD_get s i 0 hlt] at he
    simp only [used] at he
    refine Res.succ ?_
    simp (disch := omega) only [ship_checkStowage.l2, if_pos, rdI, rd79]
    rw [wrapS (by omega)]
    by_cases e : s.getD i 0 = (h : Int)
    · simp only [if_pos e] at he ⊢
      rw [wrap64_id (by omega) (by omega)]
      exact ih (i + 1) _ (by omega) (by omega) (by omega)
    · simp only [if_neg e] at he ⊢
      exact ih (i + 1) _ (by omega) (by omega) (by omega)
theorem room_l1 (L U R V : Int) (holds : List S85) (sills : List S59) (lots : List S79) {T : Int} (ho : ∀ c, c ∈ lots → LotV T c) (hT : T ≤ 1000) (hd : ∀ h, h ∈ holds → HoldV T h) (hh : holds.length ≤ 1000) (s : List Int) (hs : s.length = lots.length) (hsl : s.length ≤ 1000) (d : Nat) :
    ∀ i : Nat, i + d = holds.length → (∀ h : Nat, h < i → used lots h 0 s ≤ (holds.getD h z85).f0) → Res (fun k => ship_checkStowage.l1 k s holds (holds.length : Int) (i : Int) L U R holds V sills lots) (fun e => e = 0 ↔ roomOK holds lots s) := by
  induction d with
  | zero =>
    intro i hi hr
    refine Res.succ ?_
    simp (disch := omega) only [ship_checkStowage.l1, if_neg]
    exact Res.now (show (0 : Int) = 0 ↔ _ from ⟨fun _ h hh => hr h (by omega), fun _ => rfl⟩)
  | succ d ih =>
    intro i hi hr
    obtain ⟨b1, b2, _⟩ := hd _ (getD_mem holds i z85 (by omega))
    refine Res.succ ?_
    simp (disch := omega) only [ship_checkStowage.l1, if_pos, rd85]
    refine room_l2 L U R V holds sills lots ho hT _ s hs hsl i _ _ (fun hne => ?_) (fun hle => ?_) s.length 0 _ (by omega) (by rw [List.drop_zero]) (by omega)
    · exact ⟨fun h => absurd h (by decide), fun h => absurd (h i (by omega)) hne⟩
    · rw [wrapS (by omega)]
      refine ih (i + 1) (by omega) (fun h hh => ?_)
      by_cases e : h = i
      · subst e; exact hle
      · exact hr h (by omega)
theorem room_l0 (L U R V : Int) (holds : List S85) (sills : List S59) (lots : List S79) {T : Int} (ho : ∀ c, c ∈ lots → LotV T c) (hT : T ≤ 1000) (hd : ∀ h, h ∈ holds → HoldV T h) (hh : holds.length ≤ 1000) (s : List Int) (hs : s.length = lots.length) (hsl : s.length ≤ 1000) (hr : ∀ y, y ∈ s → -1 ≤ y ∧ y < (holds.length : Int)) (d : Nat) :
    ∀ i : Nat, i + d = s.length → Res (fun k => ship_checkStowage.l0 k s s (s.length : Int) (i : Int) L U R holds V sills lots) (fun e => e = 0 ↔ roomOK holds lots s) := by
  induction d with
  | zero =>
    intro i hi
    refine Res.succ ?_
    simp (disch := omega) only [ship_checkStowage.l0, if_neg]
    exact room_l1 L U R V holds sills lots ho hT hd hh s hs hsl holds.length 0 (by omega) (fun h hh => by omega)
  | succ d ih =>
    intro i hi
    obtain ⟨b1, b2⟩ := hr _ (getD_mem s i 0 (by omega))
    refine Res.succ ?_
    simp (disch := omega) only [ship_checkStowage.l0, if_pos, rdI]
    refine Res.take (in_t b1 (by rw [wrap64_id (by omega) (by omega)]; omega)) ?_
    simp only [if_true]
    rw [wrapS (by omega)]
    exact ih (i + 1) (by omega)
theorem level_ev (L U R V : Int) (holds : List S85) (sills : List S59) (lots : List S79) (y z : Int) (hy : -1500000000 ≤ y ∧ y ≤ 1500000000) (hR : 0 ≤ R ∧ R ≤ 40) : Ev (fun k => ship_level.f k L U R holds V sills lots y z) (decide (max z (-y) ≤ 1000 * R)) := by
  have hg : Ev (fun k => ship_greatest.f k z [wrap64 (-y)]) (max z (-y)) := by
    unfold ship_greatest.f
    refine Ev.succ ?_
    simp (disch := decide) only [ship_greatest.l0, List.length_singleton, if_pos]
    rw [show wrap64 (0 + 1) = 1 from wrap64_id (n := 0 + 1) (by decide) (by decide)]
    refine Ev.succ ?_
    simp (disch := decide) only [ship_greatest.l0, if_neg]
    rw [wrap64_id (n := -y) (by omega) (by omega)]
    have : rd [-y] 0 = -y := rfl
    rw [this, mx_max]
    exact Ev.now _
  unfold ship_level.f
  refine Ev.bind hg ?_
  rw [wrap64_id (n := 1000 * R) (by omega) (by omega)]
  exact Ev.now _
def wayL (U V : Int) (sills : List S59) (q : Q4) (soon : Bool) : List Int := sailL (sills.map (plainS soon)) V (max (if soon then q.b0 else q.h0) (if soon then q.b1 else q.h1) + 1000 * U)
structure Told (L U R : Int) (holds : List S85) (V : Int) (sills : List S59) (lots : List S79) (s : List Int) (q : Q4) (x : Int × Int) : Prop where
  qe : q = ldL holds lots 0 s (q0 L)
  xe : x = apL holds lots 0 s (0, 0)
  qok : QOK 10000000000 q
  xok : -1500000000 ≤ x.1 ∧ x.1 ≤ x.2 ∧ x.2 ≤ 1500000000
  le : (wayL U V sills q false).length ≤ (wayL U V sills q true).length
  top : (wayL U V sills q true).length ≤ sills.length
  good : goodB L U R holds V sills lots s = true ↔ (roomOK holds lots s ∧ max x.2 (-x.1) ≤ 1000 * R ∧ (wayL U V sills q false).length = sills.length)
  drafts : roomOK holds lots s → ship_Drafts.f L U R holds V sills lots s = some (q.b0, q.h0, q.b1, q.h1, 0)
  level : roomOK holds lots s → Ev (fun k => ship_Level.f k L U R holds V sills lots s) (decide (max x.2 (-x.1) ≤ 1000 * R), x.1, x.2, 0)
  sail : roomOK holds lots s → ship_Sail.f L U R holds V sills lots s = some (verdictE sills.length (wayL U V sills q true) (wayL U V sills q false), overE (wayL U V sills q true) (wayL U V sills q false), 0)
theorem told {H S L' : Nat} {T L U R V : Int} {holds : List S85} {sills : List S59} {lots : List S79} (h : VoyOK H S L' T L U R holds V sills lots) (hH : H ≤ 3) (hS : S ≤ 4) (hL : L' ≤ 6) (hT : T ≤ 1000) {s : List Int} (hs : s.length = lots.length) (hr : ∀ y, y ∈ s → -1 ≤ y ∧ y < (holds.length : Int)) :
    ∃ q x, Told L U R holds V sills lots s q x := by
  have hln := h.ln; have hhn := h.hn; have h1 := h.light; have h3 := h.trim
  have hw : wrap64 (1000 * L) = 1000 * L := wrap64_id (by omega) (by omega)
  have hq0 : QOK (10000000 + 1500000 * ((0 : Nat) : Int)) (q0 L) := ⟨⟨by show 0 ≤ 1000 * L; omega, Int.le_refl _⟩, ⟨by show 0 ≤ 1000 * L; omega, Int.le_refl _⟩, by show 1000 * L ≤ _; omega, by show 1000 * L ≤ _; omega⟩
  obtain ⟨hQ, oQ⟩ := ladO_eq hT holds lots h.ho h.lo (by omega) s 0 (q0 L) (by omega) hr hq0
  have hX := apart_eq hT L U R V holds sills lots h.ho h.lo s hs (by omega) hr s.length 0 0 0 (by omega) (by omega) (by omega) (by omega) (by omega)
  rw [List.drop_zero] at hX
  have oX := apL_bd hT holds lots h.ho h.lo (by omega) s 0 (0, 0) (by omega) hr (by omega) (by omega) (by omega)
  obtain ⟨q, hq⟩ : ∃ q, q = ldL holds lots 0 s (q0 L) := ⟨_, rfl⟩
  obtain ⟨x, hx⟩ : ∃ x, x = apL holds lots 0 s (0, 0) := ⟨_, rfl⟩
  rw [← hq] at hQ oQ
  rw [← hx] at hX oX
  have hQ' : ladenO L holds lots s = some q := by
    unfold ladenO; rw [hw]; exact hQ
  have hlv := level_ev L U R V holds sills lots x.1 x.2 ⟨oX.1, by omega⟩ ⟨h3.1, h3.2⟩
  have hu : 0 ≤ U ∧ U ≤ 5000 := by have := h.under; omega
  have hv := h.leaves
  have hno : lensOK sills := ⟨by have := h.sn; omega, fun x hx => by obtain ⟨_, _, _, _, a5, _⟩ := h.si x hx; omega⟩
  have hwy : ∀ soon, sailO U V sills q soon = wayL U V sills q soon := fun soon => by rw [sailO_eq h hT, needsW_eq oQ hu]; rfl
  have b0 := oQ.b0; have b1 := oQ.b1
  have hle : (wayL U V sills q false).length ≤ (wayL U V sills q true).length := by
    refine (sailL_le _ _ V V _ _ (better_soon sills h.si) (sillsOK_of h.si false) (sillsOK_of h.si true) hv.1 (Int.le_refl _) ?_).1
    simp only [if_true, Bool.false_eq_true, if_false]
    omega
  have htop : (wayL U V sills q true).length ≤ sills.length := by rw [← hwy]; exact sailW_len _ _ _ _
  obtain ⟨e, he, hroom⟩ : Res (fun k => ship_checkStowage.f k L U R holds V sills lots s) (fun e => e = 0 ↔ roomOK holds lots s) := by
    unfold ship_checkStowage.f
    simp (disch := omega) only [if_pos]
    exact room_l0 L U R V holds sills lots h.lo hT h.ho (by omega) s hs (by omega) hr s.length 0 (by omega)
  have hC : Ev (fun k => ship_CheckStowage.f k L U R holds V sills lots s) e := by
    unfold ship_CheckStowage.f
    refine Ev.bind (check_ev h hH hS hL hT) ?_
    simp only [if_true]
    exact Ev.tail he
  have hcs : chkS L U R holds V sills lots s = some e := limO_of he
  refine ⟨q, x, hq, hx, oQ, oX, hle, htop, ?_, fun hrm => ?_, fun hrm => ?_, fun hrm => ?_⟩
  · by_cases e0 : e = 0
    · subst e0
      have hg : goodO L U R holds V sills lots s = some (decide (max x.2 (-x.1) ≤ 1000 * R) && decide ((wayL U V sills q false).length = sills.length)) := by
        unfold goodO
        refine Option.bind_eq_some_iff.2 ⟨0, hcs, ?_⟩
        rw [if_pos rfl]
        refine Option.bind_eq_some_iff.2 ⟨x, limO_of hX, ?_⟩
        refine Option.bind_eq_some_iff.2 ⟨_, limO_of hlv, ?_⟩
        by_cases hlev : max x.2 (-x.1) ≤ 1000 * R
        · rw [decide_eq_true hlev, if_pos rfl]
          refine Option.bind_eq_some_iff.2 ⟨q, hQ', ?_⟩
          rw [hwy]
          by_cases c : (wayL U V sills q false).length = sills.length
          · rw [decide_eq_true c, decide_eq_false (by omega)]; rfl
          · rw [decide_eq_false c, decide_eq_true (by omega)]; rfl
        · rw [decide_eq_false hlev, if_neg (by simp)]; rfl
      unfold goodB
      rw [hg]
      simp only [Option.getD_some, Bool.and_eq_true, decide_eq_true_eq]
      exact ⟨fun ⟨a, b⟩ => ⟨hroom.1 rfl, a, b⟩, fun ⟨_, a, b⟩ => ⟨a, b⟩⟩
    · have hg : goodO L U R holds V sills lots s = some false := by
        unfold goodO
        refine Option.bind_eq_some_iff.2 ⟨e, hcs, ?_⟩
        rw [if_neg e0]
      unfold goodB
      rw [hg]
      exact ⟨fun h => absurd h (by decide), fun ⟨a, _⟩ => absurd (hroom.2 a) e0⟩
  · obtain rfl := hroom.2 hrm
    unfold ship_Drafts.f
    refine Option.bind_eq_some_iff.2 ⟨_, limO_of hC, ?_⟩
    rw [if_pos rfl, if_pos (by omega)]
    exact Option.bind_eq_some_iff.2 ⟨_, hQ', rfl⟩
  · obtain rfl := hroom.2 hrm
    unfold ship_Level.f
    refine Ev.bind hC ?_
    simp only [if_true]
    refine Ev.bind hX (Ev.bind hlv ?_)
    exact Ev.now _
  · obtain rfl := hroom.2 hrm
    unfold ship_Sail.f
    refine Option.bind_eq_some_iff.2 ⟨_, limO_of hC, ?_⟩
    rw [if_pos rfl, if_pos ⟨by omega, hno⟩]
    refine Option.bind_eq_some_iff.2 ⟨_, hQ', ?_⟩
    unfold sailR
    rw [hwy, hwy, if_pos hle]
theorem bestOf_ge (good : List Int → Bool) (worth : List Int → Int) : ∀ (L : List (List Int)) (b : List Int × Int), b.2 ≤ (bestOf good worth L b).2 ∧ ∀ t, t ∈ L → good t = true → worth t ≤ (bestOf good worth L b).2
  | [], b => ⟨Int.le_refl _, fun t ht => by cases ht⟩
  | u :: L, b => by
    obtain ⟨c, hc⟩ : ∃ c, c = (if good u = true then (if b.2 < worth u then (u, worth u) else b) else b) := ⟨_, rfl⟩
    have e : bestOf good worth (u :: L) b = bestOf good worth L c := by rw [hc]; rfl
    obtain ⟨h1, h2⟩ := bestOf_ge good worth L c
    rw [e]
    have hb : b.2 ≤ c.2 ∧ (good u = true → worth u ≤ c.2) := by
      rw [hc]
      by_cases hg : good u = true
      · rw [if_pos hg]
        by_cases hw : b.2 < worth u
        · rw [if_pos hw]; exact ⟨Int.le_of_lt hw, fun _ => Int.le_refl _⟩
        · rw [if_neg hw]; exact ⟨Int.le_refl _, fun _ => Int.not_lt.1 hw⟩
      · rw [if_neg hg]; exact ⟨Int.le_refl _, fun h => absurd h hg⟩
    refine ⟨Int.le_trans hb.1 h1, fun t ht hg => ?_⟩
    rcases List.mem_cons.1 ht with rfl | ht
    · exact Int.le_trans (hb.2 hg) h1
    · exact h2 t ht hg
theorem bestOf_from (good : List Int → Bool) (worth : List Int → Int) : ∀ (L : List (List Int)) (b : List Int × Int), bestOf good worth L b = b ∨ ∃ t, t ∈ L ∧ good t = true ∧ bestOf good worth L b = (t, worth t)
  | [], b => .inl rfl
  | u :: L, b => by
    obtain ⟨c, hc⟩ : ∃ c, c = (if good u = true then (if b.2 < worth u then (u, worth u) else b) else b) := ⟨_, rfl⟩
    have e : bestOf good worth (u :: L) b = bestOf good worth L c := by rw [hc]; rfl
    rw [e]
    rcases bestOf_from good worth L c with h | ⟨t, h1, h2, h3⟩
    · rw [h]
      by_cases hg : good u = true
      · rw [if_pos hg] at hc
        by_cases hw : b.2 < worth u
        · rw [if_pos hw] at hc; exact .inr ⟨u, List.mem_cons_self .., hg, hc⟩
        · rw [if_neg hw] at hc; exact .inl hc
      · rw [if_neg hg] at hc; exact .inl hc
    · exact .inr ⟨t, List.mem_cons_of_mem _ h1, h2, h3⟩
theorem stowsL_of (H : Nat) : ∀ (n : Nat) (t : List Int), t.length = n → (∀ y, y ∈ t → -1 ≤ y ∧ y < (H : Int)) → t ∈ stowsL H n
  | 0, t, hl, _ => by
    obtain rfl := List.eq_nil_of_length_eq_zero hl
    simp [stowsL]
  | n + 1, [], hl, _ => by simp at hl
  | n + 1, a :: t, hl, hr => by
    obtain ⟨h1, h2⟩ := hr a (by simp)
    have ih := stowsL_of H n t (by simpa using hl) (fun y hy => hr y (List.mem_cons_of_mem _ hy))
    simp only [stowsL, List.mem_flatMap, List.mem_range, List.mem_map]
    refine ⟨(a + 1).toNat, by omega, t, ih, ?_⟩
    rw [show (((a + 1).toNat : Nat) : Int) - 1 = a by omega]
theorem VoyOK.mono {H S L' H' S' L2 : Nat} {T T' L U R V : Int} {holds : List S85} {sills : List S59} {lots : List S79} (h : VoyOK H S L' T L U R holds V sills lots) (h1 : H ≤ H') (h2 : S ≤ S') (h3 : L' ≤ L2) (h4 : T ≤ T') : VoyOK H' S' L2 T' L U R holds V sills lots :=
  ⟨h.light, h.under, h.trim, h.leaves, ⟨h.hn.1, Nat.le_trans h.hn.2 h1⟩, fun x hx => by obtain ⟨a, b, c⟩ := h.ho x hx; exact ⟨a, by omega, c⟩, Nat.le_trans h.sn h2,
    fun x hx => by
      obtain ⟨a, b, c, d, e, fr, hl⟩ := h.si x hx
      exact ⟨a, b, c, d, e, fr, fun i hi => by obtain ⟨p, q, r, s, t⟩ := hl.bd i hi; exact ⟨p, q, r, s, by omega⟩, hl.up, hl.zero, hl.first, hl.lim⟩,
    Nat.le_trans h.ln h3, fun x hx => by obtain ⟨a, b, c, d⟩ := h.lo x hx; exact ⟨a, b, by omega, d⟩⟩
structure HoldsLE (a b : List S85) : Prop where
  len : a.length ≤ b.length
  eq : ∀ g : Nat, g < a.length → (b.getD g z85).f1 = (a.getD g z85).f1 ∧ (b.getD g z85).f2 = (a.getD g z85).f2 ∧ (a.getD g z85).f0 ≤ (b.getD g z85).f0
  more : ∀ g : Nat, a.length ≤ g → g < b.length → 0 ≤ (b.getD g z85).f0
theorem ldL_holds {a b : List S85} (h : HoldsLE a b) (lots : List S79) : ∀ (s : List Int) (i : Nat) (q : Q4), (∀ y, y ∈ s → -1 ≤ y ∧ y < (a.length : Int)) → ldL b lots i s q = ldL a lots i s q
  | [], _, _, _ => rfl
  | x :: s, i, q, hr => by
    have ih := ldL_holds h lots s
    obtain ⟨h1, h2⟩ := hr x (by simp)
    have hr' : ∀ y, y ∈ s → -1 ≤ y ∧ y < (a.length : Int) := fun y hy => hr y (List.mem_cons_of_mem _ hy)
    simp only [ldL]
    rw [ih _ _ hr']
    by_cases hx : x < 0
    · simp only [if_pos hx]
    · obtain ⟨e1, e2, _⟩ := h.eq x.toNat (by omega)
      simp only [if_neg hx, ldS, e1, e2]
theorem apL_holds {a b : List S85} (h : HoldsLE a b) (lots : List S79) : ∀ (s : List Int) (i : Nat) (q : Int × Int), (∀ y, y ∈ s → -1 ≤ y ∧ y < (a.length : Int)) → apL b lots i s q = apL a lots i s q
  | [], _, _, _ => rfl
  | x :: s, i, q, hr => by
    have ih := apL_holds h lots s
    obtain ⟨h1, h2⟩ := hr x (by simp)
    have hr' : ∀ y, y ∈ s → -1 ≤ y ∧ y < (a.length : Int) := fun y hy => hr y (List.mem_cons_of_mem _ hy)
    simp only [apL]
    rw [ih _ _ hr']
    by_cases hx : x < 0
    · simp only [if_pos hx]
    · obtain ⟨e1, e2, _⟩ := h.eq x.toNat (by omega)
      simp only [if_neg hx, apS, e1, e2]
theorem used_none (lots : List S79) (h : Int) : ∀ (s : List Int) (i : Nat), (∀ y, y ∈ s → y ≠ h) → used lots h i s = 0
  | [], _, _ => rfl
  | x :: s, i, hr => by
    simp only [used]
    rw [if_neg (hr x (by simp)), used_none lots h s (i + 1) (fun y hy => hr y (List.mem_cons_of_mem _ hy))]
    rfl
theorem room_holds {a b : List S85} (h : HoldsLE a b) (lots : List S79) {s : List Int} (hr : ∀ y, y ∈ s → -1 ≤ y ∧ y < (a.length : Int)) (hs : roomOK a lots s) : roomOK b lots s := fun g hg => by
  by_cases hlt : g < a.length
  · have h1 := hs g hlt
    have h2 := (h.eq g hlt).2.2
    omega
  · rw [used_none lots g s 0 (fun y hy e => by have := (hr y hy).2; omega)]
    exact h.more g (by omega) hg
theorem best_holds {H S L' : Nat} {T L U R V : Int} {a b : List S85} {sills : List S59} {lots : List S79} (hv : VoyOK H S L' T L U R a V sills lots) (hx : VoyOK H S L' T L U R b V sills lots) (hH : H ≤ 3) (hS : S ≤ 4) (hL : L' ≤ 6) (hT : T ≤ 1000) (h : HoldsLE a b) :
    ∃ (s s' : List Int) (m n : Int), ship_Best.f L U R a V sills lots = some (s, m, 0) ∧ ship_Best.f L U R b V sills lots = some (s', n, 0) ∧ m ≤ n ∧ -1 ≤ m ∧
      (0 ≤ m → s.length = lots.length ∧ (∀ y, y ∈ s → -1 ≤ y ∧ y < (a.length : Int)) ∧ goodB L U R a V sills lots s = true) := by
  have hln := hv.ln
  have hbd := best_ok hv hH hS hL hT
  have hbx := best_ok hx hH hS hL hT
  obtain ⟨B, hB⟩ : ∃ B, B = bestOf (goodB L U R a V sills lots) (fun t => worthGo lots 0 t 0) (stowsL a.length lots.length) ([], -1) := ⟨_, rfl⟩
  obtain ⟨C, hC⟩ : ∃ C, C = bestOf (goodB L U R b V sills lots) (fun t => worthGo lots 0 t 0) (stowsL b.length lots.length) ([], -1) := ⟨_, rfl⟩
  have hB2 : -1 ≤ B.2 := by rw [hB]; exact (bestOf_ge _ _ _ _).1
  obtain ⟨hC2, hC3⟩ := bestOf_ge (goodB L U R b V sills lots) (fun t => worthGo lots 0 t 0) (stowsL b.length lots.length) ([], -1)
  have hfrom := bestOf_from (goodB L U R a V sills lots) (fun t => worthGo lots 0 t 0) (stowsL a.length lots.length) ([], -1)
  rw [← hB] at hbd hfrom
  rw [← hC] at hbx hC2 hC3
  refine ⟨B.1, C.1, B.2, C.2, hbd, hbx, ?_, hB2, fun h0 => ?_⟩
  · rcases hfrom with e | ⟨t, ht, hg, e⟩
    · rw [e]; exact hC2
    · rw [e]
      obtain ⟨m1, m2⟩ := stowsL_mem _ _ t ht
      have m2' : ∀ y, y ∈ t → -1 ≤ y ∧ y < (b.length : Int) := fun y hy => by have := m2 y hy; have := h.len; omega
      refine hC3 t (stowsL_of _ _ t m1 m2') ?_
      obtain ⟨q, x, tv⟩ := told hv hH hS hL hT m1 m2
      obtain ⟨q', x', tx⟩ := told hx hH hS hL hT m1 m2'
      obtain ⟨g1, g2, g3⟩ := tv.good.1 hg
      have eq : q' = q := by rw [tv.qe, tx.qe, ldL_holds h lots t 0 _ m2]
      have ex : x' = x := by rw [tv.xe, tx.xe, apL_holds h lots t 0 _ m2]
      rw [tx.good, eq, ex]
      exact ⟨room_holds h lots m2 g1, g2, g3⟩
  · rcases hfrom with e | ⟨t, ht, hg, e⟩
    · rw [e] at h0; exact absurd h0 (by decide)
    · rw [e]
      obtain ⟨m1, m2⟩ := stowsL_mem _ _ t ht
      exact ⟨m1, m2, hg⟩
theorem often_ok (s n : Int) (h1 : 1 ≤ n) (h : n ≤ 1000000000) (m : Int) : ∃ b s', swarfkit_Feed_Often.f s m n = some (b, s') := by
  obtain ⟨r, s', e, _⟩ := below_ok s n h1 h
  exact ⟨_, _, by unfold swarfkit_Feed_Often.f; rw [e]; rfl⟩
theorem copy_ok {H S L' : Nat} {T L U R V : Int} {holds : List S85} {sills : List S59} {lots : List S79} (h : VoyOK H S L' T L U R holds V sills lots) (hH : H ≤ 100) (hS : S ≤ 100) (hL : L' ≤ 100) : swarfkit_CopyVoyage.f L U R holds V sills lots = some (L, U, R, holds, V, sills, lots) := by
  unfold swarfkit_CopyVoyage.f
  have h1 := h.hn; have h2 := h.sn; have h3 := h.ln
  rw [if_pos ⟨by omega, by omega, by omega, fun x hx => by obtain ⟨_, _, _, _, a5, _⟩ := h.si x hx; omega⟩]
end Go.Proofs.Ytodmemndaaiolaa.PC7
namespace Go.Proofs.Ytodmemndaaiolaa.Pure
set_option linter.unusedVariables false
set_option linter.unusedSimpArgs false
open Go.RowKit Go.Proofs.Ytodmemndaaiolaa.PC7 Go.Proofs.YtodmemndaaiolaaW.PrintWords Go.Proofs.YtodmemndaaiolaaW.PrintLast Go.Proofs.YtodmemndaaiolaaW.PrintMore
theorem hold_end {L U R V : Int} {a b : List S85} {sills : List S59} {lots : List S79} (hv : VoyOK 3 2 4 60 L U R a V sills lots) (hx : VoyOK 3 2 4 60 L U R b V sills lots) (h : HoldsLE a b) :
    Ev (fun k => swarflaw07_ShipHold.j0 k L U R a V sills lots L U R b V sills lots) true := by
  obtain ⟨s, s', m, n, e1, e2, hmn, hm1, hs⟩ := best_holds hv hx (by decide) (by decide) (by decide) (by decide) h
  refine Ev.succ ?_
  simp only [swarflaw07_ShipHold.j0]
  refine Ev.take e1 (Ev.take e2 ?_)
  simp (disch := omega) only [if_true, if_neg]
  rw [decide_eq_false (by omega)]
  refine Ev.succ ?_
  simp only [swarflaw07_ShipHold.j1, Bool.false_eq_true, if_false]
  by_cases hm : m < 0
  · simp only [if_pos hm]
    exact Ev.tail awake_ev
  · simp only [if_neg hm]
    obtain ⟨m1, m2, hg⟩ := hs (by omega)
    obtain ⟨q, x, t⟩ := told hv (by decide) (by decide) (by decide) (by decide) m1 m2
    obtain ⟨g1, g2, g3⟩ := t.good.1 hg
    refine Ev.bind (t.level g1) (Ev.take (t.sail g1) ?_)
    have hv1 : verdictE sills.length (wayL U V sills q true) (wayL U V sills q false) = 1 := if_pos g3
    simp only [if_true, decide_eq_true g2, hv1]
    exact Ev.tail awake_ev
theorem getD_set_self {α : Type} (l : List α) (i : Nat) (v d : α) (h : i < l.length) : (l.set i v).getD i d = v := by simp [List.getD, h]
theorem getD_set_ne {α : Type} (l : List α) (i j : Nat) (v d : α) (h : i ≠ j) : (l.set i v).getD j d = l.getD j d := by simp [List.getD, List.getElem?_set, h]
theorem ShipHold : swarflaw07_ShipHold.Pure := by
  intro l0 _ hb8 _
  refine Ev.rounds (g := fun k => swarflaw07_ShipHold.f k l0) ?_
  unfold swarflaw07_ShipHold.f
  refine Ev.take (a := feedAll l0) (by unfold swarfkit_FeedOf.f; rw [if_pos (by omega)]) ?_
  obtain ⟨T, f1, e1, hT⟩ := either_ok (feedAll l0) [4, 30] (by simp) (show 2 ≤ 1000 by decide)
  have hTb : 1 ≤ T ∧ T ≤ 30 := by
    rcases List.mem_cons.1 hT with rfl | hT
    · omega
    · rw [List.mem_singleton.1 hT]; omega
  refine Ev.take e1 ?_
  obtain ⟨⟨L, U, R, holds, V, sills, lots, f2⟩, e2, hv⟩ := voyageOf_res f1 2 2 4 T (by decide) (by decide) (by decide) (by decide) hTb.1 (by omega)
  refine Ev.bind (a := (L, U, R, holds, V, sills, lots, f2)) e2 ?_
  replace hv : VoyOK 2 2 4 T L U R holds V sills lots := hv
  refine Ev.take (copy_ok hv (by decide) (by decide) (by decide)) ?_
  have hv2 : VoyOK 3 2 4 60 L U R holds V sills lots := hv.mono (by decide) (by decide) (by decide) (by omega)
  have hhn := hv.hn
  obtain ⟨b, f3, e3⟩ := often_ok f2 2 (by decide) (by decide) 1
  refine Ev.take e3 ?_
  by_cases hb : b = true
  · obtain ⟨p, f4, e4, p1, p2⟩ := below_ok f3 40 (by decide) (by decide)
    obtain ⟨q, f5, e5, q1, q2⟩ := below_ok f4 1500 (by decide) (by decide)
    obtain ⟨r, f6, e6, r1, r2⟩ := below_ok f5 1500 (by decide) (by decide)
    simp only [if_pos hb]
    refine Ev.take e4 (Ev.take e5 (Ev.take e6 ?_))
    simp only [if_pos (show holds.length < 5864062014805 by omega)]
    refine hold_end hv2 ⟨hv2.light, hv2.under, hv2.trim, hv2.leaves, ⟨by simp, by simp; omega⟩, mem_snoc hv2.ho ⟨p1, by show p ≤ 3 * 60; omega, q1, q2, r1, r2⟩, hv2.sn, hv2.si, hv2.ln, hv2.lo⟩ ⟨by simp, fun g hg => ?_, fun g h1 h2 => ?_⟩
    · rw [getD_snoc_lt _ _ _ hg]
      exact ⟨rfl, rfl, Int.le_refl _⟩
    · have : g = holds.length := by simp at h2; omega
      subst this
      rw [getD_snoc_eq]; exact p1
  · obtain ⟨p, f4, e4, p1, p2⟩ := below_ok f3 20 (by decide) (by decide)
    simp only [if_neg hb]
    have h0l : 0 < (holds.length : Int) := by omega
    simp only [if_pos h0l]
    refine Ev.take e4 ?_
    have h0 : 0 < holds.length := by omega
    have hr0 : rd_T85 holds 0 = holds.getD 0 z85 := rd85 holds 0
    obtain ⟨c1, c2, c3, c4, c5, c6⟩ := hv.ho _ (getD_mem holds 0 z85 h0)
    rw [hr0, wrap64_id (by omega) (by omega)]
    show Ev (fun k => swarflaw07_ShipHold.j0 k L U R holds V sills lots L U R (holds.set 0 ⟨(holds.getD 0 z85).f0 + p, (holds.getD 0 z85).f1, (holds.getD 0 z85).f2⟩) V sills lots) true
    refine hold_end hv2 ⟨hv2.light, hv2.under, hv2.trim, hv2.leaves, ⟨by simp; omega, by simp; omega⟩, fun y hy => ?_, hv2.sn, hv2.si, hv2.ln, hv2.lo⟩ ⟨by simp, fun g hg => ?_, fun g h1 h2 => ?_⟩
    · rcases List.mem_or_eq_of_mem_set hy with hy | rfl
      · exact hv2.ho y hy
      · exact ⟨by show 0 ≤ (holds.getD 0 z85).f0 + p; omega, by show (holds.getD 0 z85).f0 + p ≤ 3 * 60; omega, c3, c4, c5, c6⟩
    · by_cases hg0 : g = 0
      · subst hg0
        rw [getD_set_self _ _ _ _ h0]
        exact ⟨rfl, rfl, by show _ ≤ (holds.getD 0 z85).f0 + p; omega⟩
      · rw [getD_set_ne _ _ _ _ _ (Ne.symm hg0)]
        exact ⟨rfl, rfl, Int.le_refl _⟩
    · simp at h2; omega
end Go.Proofs.Ytodmemndaaiolaa.Pure
namespace Go.Proofs.YtodmemndaaiolaaW.PrintWords
open Go.ChangeShapes Go.WideShapes
theorem sized_ints {H : Type} {enc : TypeId × Value → H} {P : Program} {W : World} {base : Nat} {spare : Nat → Bool} {held : Bool} {t e : TypeId} {k : IntKind} {a : Option Addr} {len cap : Nat} {d : DataW H} {ps : List MemPlace} {ts : List TypeId} {ds : List (DataW H)} {j : Nat}
    (hsz : (DataW.weightsEach P ts ds).all (· ≤ reachBytes) = true) (ht : ts[j]? = some t) (hd : ds[j]? = some d) (hu : P.underlying t = some (.slice e)) (he : P.underlying e = some (.int k)) (hc : P.cellsOf e = 1) {B : Nat} (hB : P.bytesOf e = B)
    (h : DataW.Trod enc P W base spare held t (.slice a len cap) d ps) : len * B ≤ 140737488351232 := by
  obtain ⟨fuel, hf⟩ := h
  rcases open_ints hu he hc hf with ⟨hcs, _⟩ | ⟨x, l, c, zs, hcs, _, hl, _, hz, hx, _, _⟩
  · simp [Value.cells] at hcs
    obtain ⟨rfl, rfl, rfl⟩ := hcs
    simp
  · simp [Value.cells] at hcs
    obtain ⟨rfl, rfl, rfl⟩ := hcs
    obtain ⟨hx, _⟩ := Prod.mk.inj hx
    subst hx
    have z := sized_slice hsz ht hd hu
    rw [hB] at z
    have hl2 : len ≤ zs.length := by
      rw [hz]
      split
      · exact hl
      · exact Nat.le_refl _
    have h1 : (lits (H := H) k (zs.take len)).length + (lits (H := H) k (zs.drop len)).length = zs.length := by
      simp [lits]
      omega
    rw [h1] at z
    exact Nat.le_trans (Nat.mul_le_mul_right _ hl2) z
end Go.Proofs.YtodmemndaaiolaaW.PrintWords
namespace Go.Proofs.Ytodmemndaaiolaa.shipHold
open Go.ChangeShapes Go.WideShapes Go.ChangeAt Go.RowKit
open Go.ChangeMaps (open_string shut_string)
set_option linter.unusedVariables false
theorem own : ownKnob Try.prog.godebug = none := by kernel_rfl
theorem laidOut : laidOutB Try.prog = true := by kernel_rfl
def IsRow (k : IntKind) (w : World) (a : Option Addr) (len cap : Nat) (zs : List Int) : Prop :=
  (a = none ∧ len = 0 ∧ cap = 0 ∧ zs = []) ∨
  ∃ x, a = some x ∧ len ≤ cap ∧ cap ≤ maxLen ∧ zs.length = cap ∧ (∀ i, i < zs.length → w.cell? (x.add i) = some (.int k (zs.getD i 0))) ∧ ∀ n ∈ zs, (Lit.int k n).wf = true
set_option maxRecDepth 100000 in
theorem lifted (os : Os) (started : os.Started) (H : Type) (enc : TypeId × Value → H) :
    ReturnsInHanded {} Try.checked os 13 .any (Rows.shipHoldSpec.pre6 enc Try.prog Try.f13 Rows.shipHoldRow.domain false) (Rows.shipHoldSpec.post enc Try.prog Try.f13 false true false false) := by
  refine returnsInHanded_of_change_sized (C := Try.checked) own started (by kernel_rfl) Try.func13
    (ChangeSpec.witness6 (enc := enc) (C := Try.checked) false ⟨#[], #[.slice none 0 0], []⟩ 8 (by kernel_rfl) (by kernel_rfl) (by kernel_rfl) (by kernel_rfl)) ?_
  intro W base args ds gs before hval0 hW hcnd hsz0 _
  have hsz : (DataW.weightsEach Try.prog (Try.f13.params.toList ++ Rows.shipHoldSpec.plain.varTypes Try.prog) (ds ++ gs)).all (· ≤ reachBytes) = true := hsz0
  have hval : ∀ (j : Nat) t v, Try.f13.params[j]? = some t → args[j]? = some v → Value.okWide Try.prog W .any base t v := hval0
  have hW' := hW
  obtain ⟨p, q, hA0, hV, rfl, hfz, hnd⟩ := hW
  have hA : DataW.TrodAll enc Try.prog W 0 (fun _ => true) true Try.f13.params.toList args.toList ds p := hA0
  rw [Try.params13] at hA hval hsz
  obtain ⟨v0, vs0, d0, ds0, p0, q0, hargs, rfl, rfl, h0, r0⟩ := trodAll_cons hA
  obtain ⟨rfl, rfl, rfl⟩ := trodAll_nil r0
  obtain rfl : args = #[v0] := by cases args; simp_all
  obtain ⟨rfl, rfl⟩ := trodVars_none hV
  obtain ⟨a0, len0, cap0, rfl⟩ := okWide_slice Try.underlying27 (hval 0 27 v0 rfl rfl)
  have k0 := h0
  have lt0 : ∀ x ∈ p0, x.block < W.heap.size := by obtain ⟨m, hm⟩ := k0; exact DataW.trod_lt m _ _ _ hm
  obtain ⟨z0, w0⟩ : ∃ zs, IsRow .i64 W a0 len0 cap0 zs := by
    obtain ⟨fuel, hf⟩ := h0
    rcases open_ints Try.underlying27 Try.underlying3 (by kernel_rfl) hf with ⟨hcs, _⟩ | ⟨x, l, c, zs, hcs, _, hl, hm, hz, _, hcell, hwz⟩
    · simp [Value.cells] at hcs
      obtain ⟨rfl, rfl, rfl⟩ := hcs
      exact ⟨[], .inl ⟨rfl, rfl, rfl, rfl⟩⟩
    · simp [Value.cells] at hcs
      obtain ⟨rfl, rfl, rfl⟩ := hcs
      exact ⟨zs, .inr ⟨_, rfl, hl, hm, by simpa using hz, hcell, hwz⟩⟩
  have y0 : len0 * 8 ≤ 140737488351232 := Go.Proofs.YtodmemndaaiolaaW.PrintWords.sized_ints hsz (j := 0) (t := 27) rfl rfl Try.underlying27 Try.underlying3 (by kernel_rfl) (by kernel_rfl) h0
  clear hA0 hval0 hsz0 hsz
  refine (PC7.swarflaw07_ShipHold.walk Pure.ShipHold a0 len0 cap0 z0 W w0 y0).mono fun e W' ⟨he, bel⟩ => ?_
  subst he
  exact ⟨_, rfl, _, _, _, [], _, [], hW', trodAll_mk1 (shut_bool Try.underlying4 _), (trodAll_cons_mk (Below.trod laidOut (by kernel_rfl) (of_decide_eq_true (by kernel_rfl)) k0 bel lt0) trodAll_mk0), rfl, bel.frame _, fun h => by cases h⟩
theorem over : Rows.shipHoldRow.holds Try.pinned (OpenSpec.ofChange Rows.shipHoldSpec) :=
  OpenClaim.holds_of_wide 13 Try.f13 rfl rfl rfl rfl rfl rfl rfl ⟨rfl, rfl, rfl, rfl, rfl⟩ rfl rfl rfl rfl rfl (by kernel_rfl) Try.func13 (by kernel_rfl)
    (of_decide_eq_true (by kernel_rfl)) (by unfold Func.isWrapper; first | (rw [if_pos (by decide +kernel)]; kernel_rfl) | (rw [if_neg (by decide +kernel)]; exact ⟨rfl, rfl⟩))
    (fun os started H enc _ => lifted os started H enc)
theorem proved : Rows.ShipHoldSaid := over
#print axioms proved
end Go.Proofs.Ytodmemndaaiolaa.shipHold
namespace Go.Proofs.Ytodmemndaaiolaa
theorem shipHold_holds : Rows.ShipHoldSaid := shipHold.proved
end Go.Proofs.Ytodmemndaaiolaa
