/- whatever truly is -/
import Derived.Test.YtodmemndaaiolaaCShipTrue1
import Derived.Test.YtodmemndaaiolaaCShipTrue2
import Derived.Test.YtodmemndaaiolaaCShipTrue3
import Derived.Test.YtodmemndaaiolaaCShipTrue4
import Derived.Test.YtodmemndaaiolaaCShipTrue5
import Derived.SizedLaws
import Derived.ChangeSlices
import Derived.Test.YtodmemndaaiolaaRows
import Derived.WalkKit
import Derived.ProofKit
import Derived.OpenShut
import Derived.ShutString
import Derived.ChangeOld
import Derived.Below
namespace Go.Proofs.Ytodmemndaaiolaa.PC7
open Go.RowKit Go.Proofs.YtodmemndaaiolaaW.PrintWords Go.Proofs.YtodmemndaaiolaaW.PrintLast Go.Proofs.YtodmemndaaiolaaW.PrintMore
attribute [local go_sem] max2_int min2_int max_two min_two max_three min_three max_four min_four
set_option linter.unusedVariables false
set_option linter.unusedSimpArgs false
mutual
noncomputable def swarflaw07_ShipTrue.j0 : Nat → List Int → Bool → Int → List (S56) → Bool → Int → Int → Int → Int → List (S85) → Int → List (S59) → List (S79) → Int → Int → Int → Int → Int → Int → Option (Bool)
 | 0, _, _, _, _, _, _, _, _, _, _, _, _, _, _, _, _, _, _, _ => none
 | k + 1, x5, x9, x12, x13, x69, x810000, x830000, x830001, x830002, x830003, x830004, x830005, x830006, x840000, x840001, x841000, x841001, x846000, x846001 => if x69 = true then (some false) else (swarflaw07_ShipTrue.l0 k x5 x9 x12 x13 0 x810000 x830000 x830001 x830002 x830003 x830004 x830005 x830006 x840000 x840001 x841000 x841001 x846000 x846001)
noncomputable def swarflaw07_ShipTrue.l0 : Nat → List Int → Bool → Int → List (S56) → Int → Int → Int → Int → Int → List (S85) → Int → List (S59) → List (S79) → Int → Int → Int → Int → Int → Int → Option (Bool)
 | 0, _, _, _, _, _, _, _, _, _, _, _, _, _, _, _, _, _, _, _ => none
 | k + 1, x5, x9, x12, x13, x15, x810000, x830000, x830001, x830002, x830003, x830004, x830005, x830006, x840000, x840001, x841000, x841001, x846000, x846001 => if x15 < 5 then ((swarflaw07_factOf.f x810000 x830000 x830001 x830002 x830003 x830004 x830005 x830006).bind fun bt852 => ((swarflaw07_fact_sailed.f k bt852.1 bt852.2.1 bt852.2.2.1 x830000 x830001 x830002 x830003 x830004 x830005 x830006 x5).bind fun bt862 => ((swarfkit_Inside.f x840000 x840001 bt862.1).bind fun t867 => (if t867 = true then ((swarfkit_Inside.f x841000 x841001 bt862.2.1).bind fun t868 => (if t868 = true then ((swarfkit_Inside.f x846000 x846001 (wrap64 (bt862.1 - bt862.2.1))).bind fun t869 => (if t869 = true then (if x9 = true then (if (wrap64 (bt862.1 - bt862.2.1)) > (wrap64 (1000 * x830002)) then (swarflaw07_ShipTrue.j2 k x5 x9 x12 x13 x15 bt862.2.2 true bt852.2.2.2 x830000 x830001 x830002 x830003 x830004 x830005 x830006 x840000 x840001 x841000 x841001 x846000 x846001) else (if (wrap64 (bt862.1 - bt862.2.1)) < (wrap64 ((-1000) * x830002)) then (swarflaw07_ShipTrue.j2 k x5 x9 x12 x13 x15 bt862.2.2 true bt852.2.2.2 x830000 x830001 x830002 x830003 x830004 x830005 x830006 x840000 x840001 x841000 x841001 x846000 x846001) else ((swarflaw07_fits.f x12 ((bt862.2.2.length : Int) == (x830005.length : Int))).bind fun t870 => (if t870 = true then (swarflaw07_ShipTrue.j2 k x5 x9 x12 x13 x15 bt862.2.2 (decide ((bt862.2.2.length : Int) < (x13.length : Int))) bt852.2.2.2 x830000 x830001 x830002 x830003 x830004 x830005 x830006 x840000 x840001 x841000 x841001 x846000 x846001) else (swarflaw07_ShipTrue.j2 k x5 x9 x12 x13 x15 bt862.2.2 true bt852.2.2.2 x830000 x830001 x830002 x830003 x830004 x830005 x830006 x840000 x840001 x841000 x841001 x846000 x846001))))) else ((swarflaw07_fits.f x12 ((bt862.2.2.length : Int) == (x830005.length : Int))).bind fun t871 => (if t871 = true then (swarflaw07_ShipTrue.j2 k x5 x9 x12 x13 x15 bt862.2.2 (decide ((bt862.2.2.length : Int) < (x13.length : Int))) bt852.2.2.2 x830000 x830001 x830002 x830003 x830004 x830005 x830006 x840000 x840001 x841000 x841001 x846000 x846001) else (swarflaw07_ShipTrue.j2 k x5 x9 x12 x13 x15 bt862.2.2 true bt852.2.2.2 x830000 x830001 x830002 x830003 x830004 x830005 x830006 x840000 x840001 x841000 x841001 x846000 x846001)))) else (swarflaw07_ShipTrue.j2 k x5 x9 x12 x13 x15 bt862.2.2 true bt852.2.2.2 x830000 x830001 x830002 x830003 x830004 x830005 x830006 x840000 x840001 x841000 x841001 x846000 x846001))) else (swarflaw07_ShipTrue.j2 k x5 x9 x12 x13 x15 bt862.2.2 true bt852.2.2.2 x830000 x830001 x830002 x830003 x830004 x830005 x830006 x840000 x840001 x841000 x841001 x846000 x846001))) else (swarflaw07_ShipTrue.j2 k x5 x9 x12 x13 x15 bt862.2.2 true bt852.2.2.2 x830000 x830001 x830002 x830003 x830004 x830005 x830006 x840000 x840001 x841000 x841001 x846000 x846001))))) else ((swarflaw07_awake.f k).bind fun t851 => (some t851))
noncomputable def swarflaw07_ShipTrue.j2 : Nat → List Int → Bool → Int → List (S56) → Int → List Int → Bool → Int → Int → Int → Int → List (S85) → Int → List (S59) → List (S79) → Int → Int → Int → Int → Int → Int → Option (Bool)
 | 0, _, _, _, _, _, _, _, _, _, _, _, _, _, _, _, _, _, _, _, _, _ => none
 | k + 1, x5, x9, x12, x13, x15, x18, x137, x810000, x830000, x830001, x830002, x830003, x830004, x830005, x830006, x840000, x840001, x841000, x841001, x846000, x846001 => if x137 = true then (some false) else (swarflaw07_ShipTrue.l1 k x5 x9 x12 x13 x15 x18 0 x810000 x830000 x830001 x830002 x830003 x830004 x830005 x830006 x840000 x840001 x841000 x841001 x846000 x846001)
noncomputable def swarflaw07_ShipTrue.l1 : Nat → List Int → Bool → Int → List (S56) → Int → List Int → Int → Int → Int → Int → Int → List (S85) → Int → List (S59) → List (S79) → Int → Int → Int → Int → Int → Int → Option (Bool)
 | 0, _, _, _, _, _, _, _, _, _, _, _, _, _, _, _, _, _, _, _, _, _ => none
 | k + 1, x5, x9, x12, x13, x15, x18, x20, x810000, x830000, x830001, x830002, x830003, x830004, x830005, x830006, x840000, x840001, x841000, x841001, x846000, x846001 => if x20 < (x13.length : Int) then (if 0 ≤ x20 then (if x20 < (x18.length : Int) then ((swarfkit_Inside.f ((rd_T56 x13 x20).f0) ((rd_T56 x13 x20).f1) (rd x18 x20)).bind fun t874 => (if t874 = true then (swarflaw07_ShipTrue.l1 k x5 x9 x12 x13 x15 x18 (wrap64 (x20 + 1)) x810000 x830000 x830001 x830002 x830003 x830004 x830005 x830006 x840000 x840001 x841000 x841001 x846000 x846001) else (some false))) else (none)) else (none)) else (swarflaw07_ShipTrue.l0 k x5 x9 x12 x13 (wrap64 (x15 + 1)) x810000 x830000 x830001 x830002 x830003 x830004 x830005 x830006 x840000 x840001 x841000 x841001 x846000 x846001)
end
noncomputable def swarflaw07_ShipTrue.f (k : Nat) (l0 : List Int) : Option (Bool) := (swarfkit_FeedOf.f l0).bind fun t808 => ((swarfkit_Feed_Either.f t808 (([4, 30] : List Int))).bind fun bt813 => ((swarfkit_VoyageOf.f k bt813.2 3 4 6 bt813.1).bind fun bt815 => ((swarfkit_StowageOf.f k bt815.2.2.2.2.2.2.2 bt815.1 bt815.2.1 bt815.2.2.1 bt815.2.2.2.1 bt815.2.2.2.2.1 bt815.2.2.2.2.2.1 bt815.2.2.2.2.2.2.1).bind fun bt830 => ((ship_Drafts.f bt815.1 bt815.2.1 bt815.2.2.1 bt815.2.2.2.1 bt815.2.2.2.2.1 bt815.2.2.2.2.2.1 bt815.2.2.2.2.2.2.1 bt830.1).bind fun bt834 => ((ship_Level.f k bt815.1 bt815.2.1 bt815.2.2.1 bt815.2.2.2.1 bt815.2.2.2.2.1 bt815.2.2.2.2.2.1 bt815.2.2.2.2.2.2.1 bt830.1).bind fun bt841 => ((ship_Sail.f bt815.1 bt815.2.1 bt815.2.2.1 bt815.2.2.2.1 bt815.2.2.2.2.1 bt815.2.2.2.2.2.1 bt815.2.2.2.2.2.2.1 bt830.1).bind fun bt846 => (if bt834.2.2.2.2 = 0 then (if bt841.2.2.2 = 0 then (if bt846.2.2 = 0 then (swarflaw07_ShipTrue.j0 k bt830.1 bt841.1 bt846.1 bt846.2.1 (decide ((bt846.2.1.length : Int) > (bt815.2.2.2.2.2.1.length : Int))) bt830.2 bt815.1 bt815.2.1 bt815.2.2.1 bt815.2.2.2.1 bt815.2.2.2.2.1 bt815.2.2.2.2.2.1 bt815.2.2.2.2.2.2.1 bt834.1 bt834.2.1 bt834.2.2.1 bt834.2.2.2.1 bt841.2.1 bt841.2.2.1) else (swarflaw07_ShipTrue.j0 k bt830.1 bt841.1 bt846.1 bt846.2.1 true bt830.2 bt815.1 bt815.2.1 bt815.2.2.1 bt815.2.2.2.1 bt815.2.2.2.2.1 bt815.2.2.2.2.2.1 bt815.2.2.2.2.2.2.1 bt834.1 bt834.2.1 bt834.2.2.1 bt834.2.2.2.1 bt841.2.1 bt841.2.2.1)) else (swarflaw07_ShipTrue.j0 k bt830.1 bt841.1 bt846.1 bt846.2.1 true bt830.2 bt815.1 bt815.2.1 bt815.2.2.1 bt815.2.2.2.1 bt815.2.2.2.2.1 bt815.2.2.2.2.2.1 bt815.2.2.2.2.2.2.1 bt834.1 bt834.2.1 bt834.2.2.1 bt834.2.2.2.1 bt841.2.1 bt841.2.2.1)) else (swarflaw07_ShipTrue.j0 k bt830.1 bt841.1 bt846.1 bt846.2.1 true bt830.2 bt815.1 bt815.2.1 bt815.2.2.1 bt815.2.2.2.1 bt815.2.2.2.2.1 bt815.2.2.2.2.2.1 bt815.2.2.2.2.2.2.1 bt834.1 bt834.2.1 bt834.2.2.1 bt834.2.2.2.1 bt841.2.1 bt841.2.2.1))))))))
def swarflaw07_ShipTrue.T12 : Bool × List (List Nat × List Nat) := (true, [([], []), ([], []), ([0, 1], [0, 1]), ([], []), ([], []), ([2, 3, 4, 2], [2, 3, 4]), ([5], [5]), ([6], [6]), ([6], [6]), ([6], [6]), ([7, 5, 0, 1, 2, 3, 4, 5, 6, 7], [7]), ([8, 10, 0, 1, 2, 3, 4, 5, 6, 7, 8, 10], [8]), ([9, 11, 0, 1, 2, 3, 4, 5, 6, 7, 8, 9, 10, 11], [9])])
def swarflaw07_ShipTrue.B12 : List Nat := [0, 0, 3, 0, 0, 31, 63, 127, 127, 127, 255, 1535, 4095]
theorem swarflaw07_ShipTrue.tab12 : rtab .any (opsOf Try.f8 12) = swarflaw07_ShipTrue.T12 := by kernel_rfl
theorem swarflaw07_ShipTrue.bits12 : waitsOk swarflaw07_ShipTrue.T12.2 swarflaw07_ShipTrue.B12 = true := by kernel_rfl
def swarflaw07_ShipTrue.T19 : Bool × List (List Nat × List Nat) := (true, [([], []), ([], []), ([0, 1], [0, 1]), ([2], [2]), ([], []), ([], []), ([4, 5], [4, 5]), ([6], [6]), ([3, 7], [3, 7]), ([8], [8])])
def swarflaw07_ShipTrue.B19 : List Nat := [0, 0, 3, 7, 0, 0, 48, 112, 255, 511]
theorem swarflaw07_ShipTrue.tab19 : rtab .any (opsOf Try.f8 19) = swarflaw07_ShipTrue.T19 := by kernel_rfl
theorem swarflaw07_ShipTrue.bits19 : waitsOk swarflaw07_ShipTrue.T19.2 swarflaw07_ShipTrue.B19 = true := by kernel_rfl
set_option maxHeartbeats 8000000 in
set_option maxRecDepth 100000 in
theorem swarflaw07_ShipTrue.calls (k : Nat) (A0 : Option Addr) (c0 : Nat) (l0 : List Int) (r : Bool) (hrt : Aside0 (r = true)) (w : World) (hr0 : Kd.C (Kd.int .i64) w A0 l0.length l0) (hc0 : l0.length ≤ c0) (h : swarflaw07_ShipTrue.f k l0 = some r) :
  Calls Try.prog 8 #[.slice A0 l0.length c0] w fun e w' => e = .returned (.bool r) ∧ Below w.heap.size w w' := by
 have hu26 := Try.underlying26
 have hu56 := Try.underlying56
 have HR0 := Aside0.mk hr0
 have HC0 := Aside0.mk hc0
 clear hr0 hc0
 have HB := Aside0.mk (Below.refl w.heap.size w)
 have H : ((swarfkit_FeedOf.f l0).bind fun t808 => ((swarfkit_Feed_Either.f t808 (([4, 30] : List Int))).bind fun bt813 => ((swarfkit_VoyageOf.f k bt813.2 3 4 6 bt813.1).bind fun bt815 => ((swarfkit_StowageOf.f k bt815.2.2.2.2.2.2.2 bt815.1 bt815.2.1 bt815.2.2.1 bt815.2.2.2.1 bt815.2.2.2.2.1 bt815.2.2.2.2.2.1 bt815.2.2.2.2.2.2.1).bind fun bt830 => ((ship_Drafts.f bt815.1 bt815.2.1 bt815.2.2.1 bt815.2.2.2.1 bt815.2.2.2.2.1 bt815.2.2.2.2.2.1 bt815.2.2.2.2.2.2.1 bt830.1).bind fun bt834 => ((ship_Level.f k bt815.1 bt815.2.1 bt815.2.2.1 bt815.2.2.2.1 bt815.2.2.2.2.1 bt815.2.2.2.2.2.1 bt815.2.2.2.2.2.2.1 bt830.1).bind fun bt841 => ((ship_Sail.f bt815.1 bt815.2.1 bt815.2.2.1 bt815.2.2.2.1 bt815.2.2.2.2.1 bt815.2.2.2.2.2.1 bt815.2.2.2.2.2.2.1 bt830.1).bind fun bt846 => (if bt834.2.2.2.2 = 0 then (if bt841.2.2.2 = 0 then (if bt846.2.2 = 0 then (swarflaw07_ShipTrue.j0 k bt830.1 bt841.1 bt846.1 bt846.2.1 (decide ((bt846.2.1.length : Int) > (bt815.2.2.2.2.2.1.length : Int))) bt830.2 bt815.1 bt815.2.1 bt815.2.2.1 bt815.2.2.2.1 bt815.2.2.2.2.1 bt815.2.2.2.2.2.1 bt815.2.2.2.2.2.2.1 bt834.1 bt834.2.1 bt834.2.2.1 bt834.2.2.2.1 bt841.2.1 bt841.2.2.1) else (swarflaw07_ShipTrue.j0 k bt830.1 bt841.1 bt846.1 bt846.2.1 true bt830.2 bt815.1 bt815.2.1 bt815.2.2.1 bt815.2.2.2.1 bt815.2.2.2.2.1 bt815.2.2.2.2.2.1 bt815.2.2.2.2.2.2.1 bt834.1 bt834.2.1 bt834.2.2.1 bt834.2.2.2.1 bt841.2.1 bt841.2.2.1)) else (swarflaw07_ShipTrue.j0 k bt830.1 bt841.1 bt846.1 bt846.2.1 true bt830.2 bt815.1 bt815.2.1 bt815.2.2.1 bt815.2.2.2.1 bt815.2.2.2.2.1 bt815.2.2.2.2.2.1 bt815.2.2.2.2.2.2.1 bt834.1 bt834.2.1 bt834.2.2.1 bt834.2.2.2.1 bt841.2.1 bt841.2.2.1)) else (swarflaw07_ShipTrue.j0 k bt830.1 bt841.1 bt846.1 bt846.2.1 true bt830.2 bt815.1 bt815.2.1 bt815.2.2.1 bt815.2.2.2.1 bt815.2.2.2.2.1 bt815.2.2.2.2.2.1 bt815.2.2.2.2.2.2.1 bt834.1 bt834.2.1 bt834.2.2.1 bt834.2.2.2.1 bt841.2.1 bt841.2.2.1))))))))) = some r := h
 clear h
 replace H := Option.bind_eq_some_iff.mp H
 obtain ⟨t808, A20, H⟩ := H
 try dsimp only at H
 have A2 := Aside0.mk A20
 clear A20
 obtain ⟨y810, hy810⟩ : ∃ y_ : List Int, y_ = (([4, 30] : List Int)) := ⟨_, rfl⟩
 replace H : ((swarfkit_Feed_Either.f t808 y810).bind fun bt813 => ((swarfkit_VoyageOf.f k bt813.2 3 4 6 bt813.1).bind fun bt815 => ((swarfkit_StowageOf.f k bt815.2.2.2.2.2.2.2 bt815.1 bt815.2.1 bt815.2.2.1 bt815.2.2.2.1 bt815.2.2.2.2.1 bt815.2.2.2.2.2.1 bt815.2.2.2.2.2.2.1).bind fun bt830 => ((ship_Drafts.f bt815.1 bt815.2.1 bt815.2.2.1 bt815.2.2.2.1 bt815.2.2.2.2.1 bt815.2.2.2.2.2.1 bt815.2.2.2.2.2.2.1 bt830.1).bind fun bt834 => ((ship_Level.f k bt815.1 bt815.2.1 bt815.2.2.1 bt815.2.2.2.1 bt815.2.2.2.2.1 bt815.2.2.2.2.2.1 bt815.2.2.2.2.2.2.1 bt830.1).bind fun bt841 => ((ship_Sail.f bt815.1 bt815.2.1 bt815.2.2.1 bt815.2.2.2.1 bt815.2.2.2.2.1 bt815.2.2.2.2.2.1 bt815.2.2.2.2.2.2.1 bt830.1).bind fun bt846 => (if bt834.2.2.2.2 = 0 then (if bt841.2.2.2 = 0 then (if bt846.2.2 = 0 then (swarflaw07_ShipTrue.j0 k bt830.1 bt841.1 bt846.1 bt846.2.1 (decide ((bt846.2.1.length : Int) > (bt815.2.2.2.2.2.1.length : Int))) bt830.2 bt815.1 bt815.2.1 bt815.2.2.1 bt815.2.2.2.1 bt815.2.2.2.2.1 bt815.2.2.2.2.2.1 bt815.2.2.2.2.2.2.1 bt834.1 bt834.2.1 bt834.2.2.1 bt834.2.2.2.1 bt841.2.1 bt841.2.2.1) else (swarflaw07_ShipTrue.j0 k bt830.1 bt841.1 bt846.1 bt846.2.1 true bt830.2 bt815.1 bt815.2.1 bt815.2.2.1 bt815.2.2.2.1 bt815.2.2.2.2.1 bt815.2.2.2.2.2.1 bt815.2.2.2.2.2.2.1 bt834.1 bt834.2.1 bt834.2.2.1 bt834.2.2.2.1 bt841.2.1 bt841.2.2.1)) else (swarflaw07_ShipTrue.j0 k bt830.1 bt841.1 bt846.1 bt846.2.1 true bt830.2 bt815.1 bt815.2.1 bt815.2.2.1 bt815.2.2.2.1 bt815.2.2.2.2.1 bt815.2.2.2.2.2.1 bt815.2.2.2.2.2.2.1 bt834.1 bt834.2.1 bt834.2.2.1 bt834.2.2.2.1 bt841.2.1 bt841.2.2.1)) else (swarflaw07_ShipTrue.j0 k bt830.1 bt841.1 bt846.1 bt846.2.1 true bt830.2 bt815.1 bt815.2.1 bt815.2.2.1 bt815.2.2.2.1 bt815.2.2.2.2.1 bt815.2.2.2.2.2.1 bt815.2.2.2.2.2.2.1 bt834.1 bt834.2.1 bt834.2.2.1 bt834.2.2.2.1 bt841.2.1 bt841.2.2.1)))))))) = some r := by first | (rw [hy810]; with_reducible exact H) | (have H2_ := (Option.bind_some _ _).symm.trans H; rw [hy810]; with_reducible exact H2_) | (have H2_ := (Option.bind_some _ _).symm.trans H; with_reducible exact H2_) | with_reducible exact H | (rw [hy810]; exact H) | exact H
 have Ny810 := Aside0.mk hy810
 clear hy810
 replace H := Option.bind_eq_some_iff.mp H
 obtain ⟨⟨t813, t814⟩, A30, H⟩ := H
 try dsimp only at H
 have A3 := Aside0.mk A30
 clear A30
 replace H := Option.bind_eq_some_iff.mp H
 obtain ⟨⟨t815, t816, t817, t818, t821, t822, t825, t828⟩, A40, H⟩ := H
 try dsimp only at H
 have A4 := Aside0.mk A40
 clear A40
 replace H := Option.bind_eq_some_iff.mp H
 obtain ⟨⟨t830, t833⟩, A50, H⟩ := H
 try dsimp only at H
 have A5 := Aside0.mk A50
 clear A50
 replace H := Option.bind_eq_some_iff.mp H
 obtain ⟨⟨t834, t835, t836, t837, t838⟩, A60, H⟩ := H
 try dsimp only at H
 have A6 := Aside0.mk A60
 clear A60
 replace H := Option.bind_eq_some_iff.mp H
 obtain ⟨⟨t841, t842, t843, t844⟩, A70, H⟩ := H
 try dsimp only at H
 have A7 := Aside0.mk A70
 clear A70
 replace H := Option.bind_eq_some_iff.mp H
 obtain ⟨⟨t846, t847, t850⟩, A80, H⟩ := H
 try dsimp only at H
 have A8 := Aside0.mk A80
 clear A80
 have HC9 := Aside0.mk H
 clear H
 go_enter Try.func8, Try.ntmps8
 go_upto_region 7 with (first | ((with_reducible refine gate_callee (f := 16) rfl ?_); refine goesL_ (some 22) rfl rfl Try.func16 (by kernel_rfl) rfl #[.slice A0 l0.length c0] rfl (by (try simp only [List.map_toArray, List.map_cons, List.map_nil]); first | done | rfl | (simp only [List.length_drop, List.length_take]; rfl)) ?_; (with_reducible refine (swarfkit_FeedOf.calls _ _ l0 t808 w _ ?side1 ?side2 ?side3 A2.out).mono ?_); (case side1 => exact below_y HB.out); (case side2 => exact HR0.out); (case side3 => exact HC0.out); rintro e w10 ⟨g809, rfl, hi, hb, hb2⟩; refine ⟨_, rfl, ?_⟩; replace HB := Aside0.mk (hb); have HI809 := Aside0.mk (hi); (try clear hb); (try clear hk); (try clear hi)) | ((with_reducible refine gate_dst (N := 25) rfl ?_); (try (refine gate_guard (by rfl) ?_; dsimp only)); refine Kd.R_lit (Kd.int .i64) _ 3 ?hg (N := 25) ?hd (xs := ([4, 30] : List Int)) (inner := [.int .i64 4, .int .i64 30]) (ok := fun _ => True) (okp := fun _ => True) ?hr ?hp (fun _ hk => hk) trivial (Below.refl _ _) (Nat.le_refl _) (by simp) ?_; (case hd => rfl); (case hg => rfl); (case hr => first | (go_simp; done) | (go_simp; rfl)); (case hp => exact (Reps.one (show Kd.M (Kd.int .i64) _ _ _ 4 [.int .i64 4] from rfl) (Reps.one (show Kd.M (Kd.int .i64) _ _ _ 30 [.int .i64 30] from rfl) (Reps.none _ _)))); intro v811 w11 ho12 hb hg_ hnew_; clear hg_ hnew_; (first | rw [← Ny810.out] at ho12 | (simp only [Int.reduceToNat] at ho12; rw [← Ny810.out] at ho12)); have HO812 := Aside0.mk (Kd.R_lower ho12 (below_size (by exact below_y HB.out))); replace HI809 := Aside0.mk (IsS90.below (by exact IsS90.up HI809.out) hb); replace HB := bl_x HB hb; clear hb ho12; obtain ⟨Ao13, co13, eo13⟩ := Kd.R_slice HO812.out; subst eo13) | ((with_reducible refine gate_callee (f := 18) rfl ?_); refine goesL_ (some 26) rfl rfl Try.func18 (by kernel_rfl) rfl #[.pointer (some ⟨g809, 0, none⟩), .slice Ao13 y810.length co13] rfl (by (try simp only [List.map_toArray, List.map_cons, List.map_nil]); first | done | rfl | (simp only [List.length_drop, List.length_take]; rfl)) ?_; (with_reducible refine (swarfkit_Feed_Either.calls g809 t808 _ _ y810 t813 t814 w _ ?side1 ?side2 ?side3 ?side4 ?side5 A3.out).mono ?_); (case side1 => exact IsS90.up HI809.out); (case side2 => exact below_y HB.out); (case side3 => exact Kd.C_y (Kd.R_reads' HO812.out).2.2); (case side4 => exact (Kd.R_reads' HO812.out).2.1); (case side5 => exact far_slice (IsS90.own_ne HI809.out HO812.out (by decide))); rintro e w14 ⟨rfl, hi, hb, hk⟩; refine ⟨_, rfl, ?_⟩; replace HO812 := Aside0.mk (Kd.R_mono (Kd.R_keep (IsS90.apart (show IsS90 w _ g809 t808 from by exact IsS90.up HI809.out) (Kd.R_x HO812.out) (by decide)) hk (fun _ h => h.2)) (fun _ h => h.1)); replace HB := Aside0.mk (hb); replace HI809 := Aside0.mk (hi); (try clear hb); (try clear hk); (try clear hi)) | ((with_reducible refine gate_callee (f := 17) rfl ?_); refine goesL_ (some 27) rfl rfl Try.func17 (by kernel_rfl) rfl #[.pointer (some ⟨g809, 0, none⟩), .int .i64 3, .int .i64 4, .int .i64 6, .int .i64 t813] rfl (by (try simp only [List.map_toArray, List.map_cons, List.map_nil]); first | done | rfl | (simp only [List.length_drop, List.length_take]; rfl)) ?_; (with_reducible refine (swarfkit_VoyageOf.calls k g809 t814 3 4 6 t813 t815 t816 t817 t818 t821 t822 t825 t828 w _ ?side1 ?side2 A4.out).mono ?_); (case side1 => exact IsS90.up HI809.out); (case side2 => exact below_y HB.out); rintro e w15 ⟨v819, v823, v826, rfl, ho0, ho1, ho2, hi, hb, hk⟩; refine ⟨_, rfl, ?_⟩; replace HO812 := Aside0.mk (Kd.R_mono (Kd.R_keep (IsS90.apart (show IsS90 w _ g809 t814 from by exact IsS90.up HI809.out) (Kd.R_x HO812.out) (by decide)) hk (fun _ h => h.2)) (fun _ h => h.1)); have HO820 := Aside0.mk (Kd.R_lower ho0 (below_size (by exact below_y HB.out))); have HO824 := Aside0.mk (Kd.S_lower ho1 (below_size (by exact below_y HB.out))); have HO827 := Aside0.mk (Kd.R_lower ho2 (below_size (by exact below_y HB.out))); replace HB := Aside0.mk (hb); replace HI809 := Aside0.mk (hi); (try clear hb); (try clear hk); (try clear hi); (try clear ho0); (try clear ho1); (try clear ho2)) | ((with_reducible refine gate_dst (N := 4) rfl ?_); (try (refine gate_guard (by rfl) ?_; dsimp only)); refine box_event ?hg (N := 4) ?hd (cs := #[.int .i64 0, .int .i64 0, .int .i64 0, .slice none 0 0, .int .i64 0, .slice none 0 0, .slice none 0 0]) (t := 26) ?hr ?_; (case hd => rfl); (case hg => rfl); (case hr => first | (go_simp; done) | (go_simp; rfl)); intro gb829 hg w16 hbox hb; replace HO812 := Aside0.mk (Kd.R_below (Kd.R_x HO812.out) hb); replace HO820 := Aside0.mk (Kd.R_below (Kd.R_x HO820.out) hb); replace HO824 := Aside0.mk (Kd.S_below (Kd.S_x HO824.out) hb); replace HO827 := Aside0.mk (Kd.R_below (Kd.R_x HO827.out) hb); have BK829 := Aside0.mk (hbox); have GW829 := Aside0.mk ((by rw [hg]; exact (below_size (by exact below_y HB.out)) : w.heap.size ≤ gb829)); have GE829 := Aside0.mk ((by rw [hg]; exact (below_size (by exact below_y HB.out)) : w.heap.size ≤ gb829)); replace HB := bl_x HB hb; have NB809_829 := Aside0.mk ((by rw [hg]; exact Nat.ne_of_lt (IsS90.lt (show IsS90 w _ g809 t828 from by exact IsS90.up HI809.out)) : g809 ≠ gb829)); have NB829_809 := Aside0.mk ((by rw [hg]; exact Nat.ne_of_gt (IsS90.lt (show IsS90 w _ g809 t828 from by exact IsS90.up HI809.out)) : gb829 ≠ g809)); replace HI809 := Aside0.mk (IsS90.below (by exact IsS90.up HI809.out) hb); clear hb hbox hg; have hnb17 := NB829_809.out; have hnc17 := NB809_829.out; obtain ⟨_, _, _, _, _, _, _⟩ := cz7 BK829; have hfz18_0 := blk_frozen BK829.out; obtain ⟨Ao19, co19, eo19⟩ := Kd.R_slice HO820.out; subst eo19; obtain ⟨Ao20, co20, eo20⟩ := Kd.S_slice HO824.out; subst eo20; obtain ⟨Ao21, co21, eo21⟩ := Kd.R_slice HO827.out; subst eo21) | ((with_reducible refine gate_callee (f := 19) rfl ?_); refine goesL_ (some 30) rfl rfl Try.func19 (by kernel_rfl) rfl #[.pointer (some ⟨g809, 0, none⟩), .agg #[.int .i64 t815, .int .i64 t816, .int .i64 t817, .slice Ao19 t818.length co19, .int .i64 t821, .slice Ao20 t822.length co20, .slice Ao21 t825.length co21]] rfl (by (try simp only [List.map_toArray, List.map_cons, List.map_nil]); first | done | rfl | (simp only [List.length_drop, List.length_take]; rfl)) ?_; (with_reducible refine (swarfkit_StowageOf.calls k g809 t828 t815 t816 t817 _ _ t818 t821 _ _ t822 _ _ t825 t830 t833 w _ ?side1 ?side2 ?side3 ?side4 ?side5 ?side6 ?side7 ?side8 A5.out).mono ?_); (case side1 => exact IsS90.up HI809.out); (case side2 => exact below_y HB.out); (case side3 => exact Kd.C_foot_own (IsS90.apart (show IsS90 w _ g809 t828 from by exact IsS90.up HI809.out) (by (with_reducible repeat (first | apply Kd.R_alloc | apply Kd.R_drewN | apply Kd.R_drew)); exact (Kd.R_mono (Kd.R_far (p := ⟨gb829, 6, none⟩) (Kd.R_far (p := ⟨gb829, 5, none⟩) (Kd.R_far (p := ⟨gb829, 4, none⟩) (Kd.R_far (p := ⟨gb829, 3, none⟩) (Kd.R_far (p := ⟨gb829, 2, none⟩) (Kd.R_far (p := ⟨gb829, 1, none⟩) (Kd.R_far (p := ⟨gb829, 0, none⟩) (Kd.R_types HO820.out BK829.out (by decide)) (fun _ hk => hk.2) (.int .i64 t815)) (fun _ hk => hk.2) (.int .i64 t816)) (fun _ hk => hk.2) (.int .i64 t817)) (fun _ hk => hk.2) (.slice Ao19 t818.length co19)) (fun _ hk => hk.2) (.int .i64 t821)) (fun _ hk => hk.2) (.slice Ao20 t822.length co20)) (fun _ hk => hk.2) (.slice Ao21 t825.length co21)) (fun _ h_ => h_.1))) (by decide)) (fun _ h_ => h_.2)); (case side4 => exact (Kd.R_reads' HO820.out).2.1); (case side5 => exact Kd.C_foot_own ((Kd.S_R (IsS90.apartS (show IsS90 w _ g809 t828 from by exact IsS90.up HI809.out) (by (with_reducible repeat (first | apply Kd.S_alloc | apply Kd.S_drewN | apply Kd.S_drew)); exact (Kd.S_mono (Kd.S_far (p := ⟨gb829, 6, none⟩) (Kd.S_far (p := ⟨gb829, 5, none⟩) (Kd.S_far (p := ⟨gb829, 4, none⟩) (Kd.S_far (p := ⟨gb829, 3, none⟩) (Kd.S_far (p := ⟨gb829, 2, none⟩) (Kd.S_far (p := ⟨gb829, 1, none⟩) (Kd.S_far (p := ⟨gb829, 0, none⟩) (Kd.S_types HO824.out BK829.out (by decide)) (fun _ hk => hk.2) (.int .i64 t815)) (fun _ hk => hk.2) (.int .i64 t816)) (fun _ hk => hk.2) (.int .i64 t817)) (fun _ hk => hk.2) (.slice Ao19 t818.length co19)) (fun _ hk => hk.2) (.int .i64 t821)) (fun _ hk => hk.2) (.slice Ao20 t822.length co20)) (fun _ hk => hk.2) (.slice Ao21 t825.length co21)) (fun _ h_ => h_.1))) (by decide)))) (fun _ h_ => h_.2)); (case side6 => exact (Kd.S_reads' HO824.out).2.1); (case side7 => exact Kd.C_foot_own (IsS90.apart (show IsS90 w _ g809 t828 from by exact IsS90.up HI809.out) (by (with_reducible repeat (first | apply Kd.R_alloc | apply Kd.R_drewN | apply Kd.R_drew)); exact (Kd.R_mono (Kd.R_far (p := ⟨gb829, 6, none⟩) (Kd.R_far (p := ⟨gb829, 5, none⟩) (Kd.R_far (p := ⟨gb829, 4, none⟩) (Kd.R_far (p := ⟨gb829, 3, none⟩) (Kd.R_far (p := ⟨gb829, 2, none⟩) (Kd.R_far (p := ⟨gb829, 1, none⟩) (Kd.R_far (p := ⟨gb829, 0, none⟩) (Kd.R_types HO827.out BK829.out (by decide)) (fun _ hk => hk.2) (.int .i64 t815)) (fun _ hk => hk.2) (.int .i64 t816)) (fun _ hk => hk.2) (.int .i64 t817)) (fun _ hk => hk.2) (.slice Ao19 t818.length co19)) (fun _ hk => hk.2) (.int .i64 t821)) (fun _ hk => hk.2) (.slice Ao20 t822.length co20)) (fun _ hk => hk.2) (.slice Ao21 t825.length co21)) (fun _ h_ => h_.1))) (by decide)) (fun _ h_ => h_.2)); (case side8 => exact (Kd.R_reads' HO827.out).2.1); rintro e w22 ⟨v831, rfl, ho0, hi, hb, hk⟩; refine ⟨_, rfl, ?_⟩; replace HO820 := Aside0.mk (Kd.R_mono (Kd.R_keep (IsS90.apart (show IsS90 w _ g809 t828 from by exact IsS90.up HI809.out) (by (with_reducible repeat (first | apply Kd.R_alloc | apply Kd.R_drewN | apply Kd.R_drew)); exact (Kd.R_mono (Kd.R_far (p := ⟨gb829, 6, none⟩) (Kd.R_far (p := ⟨gb829, 5, none⟩) (Kd.R_far (p := ⟨gb829, 4, none⟩) (Kd.R_far (p := ⟨gb829, 3, none⟩) (Kd.R_far (p := ⟨gb829, 2, none⟩) (Kd.R_far (p := ⟨gb829, 1, none⟩) (Kd.R_far (p := ⟨gb829, 0, none⟩) (Kd.R_types HO820.out BK829.out (by decide)) (fun _ hk => hk.2) (.int .i64 t815)) (fun _ hk => hk.2) (.int .i64 t816)) (fun _ hk => hk.2) (.int .i64 t817)) (fun _ hk => hk.2) (.slice Ao19 t818.length co19)) (fun _ hk => hk.2) (.int .i64 t821)) (fun _ hk => hk.2) (.slice Ao20 t822.length co20)) (fun _ hk => hk.2) (.slice Ao21 t825.length co21)) (fun _ h_ => h_.1))) (by decide)) hk (fun _ h => h.2)) (fun _ h => h.1)); replace HO824 := Aside0.mk (Kd.S_mono (Kd.S_keep (IsS90.apartS (show IsS90 w _ g809 t828 from by exact IsS90.up HI809.out) (by (with_reducible repeat (first | apply Kd.S_alloc | apply Kd.S_drewN | apply Kd.S_drew)); exact (Kd.S_mono (Kd.S_far (p := ⟨gb829, 6, none⟩) (Kd.S_far (p := ⟨gb829, 5, none⟩) (Kd.S_far (p := ⟨gb829, 4, none⟩) (Kd.S_far (p := ⟨gb829, 3, none⟩) (Kd.S_far (p := ⟨gb829, 2, none⟩) (Kd.S_far (p := ⟨gb829, 1, none⟩) (Kd.S_far (p := ⟨gb829, 0, none⟩) (Kd.S_types HO824.out BK829.out (by decide)) (fun _ hk => hk.2) (.int .i64 t815)) (fun _ hk => hk.2) (.int .i64 t816)) (fun _ hk => hk.2) (.int .i64 t817)) (fun _ hk => hk.2) (.slice Ao19 t818.length co19)) (fun _ hk => hk.2) (.int .i64 t821)) (fun _ hk => hk.2) (.slice Ao20 t822.length co20)) (fun _ hk => hk.2) (.slice Ao21 t825.length co21)) (fun _ h_ => h_.1))) (by decide)) hk (fun _ h => h.2)) (fun _ h => h.1)); replace HO827 := Aside0.mk (Kd.R_mono (Kd.R_keep (IsS90.apart (show IsS90 w _ g809 t828 from by exact IsS90.up HI809.out) (by (with_reducible repeat (first | apply Kd.R_alloc | apply Kd.R_drewN | apply Kd.R_drew)); exact (Kd.R_mono (Kd.R_far (p := ⟨gb829, 6, none⟩) (Kd.R_far (p := ⟨gb829, 5, none⟩) (Kd.R_far (p := ⟨gb829, 4, none⟩) (Kd.R_far (p := ⟨gb829, 3, none⟩) (Kd.R_far (p := ⟨gb829, 2, none⟩) (Kd.R_far (p := ⟨gb829, 1, none⟩) (Kd.R_far (p := ⟨gb829, 0, none⟩) (Kd.R_types HO827.out BK829.out (by decide)) (fun _ hk => hk.2) (.int .i64 t815)) (fun _ hk => hk.2) (.int .i64 t816)) (fun _ hk => hk.2) (.int .i64 t817)) (fun _ hk => hk.2) (.slice Ao19 t818.length co19)) (fun _ hk => hk.2) (.int .i64 t821)) (fun _ hk => hk.2) (.slice Ao20 t822.length co20)) (fun _ hk => hk.2) (.slice Ao21 t825.length co21)) (fun _ h_ => h_.1))) (by decide)) hk (fun _ h => h.2)) (fun _ h => h.1)); have HO832 := Aside0.mk (Kd.R_lower (Kd.R_new' ho0 (Kd.R_lt (by (with_reducible repeat (first | apply Kd.R_alloc | apply Kd.R_drewN | apply Kd.R_drew)); exact (Kd.R_mono (Kd.R_far (p := ⟨gb829, 6, none⟩) (Kd.R_far (p := ⟨gb829, 5, none⟩) (Kd.R_far (p := ⟨gb829, 4, none⟩) (Kd.R_far (p := ⟨gb829, 3, none⟩) (Kd.R_far (p := ⟨gb829, 2, none⟩) (Kd.R_far (p := ⟨gb829, 1, none⟩) (Kd.R_far (p := ⟨gb829, 0, none⟩) (Kd.R_types HO812.out BK829.out (by decide)) (fun _ hk => hk.2) (.int .i64 t815)) (fun _ hk => hk.2) (.int .i64 t816)) (fun _ hk => hk.2) (.int .i64 t817)) (fun _ hk => hk.2) (.slice Ao19 t818.length co19)) (fun _ hk => hk.2) (.int .i64 t821)) (fun _ hk => hk.2) (.slice Ao20 t822.length co20)) (fun _ hk => hk.2) (.slice Ao21 t825.length co21)) (fun _ h_ => h_.1))))) (below_size (by exact below_y HB.out))); replace HO812 := Aside0.mk (Kd.R_mono (Kd.R_told (Kd.R_oldK (IsS90.apart (show IsS90 w _ g809 t828 from by exact IsS90.up HI809.out) (by (with_reducible repeat (first | apply Kd.R_alloc | apply Kd.R_drewN | apply Kd.R_drew)); exact (Kd.R_mono (Kd.R_far (p := ⟨gb829, 6, none⟩) (Kd.R_far (p := ⟨gb829, 5, none⟩) (Kd.R_far (p := ⟨gb829, 4, none⟩) (Kd.R_far (p := ⟨gb829, 3, none⟩) (Kd.R_far (p := ⟨gb829, 2, none⟩) (Kd.R_far (p := ⟨gb829, 1, none⟩) (Kd.R_far (p := ⟨gb829, 0, none⟩) (Kd.R_types HO812.out BK829.out (by decide)) (fun _ hk => hk.2) (.int .i64 t815)) (fun _ hk => hk.2) (.int .i64 t816)) (fun _ hk => hk.2) (.int .i64 t817)) (fun _ hk => hk.2) (.slice Ao19 t818.length co19)) (fun _ hk => hk.2) (.int .i64 t821)) (fun _ hk => hk.2) (.slice Ao20 t822.length co20)) (fun _ hk => hk.2) (.slice Ao21 t825.length co21)) (fun _ h_ => h_.1))) (by decide)) hk) (Kd.R_base ho0)) (fun _ h_ => h_.1)); replace BK829 := Aside0.mk (KeepBut.blk hk (g' := gb829) (o := .cells #[.int .i64 t815, .int .i64 t816, .int .i64 t817, .slice Ao19 t818.length co19, .int .i64 t821, .slice Ao20 t822.length co20, .slice Ao21 t825.length co21] 26 (0, 0)) (by (with_reducible repeat (first | refine blk_drewN ?_ _ | refine blk_drew ?_ | refine blk_alloc ?_ _)); refine blk_put (cs := #[.int .i64 t815, .int .i64 t816, .int .i64 t817, .slice Ao19 t818.length co19, .int .i64 t821, .slice Ao20 t822.length co20, .slice none 0 0]) ?_ 6 _ rfl; (with_reducible repeat (first | refine blk_drewN ?_ _ | refine blk_drew ?_ | refine blk_alloc ?_ _)); refine blk_put (cs := #[.int .i64 t815, .int .i64 t816, .int .i64 t817, .slice Ao19 t818.length co19, .int .i64 t821, .slice none 0 0, .slice none 0 0]) ?_ 5 _ rfl; (with_reducible repeat (first | refine blk_drewN ?_ _ | refine blk_drew ?_ | refine blk_alloc ?_ _)); refine blk_put (cs := #[.int .i64 t815, .int .i64 t816, .int .i64 t817, .slice Ao19 t818.length co19, .int .i64 0, .slice none 0 0, .slice none 0 0]) ?_ 4 _ rfl; (with_reducible repeat (first | refine blk_drewN ?_ _ | refine blk_drew ?_ | refine blk_alloc ?_ _)); refine blk_put (cs := #[.int .i64 t815, .int .i64 t816, .int .i64 t817, .slice none 0 0, .int .i64 0, .slice none 0 0, .slice none 0 0]) ?_ 3 _ rfl; (with_reducible repeat (first | refine blk_drewN ?_ _ | refine blk_drew ?_ | refine blk_alloc ?_ _)); refine blk_put (cs := #[.int .i64 t815, .int .i64 t816, .int .i64 0, .slice none 0 0, .int .i64 0, .slice none 0 0, .slice none 0 0]) ?_ 2 _ rfl; (with_reducible repeat (first | refine blk_drewN ?_ _ | refine blk_drew ?_ | refine blk_alloc ?_ _)); refine blk_put (cs := #[.int .i64 t815, .int .i64 0, .int .i64 0, .slice none 0 0, .int .i64 0, .slice none 0 0, .slice none 0 0]) ?_ 1 _ rfl; (with_reducible repeat (first | refine blk_drewN ?_ _ | refine blk_drew ?_ | refine blk_alloc ?_ _)); refine blk_put (cs := #[.int .i64 0, .int .i64 0, .int .i64 0, .slice none 0 0, .int .i64 0, .slice none 0 0, .slice none 0 0]) ?_ 0 _ rfl; (with_reducible repeat (first | refine blk_drewN ?_ _ | refine blk_drew ?_ | refine blk_alloc ?_ _)); exact BK829.out) NB829_809.out (by simp)); replace HB := Aside0.mk (hb); replace HI809 := Aside0.mk (hi); (try clear hb); (try clear hk); (try clear hi); (try clear ho0); obtain ⟨_, _, _, _, _, _, _⟩ := cz7 BK829; have hfz23_0 := blk_frozen BK829.out; obtain ⟨Ao24, co24, eo24⟩ := Kd.R_slice HO832.out; subst eo24) | ((with_reducible refine gate_callee (f := 35) rfl ?_); refine goesL_ (some 34) rfl rfl Try.func35 (by kernel_rfl) rfl #[.agg #[.int .i64 t815, .int .i64 t816, .int .i64 t817, .slice Ao19 t818.length co19, .int .i64 t821, .slice Ao20 t822.length co20, .slice Ao21 t825.length co21], .slice Ao24 t830.length co24] rfl (by (try simp only [List.map_toArray, List.map_cons, List.map_nil]); first | done | rfl | (simp only [List.length_drop, List.length_take]; rfl)) ?_; (with_reducible refine (ship_Drafts.calls t815 t816 t817 _ _ t818 t821 _ _ t822 _ _ t825 _ _ t830 t834 t835 t836 t837 t838 _ ?side1 ?side2 ?side3 ?side4 ?side5 ?side6 ?side7 ?side8 A6.out).mono ?_); (case side1 => exact Kd.C_y (Kd.R_reads' HO820.out).2.2); (case side2 => exact (Kd.R_reads' HO820.out).2.1); (case side3 => exact Kd.C_y (Kd.S_reads' HO824.out).2.2); (case side4 => exact (Kd.S_reads' HO824.out).2.1); (case side5 => exact Kd.C_y (Kd.R_reads' HO827.out).2.2); (case side6 => exact (Kd.R_reads' HO827.out).2.1); (case side7 => exact Kd.C_y (Kd.R_reads' HO832.out).2.2); (case side8 => exact (Kd.R_reads' HO832.out).2.1); rintro e w25 ⟨rfl, hb⟩; refine ⟨_, rfl, ?_⟩; replace HO812 := Aside0.mk (Kd.R_below (Kd.R_x HO812.out) hb); replace HO820 := Aside0.mk (Kd.R_below (Kd.R_x HO820.out) hb); replace HO824 := Aside0.mk (Kd.S_below (Kd.S_x HO824.out) hb); replace HO827 := Aside0.mk (Kd.R_below (Kd.R_x HO827.out) hb); replace HO832 := Aside0.mk (Kd.R_below (Kd.R_x HO832.out) hb); replace HI809 := Aside0.mk (IsS90.below (by exact IsS90.up HI809.out) hb); replace BK829 := Aside0.mk (blk_below (blk_x BK829.out) hb); replace HB := bl_x HB hb; (try clear hb); (try clear hk); (try clear hi)) | ((with_reducible refine gate_dst (N := 6) rfl ?_); (try (refine gate_guard (by rfl) ?_; dsimp only)); refine box_event ?hg (N := 6) ?hd (cs := #[.int .i64 0, .int .i64 0]) (t := 56) ?hr ?_; (case hd => rfl); (case hg => rfl); (case hr => first | (go_simp; done) | (go_simp; rfl)); intro gb839 hg w26 hbox hb; replace HO812 := Aside0.mk (Kd.R_below (Kd.R_x HO812.out) hb); replace HO820 := Aside0.mk (Kd.R_below (Kd.R_x HO820.out) hb); replace HO824 := Aside0.mk (Kd.S_below (Kd.S_x HO824.out) hb); replace HO827 := Aside0.mk (Kd.R_below (Kd.R_x HO827.out) hb); replace HO832 := Aside0.mk (Kd.R_below (Kd.R_x HO832.out) hb); have BK839 := Aside0.mk (hbox); have GW839 := Aside0.mk ((by rw [hg]; exact (below_size (by exact below_y HB.out)) : w.heap.size ≤ gb839)); have GE839 := Aside0.mk ((by rw [hg]; exact (below_size (by exact below_y HB.out)) : w.heap.size ≤ gb839)); replace HB := bl_x HB hb; have NB829_839 := Aside0.mk ((by rw [hg]; exact Nat.ne_of_lt (blk_lt (g := gb829) (o := .cells #[.int .i64 t815, .int .i64 t816, .int .i64 t817, .slice Ao19 t818.length co19, .int .i64 t821, .slice Ao20 t822.length co20, .slice Ao21 t825.length co21] 26 (0, 0)) (blk_x BK829.out)) : gb829 ≠ gb839)); have NB839_829 := Aside0.mk ((by rw [hg]; exact Nat.ne_of_gt (blk_lt (g := gb829) (o := .cells #[.int .i64 t815, .int .i64 t816, .int .i64 t817, .slice Ao19 t818.length co19, .int .i64 t821, .slice Ao20 t822.length co20, .slice Ao21 t825.length co21] 26 (0, 0)) (blk_x BK829.out)) : gb839 ≠ gb829)); replace BK829 := Aside0.mk (blk_below (blk_x BK829.out) hb); have NB809_839 := Aside0.mk ((by rw [hg]; exact Nat.ne_of_lt (IsS90.lt (show IsS90 w _ g809 t833 from by exact IsS90.up HI809.out)) : g809 ≠ gb839)); have NB839_809 := Aside0.mk ((by rw [hg]; exact Nat.ne_of_gt (IsS90.lt (show IsS90 w _ g809 t833 from by exact IsS90.up HI809.out)) : gb839 ≠ g809)); replace HI809 := Aside0.mk (IsS90.below (by exact IsS90.up HI809.out) hb); clear hb hbox hg) | ((with_reducible refine gate_dst (N := 7) rfl ?_); (try (refine gate_guard (by rfl) ?_; dsimp only)); refine box_event ?hg (N := 7) ?hd (cs := #[.int .i64 0, .int .i64 0]) (t := 56) ?hr ?_; (case hd => rfl); (case hg => rfl); (case hr => first | (go_simp; done) | (go_simp; rfl)); intro gb840 hg w27 hbox hb; replace HO812 := Aside0.mk (Kd.R_below (Kd.R_x HO812.out) hb); replace HO820 := Aside0.mk (Kd.R_below (Kd.R_x HO820.out) hb); replace HO824 := Aside0.mk (Kd.S_below (Kd.S_x HO824.out) hb); replace HO827 := Aside0.mk (Kd.R_below (Kd.R_x HO827.out) hb); replace HO832 := Aside0.mk (Kd.R_below (Kd.R_x HO832.out) hb); have BK840 := Aside0.mk (hbox); have GW840 := Aside0.mk ((by rw [hg]; exact (below_size (by exact below_y HB.out)) : w.heap.size ≤ gb840)); have GE840 := Aside0.mk ((by rw [hg]; exact (below_size (by exact below_y HB.out)) : w.heap.size ≤ gb840)); replace HB := bl_x HB hb; have NB829_840 := Aside0.mk ((by rw [hg]; exact Nat.ne_of_lt (blk_lt (g := gb829) (o := .cells #[.int .i64 t815, .int .i64 t816, .int .i64 t817, .slice Ao19 t818.length co19, .int .i64 t821, .slice Ao20 t822.length co20, .slice Ao21 t825.length co21] 26 (0, 0)) (blk_x BK829.out)) : gb829 ≠ gb840)); have NB840_829 := Aside0.mk ((by rw [hg]; exact Nat.ne_of_gt (blk_lt (g := gb829) (o := .cells #[.int .i64 t815, .int .i64 t816, .int .i64 t817, .slice Ao19 t818.length co19, .int .i64 t821, .slice Ao20 t822.length co20, .slice Ao21 t825.length co21] 26 (0, 0)) (blk_x BK829.out)) : gb840 ≠ gb829)); replace BK829 := Aside0.mk (blk_below (blk_x BK829.out) hb); have NB839_840 := Aside0.mk ((by rw [hg]; exact Nat.ne_of_lt (blk_lt (g := gb839) (o := .cells #[.int .i64 0, .int .i64 0] 56 (0, 0)) (blk_x BK839.out)) : gb839 ≠ gb840)); have NB840_839 := Aside0.mk ((by rw [hg]; exact Nat.ne_of_gt (blk_lt (g := gb839) (o := .cells #[.int .i64 0, .int .i64 0] 56 (0, 0)) (blk_x BK839.out)) : gb840 ≠ gb839)); replace BK839 := Aside0.mk (blk_below (blk_x BK839.out) hb); have NB809_840 := Aside0.mk ((by rw [hg]; exact Nat.ne_of_lt (IsS90.lt (show IsS90 w _ g809 t833 from by exact IsS90.up HI809.out)) : g809 ≠ gb840)); have NB840_809 := Aside0.mk ((by rw [hg]; exact Nat.ne_of_gt (IsS90.lt (show IsS90 w _ g809 t833 from by exact IsS90.up HI809.out)) : gb840 ≠ g809)); replace HI809 := Aside0.mk (IsS90.below (by exact IsS90.up HI809.out) hb); clear hb hbox hg; have hnb28 := NB839_829.out; have hnc28 := NB829_839.out; have hnb29 := NB839_840.out; have hnc29 := NB840_839.out; have hnb30 := NB839_809.out; have hnc30 := NB809_839.out; obtain ⟨_, _⟩ := cz2 BK839; have hfz31_0 := blk_frozen BK839.out; have hnb32 := NB840_829.out; have hnc32 := NB829_840.out; have hnb33 := NB840_809.out; have hnc33 := NB809_840.out; obtain ⟨_, _⟩ := cz2 BK840; have hfz34_0 := blk_frozen BK840.out; obtain ⟨_, _, _, _, _, _, _⟩ := cz7 BK829; have hfz35_0 := blk_frozen BK829.out) | ((with_reducible refine gate_callee (f := 37) rfl ?_); refine goesL_ (some 41) rfl rfl Try.func37 (by kernel_rfl) rfl #[.agg #[.int .i64 t815, .int .i64 t816, .int .i64 t817, .slice Ao19 t818.length co19, .int .i64 t821, .slice Ao20 t822.length co20, .slice Ao21 t825.length co21], .slice Ao24 t830.length co24] rfl (by (try simp only [List.map_toArray, List.map_cons, List.map_nil]); first | done | rfl | (simp only [List.length_drop, List.length_take]; rfl)) ?_; (with_reducible refine (ship_Level.calls k t815 t816 t817 _ _ t818 t821 _ _ t822 _ _ t825 _ _ t830 t841 t842 t843 t844 _ ?side1 ?side2 ?side3 ?side4 ?side5 ?side6 ?side7 ?side8 A7.out).mono ?_); (case side1 => refine (Kd.R_reads' (e := 85) (base := w.heap.size) (ok := fun k_ => True) (n := t818.length) (c := co19) ?_).2.2; exact (by (with_reducible repeat (first | apply Kd.R_alloc | apply Kd.R_drewN | apply Kd.R_drew)); exact (Kd.R_mono (Kd.R_mono (Kd.R_far (p := ⟨gb840, 1, none⟩) (Kd.R_far (p := ⟨gb840, 0, none⟩) (Kd.R_far (p := ⟨gb839, 1, none⟩) (Kd.R_far (p := ⟨gb839, 0, none⟩) (Kd.R_types (Kd.R_types HO820.out BK839.out (by decide)) BK840.out (by decide)) (fun _ hk => hk.1.2) (.int .i64 t834)) (fun _ hk => hk.1.2) (.int .i64 t835)) (fun _ hk => hk.2) (.int .i64 t836)) (fun _ hk => hk.2) (.int .i64 t837)) (fun _ h_ => h_.1)) (fun _ h_ => h_.1)))); (case side2 => exact (Kd.R_reads' HO820.out).2.1); (case side3 => refine (Kd.S_reads' (e := 59) (base := w.heap.size) (ok := fun k_ => True) (n := t822.length) (c := co20) ?_).2.2; exact (by (with_reducible repeat (first | apply Kd.S_alloc | apply Kd.S_drewN | apply Kd.S_drew)); exact (Kd.S_mono (Kd.S_mono (Kd.S_far (p := ⟨gb840, 1, none⟩) (Kd.S_far (p := ⟨gb840, 0, none⟩) (Kd.S_far (p := ⟨gb839, 1, none⟩) (Kd.S_far (p := ⟨gb839, 0, none⟩) (Kd.S_types (Kd.S_types HO824.out BK839.out (by decide)) BK840.out (by decide)) (fun _ hk => hk.1.2) (.int .i64 t834)) (fun _ hk => hk.1.2) (.int .i64 t835)) (fun _ hk => hk.2) (.int .i64 t836)) (fun _ hk => hk.2) (.int .i64 t837)) (fun _ h_ => h_.1)) (fun _ h_ => h_.1)))); (case side4 => exact (Kd.S_reads' HO824.out).2.1); (case side5 => refine (Kd.R_reads' (e := 79) (base := w.heap.size) (ok := fun k_ => True) (n := t825.length) (c := co21) ?_).2.2; exact (by (with_reducible repeat (first | apply Kd.R_alloc | apply Kd.R_drewN | apply Kd.R_drew)); exact (Kd.R_mono (Kd.R_mono (Kd.R_far (p := ⟨gb840, 1, none⟩) (Kd.R_far (p := ⟨gb840, 0, none⟩) (Kd.R_far (p := ⟨gb839, 1, none⟩) (Kd.R_far (p := ⟨gb839, 0, none⟩) (Kd.R_types (Kd.R_types HO827.out BK839.out (by decide)) BK840.out (by decide)) (fun _ hk => hk.1.2) (.int .i64 t834)) (fun _ hk => hk.1.2) (.int .i64 t835)) (fun _ hk => hk.2) (.int .i64 t836)) (fun _ hk => hk.2) (.int .i64 t837)) (fun _ h_ => h_.1)) (fun _ h_ => h_.1)))); (case side6 => exact (Kd.R_reads' HO827.out).2.1); (case side7 => refine (Kd.R_reads' (e := 3) (base := w.heap.size) (ok := fun k_ => (True ∧ some k_ ≠ (.slice Ao13 y810.length co13 : Value).ownBlock)) (n := t830.length) (c := co24) ?_).2.2; exact (by (with_reducible repeat (first | apply Kd.R_alloc | apply Kd.R_drewN | apply Kd.R_drew)); exact (Kd.R_mono (Kd.R_mono (Kd.R_far (p := ⟨gb840, 1, none⟩) (Kd.R_far (p := ⟨gb840, 0, none⟩) (Kd.R_far (p := ⟨gb839, 1, none⟩) (Kd.R_far (p := ⟨gb839, 0, none⟩) (Kd.R_types (Kd.R_types HO832.out BK839.out (by decide)) BK840.out (by decide)) (fun _ hk => hk.1.2) (.int .i64 t834)) (fun _ hk => hk.1.2) (.int .i64 t835)) (fun _ hk => hk.2) (.int .i64 t836)) (fun _ hk => hk.2) (.int .i64 t837)) (fun _ h_ => h_.1)) (fun _ h_ => h_.1)))); (case side8 => exact (Kd.R_reads' HO832.out).2.1); rintro e w36 ⟨rfl, hb⟩; refine ⟨_, rfl, ?_⟩; replace HO812 := Aside0.mk (Kd.R_below (by (with_reducible repeat (first | apply Kd.R_alloc | apply Kd.R_drewN | apply Kd.R_drew)); exact (Kd.R_mono (Kd.R_mono (Kd.R_far (p := ⟨gb840, 1, none⟩) (Kd.R_far (p := ⟨gb840, 0, none⟩) (Kd.R_far (p := ⟨gb839, 1, none⟩) (Kd.R_far (p := ⟨gb839, 0, none⟩) (Kd.R_types (Kd.R_types HO812.out BK839.out (by decide)) BK840.out (by decide)) (fun _ hk => hk.1.2) (.int .i64 t834)) (fun _ hk => hk.1.2) (.int .i64 t835)) (fun _ hk => hk.2) (.int .i64 t836)) (fun _ hk => hk.2) (.int .i64 t837)) (fun _ h_ => h_.1)) (fun _ h_ => h_.1))) hb); replace HO820 := Aside0.mk (Kd.R_below (by (with_reducible repeat (first | apply Kd.R_alloc | apply Kd.R_drewN | apply Kd.R_drew)); exact (Kd.R_mono (Kd.R_mono (Kd.R_far (p := ⟨gb840, 1, none⟩) (Kd.R_far (p := ⟨gb840, 0, none⟩) (Kd.R_far (p := ⟨gb839, 1, none⟩) (Kd.R_far (p := ⟨gb839, 0, none⟩) (Kd.R_types (Kd.R_types HO820.out BK839.out (by decide)) BK840.out (by decide)) (fun _ hk => hk.1.2) (.int .i64 t834)) (fun _ hk => hk.1.2) (.int .i64 t835)) (fun _ hk => hk.2) (.int .i64 t836)) (fun _ hk => hk.2) (.int .i64 t837)) (fun _ h_ => h_.1)) (fun _ h_ => h_.1))) hb); replace HO824 := Aside0.mk (Kd.S_below (by (with_reducible repeat (first | apply Kd.S_alloc | apply Kd.S_drewN | apply Kd.S_drew)); exact (Kd.S_mono (Kd.S_mono (Kd.S_far (p := ⟨gb840, 1, none⟩) (Kd.S_far (p := ⟨gb840, 0, none⟩) (Kd.S_far (p := ⟨gb839, 1, none⟩) (Kd.S_far (p := ⟨gb839, 0, none⟩) (Kd.S_types (Kd.S_types HO824.out BK839.out (by decide)) BK840.out (by decide)) (fun _ hk => hk.1.2) (.int .i64 t834)) (fun _ hk => hk.1.2) (.int .i64 t835)) (fun _ hk => hk.2) (.int .i64 t836)) (fun _ hk => hk.2) (.int .i64 t837)) (fun _ h_ => h_.1)) (fun _ h_ => h_.1))) hb); replace HO827 := Aside0.mk (Kd.R_below (by (with_reducible repeat (first | apply Kd.R_alloc | apply Kd.R_drewN | apply Kd.R_drew)); exact (Kd.R_mono (Kd.R_mono (Kd.R_far (p := ⟨gb840, 1, none⟩) (Kd.R_far (p := ⟨gb840, 0, none⟩) (Kd.R_far (p := ⟨gb839, 1, none⟩) (Kd.R_far (p := ⟨gb839, 0, none⟩) (Kd.R_types (Kd.R_types HO827.out BK839.out (by decide)) BK840.out (by decide)) (fun _ hk => hk.1.2) (.int .i64 t834)) (fun _ hk => hk.1.2) (.int .i64 t835)) (fun _ hk => hk.2) (.int .i64 t836)) (fun _ hk => hk.2) (.int .i64 t837)) (fun _ h_ => h_.1)) (fun _ h_ => h_.1))) hb); replace HO832 := Aside0.mk (Kd.R_below (by (with_reducible repeat (first | apply Kd.R_alloc | apply Kd.R_drewN | apply Kd.R_drew)); exact (Kd.R_mono (Kd.R_mono (Kd.R_far (p := ⟨gb840, 1, none⟩) (Kd.R_far (p := ⟨gb840, 0, none⟩) (Kd.R_far (p := ⟨gb839, 1, none⟩) (Kd.R_far (p := ⟨gb839, 0, none⟩) (Kd.R_types (Kd.R_types HO832.out BK839.out (by decide)) BK840.out (by decide)) (fun _ hk => hk.1.2) (.int .i64 t834)) (fun _ hk => hk.1.2) (.int .i64 t835)) (fun _ hk => hk.2) (.int .i64 t836)) (fun _ hk => hk.2) (.int .i64 t837)) (fun _ h_ => h_.1)) (fun _ h_ => h_.1))) hb); replace HI809 := Aside0.mk (IsS90.below (show IsS90 w ((((w27.setCell ⟨gb839, 0, none⟩ (.int .i64 t834)).setCell ⟨gb839, 1, none⟩ (.int .i64 t835)).setCell ⟨gb840, 0, none⟩ (.int .i64 t836)).setCell ⟨gb840, 1, none⟩ (.int .i64 t837)) g809 t833 from by exact IsS90.up HI809.out) hb); replace BK829 := Aside0.mk (blk_below (g := gb829) (o := .cells #[.int .i64 t815, .int .i64 t816, .int .i64 t817, .slice Ao19 t818.length co19, .int .i64 t821, .slice Ao20 t822.length co20, .slice Ao21 t825.length co21] 26 (0, 0)) (blk_w BK829.out) hb); replace BK839 := Aside0.mk (blk_below (g := gb839) (o := .cells #[.int .i64 t834, .int .i64 t835] 56 (0, 0)) (by (with_reducible repeat (first | refine blk_drewN ?_ _ | refine blk_drew ?_ | refine blk_alloc ?_ _)); refine blk_far ?_ NB839_840.out _; (with_reducible repeat (first | refine blk_drewN ?_ _ | refine blk_drew ?_ | refine blk_alloc ?_ _)); refine blk_far ?_ NB839_840.out _; (with_reducible repeat (first | refine blk_drewN ?_ _ | refine blk_drew ?_ | refine blk_alloc ?_ _)); refine blk_put (cs := #[.int .i64 t834, .int .i64 0]) ?_ 1 _ rfl; (with_reducible repeat (first | refine blk_drewN ?_ _ | refine blk_drew ?_ | refine blk_alloc ?_ _)); refine blk_put (cs := #[.int .i64 0, .int .i64 0]) ?_ 0 _ rfl; (with_reducible repeat (first | refine blk_drewN ?_ _ | refine blk_drew ?_ | refine blk_alloc ?_ _)); exact BK839.out) hb); replace BK840 := Aside0.mk (blk_below (g := gb840) (o := .cells #[.int .i64 t836, .int .i64 t837] 56 (0, 0)) (by (with_reducible repeat (first | refine blk_drewN ?_ _ | refine blk_drew ?_ | refine blk_alloc ?_ _)); refine blk_put (cs := #[.int .i64 t836, .int .i64 0]) ?_ 1 _ rfl; (with_reducible repeat (first | refine blk_drewN ?_ _ | refine blk_drew ?_ | refine blk_alloc ?_ _)); refine blk_put (cs := #[.int .i64 0, .int .i64 0]) ?_ 0 _ rfl; exact blk_w BK840.out) hb); replace HB := bl_x HB hb; (try clear hb); (try clear hk); (try clear hi)) | ((with_reducible refine gate_dst (N := 10) rfl ?_); (try (refine gate_guard (by rfl) ?_; dsimp only)); refine box_event ?hg (N := 10) ?hd (cs := #[.int .i64 0, .int .i64 0]) (t := 56) ?hr ?_; (case hd => rfl); (case hg => rfl); (case hr => first | (go_simp; done) | (go_simp; rfl)); intro gb845 hg w37 hbox hb; replace HO812 := Aside0.mk (Kd.R_below (Kd.R_x HO812.out) hb); replace HO820 := Aside0.mk (Kd.R_below (Kd.R_x HO820.out) hb); replace HO824 := Aside0.mk (Kd.S_below (Kd.S_x HO824.out) hb); replace HO827 := Aside0.mk (Kd.R_below (Kd.R_x HO827.out) hb); replace HO832 := Aside0.mk (Kd.R_below (Kd.R_x HO832.out) hb); have BK845 := Aside0.mk (hbox); have GW845 := Aside0.mk ((by rw [hg]; exact (below_size (by exact below_y HB.out)) : w.heap.size ≤ gb845)); have GE845 := Aside0.mk ((by rw [hg]; exact (below_size (by exact below_y HB.out)) : w.heap.size ≤ gb845)); replace HB := bl_x HB hb; have NB829_845 := Aside0.mk ((by rw [hg]; exact Nat.ne_of_lt (blk_lt (g := gb829) (o := .cells #[.int .i64 t815, .int .i64 t816, .int .i64 t817, .slice Ao19 t818.length co19, .int .i64 t821, .slice Ao20 t822.length co20, .slice Ao21 t825.length co21] 26 (0, 0)) (blk_x BK829.out)) : gb829 ≠ gb845)); have NB845_829 := Aside0.mk ((by rw [hg]; exact Nat.ne_of_gt (blk_lt (g := gb829) (o := .cells #[.int .i64 t815, .int .i64 t816, .int .i64 t817, .slice Ao19 t818.length co19, .int .i64 t821, .slice Ao20 t822.length co20, .slice Ao21 t825.length co21] 26 (0, 0)) (blk_x BK829.out)) : gb845 ≠ gb829)); replace BK829 := Aside0.mk (blk_below (blk_x BK829.out) hb); have NB839_845 := Aside0.mk ((by rw [hg]; exact Nat.ne_of_lt (blk_lt (g := gb839) (o := .cells #[.int .i64 t834, .int .i64 t835] 56 (0, 0)) (blk_x BK839.out)) : gb839 ≠ gb845)); have NB845_839 := Aside0.mk ((by rw [hg]; exact Nat.ne_of_gt (blk_lt (g := gb839) (o := .cells #[.int .i64 t834, .int .i64 t835] 56 (0, 0)) (blk_x BK839.out)) : gb845 ≠ gb839)); replace BK839 := Aside0.mk (blk_below (blk_x BK839.out) hb); have NB840_845 := Aside0.mk ((by rw [hg]; exact Nat.ne_of_lt (blk_lt (g := gb840) (o := .cells #[.int .i64 t836, .int .i64 t837] 56 (0, 0)) (blk_x BK840.out)) : gb840 ≠ gb845)); have NB845_840 := Aside0.mk ((by rw [hg]; exact Nat.ne_of_gt (blk_lt (g := gb840) (o := .cells #[.int .i64 t836, .int .i64 t837] 56 (0, 0)) (blk_x BK840.out)) : gb845 ≠ gb840)); replace BK840 := Aside0.mk (blk_below (blk_x BK840.out) hb); have NB809_845 := Aside0.mk ((by rw [hg]; exact Nat.ne_of_lt (IsS90.lt (show IsS90 w _ g809 t833 from by exact IsS90.up HI809.out)) : g809 ≠ gb845)); have NB845_809 := Aside0.mk ((by rw [hg]; exact Nat.ne_of_gt (IsS90.lt (show IsS90 w _ g809 t833 from by exact IsS90.up HI809.out)) : gb845 ≠ g809)); replace HI809 := Aside0.mk (IsS90.below (by exact IsS90.up HI809.out) hb); clear hb hbox hg; have hnb38 := NB845_829.out; have hnc38 := NB829_845.out; have hnb39 := NB845_839.out; have hnc39 := NB839_845.out; have hnb40 := NB845_840.out; have hnc40 := NB840_845.out; have hnb41 := NB845_809.out; have hnc41 := NB809_845.out; obtain ⟨_, _⟩ := cz2 BK845; have hfz42_0 := blk_frozen BK845.out; obtain ⟨_, _, _, _, _, _, _⟩ := cz7 BK829; have hfz43_0 := blk_frozen BK829.out) | ((with_reducible refine gate_callee (f := 22) rfl ?_); refine goesL_ (some 48) rfl rfl Try.func22 (by kernel_rfl) rfl #[.agg #[.int .i64 t815, .int .i64 t816, .int .i64 t817, .slice Ao19 t818.length co19, .int .i64 t821, .slice Ao20 t822.length co20, .slice Ao21 t825.length co21], .slice Ao24 t830.length co24] rfl (by (try simp only [List.map_toArray, List.map_cons, List.map_nil]); first | done | rfl | (simp only [List.length_drop, List.length_take]; rfl)) ?_; (with_reducible refine (ship_Sail.calls t815 t816 t817 _ _ t818 t821 _ _ t822 _ _ t825 _ _ t830 t846 t847 t850 _ ?side1 ?side2 ?side3 ?side4 ?side5 ?side6 ?side7 ?side8 A8.out).mono ?_); (case side1 => refine (Kd.R_reads' (e := 85) (base := w.heap.size) (ok := fun k_ => True) (n := t818.length) (c := co19) ?_).2.2; exact (by (with_reducible repeat (first | apply Kd.R_alloc | apply Kd.R_drewN | apply Kd.R_drew)); exact (Kd.R_mono (Kd.R_far (p := ⟨gb845, 1, none⟩) (Kd.R_far (p := ⟨gb845, 0, none⟩) (Kd.R_types HO820.out BK845.out (by decide)) (fun _ hk => hk.2) (.int .i64 t842)) (fun _ hk => hk.2) (.int .i64 t843)) (fun _ h_ => h_.1)))); (case side2 => exact (Kd.R_reads' HO820.out).2.1); (case side3 => refine (Kd.S_reads' (e := 59) (base := w.heap.size) (ok := fun k_ => True) (n := t822.length) (c := co20) ?_).2.2; exact (by (with_reducible repeat (first | apply Kd.S_alloc | apply Kd.S_drewN | apply Kd.S_drew)); exact (Kd.S_mono (Kd.S_far (p := ⟨gb845, 1, none⟩) (Kd.S_far (p := ⟨gb845, 0, none⟩) (Kd.S_types HO824.out BK845.out (by decide)) (fun _ hk => hk.2) (.int .i64 t842)) (fun _ hk => hk.2) (.int .i64 t843)) (fun _ h_ => h_.1)))); (case side4 => exact (Kd.S_reads' HO824.out).2.1); (case side5 => refine (Kd.R_reads' (e := 79) (base := w.heap.size) (ok := fun k_ => True) (n := t825.length) (c := co21) ?_).2.2; exact (by (with_reducible repeat (first | apply Kd.R_alloc | apply Kd.R_drewN | apply Kd.R_drew)); exact (Kd.R_mono (Kd.R_far (p := ⟨gb845, 1, none⟩) (Kd.R_far (p := ⟨gb845, 0, none⟩) (Kd.R_types HO827.out BK845.out (by decide)) (fun _ hk => hk.2) (.int .i64 t842)) (fun _ hk => hk.2) (.int .i64 t843)) (fun _ h_ => h_.1)))); (case side6 => exact (Kd.R_reads' HO827.out).2.1); (case side7 => refine (Kd.R_reads' (e := 3) (base := w.heap.size) (ok := fun k_ => (True ∧ some k_ ≠ (.slice Ao13 y810.length co13 : Value).ownBlock)) (n := t830.length) (c := co24) ?_).2.2; exact (by (with_reducible repeat (first | apply Kd.R_alloc | apply Kd.R_drewN | apply Kd.R_drew)); exact (Kd.R_mono (Kd.R_far (p := ⟨gb845, 1, none⟩) (Kd.R_far (p := ⟨gb845, 0, none⟩) (Kd.R_types HO832.out BK845.out (by decide)) (fun _ hk => hk.2) (.int .i64 t842)) (fun _ hk => hk.2) (.int .i64 t843)) (fun _ h_ => h_.1)))); (case side8 => exact (Kd.R_reads' HO832.out).2.1); rintro e w44 ⟨v848, rfl, ho0, hb⟩; refine ⟨_, rfl, ?_⟩; replace HO812 := Aside0.mk (Kd.R_below (by (with_reducible repeat (first | apply Kd.R_alloc | apply Kd.R_drewN | apply Kd.R_drew)); exact (Kd.R_mono (Kd.R_far (p := ⟨gb845, 1, none⟩) (Kd.R_far (p := ⟨gb845, 0, none⟩) (Kd.R_types HO812.out BK845.out (by decide)) (fun _ hk => hk.2) (.int .i64 t842)) (fun _ hk => hk.2) (.int .i64 t843)) (fun _ h_ => h_.1))) hb); replace HO820 := Aside0.mk (Kd.R_below (by (with_reducible repeat (first | apply Kd.R_alloc | apply Kd.R_drewN | apply Kd.R_drew)); exact (Kd.R_mono (Kd.R_far (p := ⟨gb845, 1, none⟩) (Kd.R_far (p := ⟨gb845, 0, none⟩) (Kd.R_types HO820.out BK845.out (by decide)) (fun _ hk => hk.2) (.int .i64 t842)) (fun _ hk => hk.2) (.int .i64 t843)) (fun _ h_ => h_.1))) hb); replace HO824 := Aside0.mk (Kd.S_below (by (with_reducible repeat (first | apply Kd.S_alloc | apply Kd.S_drewN | apply Kd.S_drew)); exact (Kd.S_mono (Kd.S_far (p := ⟨gb845, 1, none⟩) (Kd.S_far (p := ⟨gb845, 0, none⟩) (Kd.S_types HO824.out BK845.out (by decide)) (fun _ hk => hk.2) (.int .i64 t842)) (fun _ hk => hk.2) (.int .i64 t843)) (fun _ h_ => h_.1))) hb); replace HO827 := Aside0.mk (Kd.R_below (by (with_reducible repeat (first | apply Kd.R_alloc | apply Kd.R_drewN | apply Kd.R_drew)); exact (Kd.R_mono (Kd.R_far (p := ⟨gb845, 1, none⟩) (Kd.R_far (p := ⟨gb845, 0, none⟩) (Kd.R_types HO827.out BK845.out (by decide)) (fun _ hk => hk.2) (.int .i64 t842)) (fun _ hk => hk.2) (.int .i64 t843)) (fun _ h_ => h_.1))) hb); replace HO832 := Aside0.mk (Kd.R_below (by (with_reducible repeat (first | apply Kd.R_alloc | apply Kd.R_drewN | apply Kd.R_drew)); exact (Kd.R_mono (Kd.R_far (p := ⟨gb845, 1, none⟩) (Kd.R_far (p := ⟨gb845, 0, none⟩) (Kd.R_types HO832.out BK845.out (by decide)) (fun _ hk => hk.2) (.int .i64 t842)) (fun _ hk => hk.2) (.int .i64 t843)) (fun _ h_ => h_.1))) hb); have HO849 := Aside0.mk (Kd.R_lower (Kd.R_newB (Kd.R_newB (Kd.R_newB ho0 (g := gb839) (o := .cells #[.int .i64 t834, .int .i64 t835] 56 (0, 0)) (blk_w BK839.out)) (g := gb840) (o := .cells #[.int .i64 t836, .int .i64 t837] 56 (0, 0)) (blk_w BK840.out)) (g := gb845) (o := .cells #[.int .i64 t842, .int .i64 t843] 56 (0, 0)) (by (with_reducible repeat (first | refine blk_drewN ?_ _ | refine blk_drew ?_ | refine blk_alloc ?_ _)); refine blk_put (cs := #[.int .i64 t842, .int .i64 0]) ?_ 1 _ rfl; (with_reducible repeat (first | refine blk_drewN ?_ _ | refine blk_drew ?_ | refine blk_alloc ?_ _)); refine blk_put (cs := #[.int .i64 0, .int .i64 0]) ?_ 0 _ rfl; (with_reducible repeat (first | refine blk_drewN ?_ _ | refine blk_drew ?_ | refine blk_alloc ?_ _)); exact BK845.out)) (below_size (by exact below_y HB.out))); replace HI809 := Aside0.mk (IsS90.below (show IsS90 w ((w37.setCell ⟨gb845, 0, none⟩ (.int .i64 t842)).setCell ⟨gb845, 1, none⟩ (.int .i64 t843)) g809 t833 from by exact IsS90.up HI809.out) hb); replace BK829 := Aside0.mk (blk_below (g := gb829) (o := .cells #[.int .i64 t815, .int .i64 t816, .int .i64 t817, .slice Ao19 t818.length co19, .int .i64 t821, .slice Ao20 t822.length co20, .slice Ao21 t825.length co21] 26 (0, 0)) (blk_w BK829.out) hb); replace BK839 := Aside0.mk (blk_below (g := gb839) (o := .cells #[.int .i64 t834, .int .i64 t835] 56 (0, 0)) (blk_w BK839.out) hb); replace BK840 := Aside0.mk (blk_below (g := gb840) (o := .cells #[.int .i64 t836, .int .i64 t837] 56 (0, 0)) (blk_w BK840.out) hb); replace BK845 := Aside0.mk (blk_below (g := gb845) (o := .cells #[.int .i64 t842, .int .i64 t843] 56 (0, 0)) (by (with_reducible repeat (first | refine blk_drewN ?_ _ | refine blk_drew ?_ | refine blk_alloc ?_ _)); refine blk_put (cs := #[.int .i64 t842, .int .i64 0]) ?_ 1 _ rfl; (with_reducible repeat (first | refine blk_drewN ?_ _ | refine blk_drew ?_ | refine blk_alloc ?_ _)); refine blk_put (cs := #[.int .i64 0, .int .i64 0]) ?_ 0 _ rfl; (with_reducible repeat (first | refine blk_drewN ?_ _ | refine blk_drew ?_ | refine blk_alloc ?_ _)); exact BK845.out) hb); replace HB := bl_x HB hb; (try clear hb); (try clear hk); (try clear hi); (try clear ho0)))
 (try simp only [Act.put, put_x])
 go_cut [69] (fun v69 wc => ∃ (kq : Nat) (x69_8 : Bool), v69 = .bool x69_8 ∧ Aside0 (swarflaw07_ShipTrue.j0 kq t830 t841 t846 t847 x69_8 t833 t815 t816 t817 t818 t821 t822 t825 t834 t835 t836 t837 t842 t843 = some r) ∧ Aside0 (kq ≤ k) ∧ Aside0 (Kd.R (Kd.int .i64) 3 wc w.heap.size (fun _ => True) (.slice Ao24 t830.length co24) t830) ∧ Aside0 (Kd.R k56 56 wc w.heap.size (fun k_ => k_ ≠ gb839 ∧ k_ ≠ gb840 ∧ k_ ≠ gb845) v848 t847) ∧ Aside0 (Kd.R k85 85 wc w.heap.size (fun _ => True) (.slice Ao19 t818.length co19) t818) ∧ Aside0 (Kd.S k59 59 wc w.heap.size (fun _ => True) (.slice Ao20 t822.length co20) t822) ∧ Aside0 (Kd.R k79 79 wc w.heap.size (fun _ => True) (.slice Ao21 t825.length co21) t825) ∧ Aside0 (wc.heap[gb829]? = some (.cells #[.int .i64 t815, .int .i64 t816, .int .i64 t817, (.slice Ao19 t818.length co19), .int .i64 t821, (.slice Ao20 t822.length co20), (.slice Ao21 t825.length co21)] 26 (0, 0))) ∧ Aside0 (wc.heap[gb839]? = some (.cells #[.int .i64 t834, .int .i64 t835] 56 (0, 0))) ∧ Aside0 (wc.heap[gb840]? = some (.cells #[.int .i64 t836, .int .i64 t837] 56 (0, 0))) ∧ Aside0 (wc.heap[gb845]? = some (.cells #[.int .i64 t842, .int .i64 t843] 56 (0, 0))) ∧ Aside0 (IsS90 w wc g809 t833) ∧ Aside0 (Below w.heap.size w wc))
 case first =>
  have H := HC9.out
  clear HC9
  by_cases c45 : t838 = 0
  ·
   rw [if_pos c45] at H
   have c45b0 : (t838 == 0) = true := beq_iff_eq.mpr c45
   have c45b1 : (t838 != 0) = false := bne_eq_false_iff_eq.mpr c45
   clear c45
   (first | rw [c45b0] | (simp only [i64_w, i32_w]; rw [c45b0]) | skip)
   by_cases c46 : t844 = 0
   ·
    rw [if_pos c46] at H
    have c46b0 : (t844 == 0) = true := beq_iff_eq.mpr c46
    have c46b1 : (t844 != 0) = false := bne_eq_false_iff_eq.mpr c46
    clear c46
    by_cases c47 : t850 = 0
    ·
     rw [if_pos c47] at H
     have c47b0 : (t850 == 0) = true := beq_iff_eq.mpr c47
     have c47b1 : (t850 != 0) = false := bne_eq_false_iff_eq.mpr c47
     clear c47
     have H' := Aside0.mk H
     clear H
     obtain ⟨Ao48, co48, eo48⟩ := Kd.R_slice HO849.out
     subst eo48
     have hnb49 := NB829_839.out
     have hnc49 := NB839_829.out
     have hnb50 := NB829_840.out
     have hnc50 := NB840_829.out
     have hnb51 := NB829_845.out
     have hnc51 := NB845_829.out
     have hnb52 := NB829_809.out
     have hnc52 := NB809_829.out
     obtain ⟨_, _, _, _, _, _, _⟩ := cz7 BK829
     have hfz53_0 := blk_frozen BK829.out
     go_wp2
     go_meet
     case rel => exact ⟨_, (decide ((t847.length : Int) > (t822.length : Int))), (by first | rfl | (simp; done) | (simp [*]; done)), H', ⟨by first | omega | exact Nat.le_refl _⟩, ⟨by (with_reducible repeat (first | apply Kd.R_alloc | apply Kd.R_drewN | apply Kd.R_drew)); exact Kd.R_mono HO832.out (fun _ hk => trivial)⟩, ⟨by (with_reducible repeat (first | apply Kd.R_alloc | apply Kd.R_drewN | apply Kd.R_drew)); exact Kd.R_mono HO849.out (fun _ hk => ⟨hk.1.1.2, ⟨hk.1.2, hk.2⟩⟩)⟩, ⟨by (with_reducible repeat (first | apply Kd.R_alloc | apply Kd.R_drewN | apply Kd.R_drew)); exact HO820.out⟩, ⟨by (with_reducible repeat (first | apply Kd.S_alloc | apply Kd.S_drewN | apply Kd.S_drew)); exact HO824.out⟩, ⟨by (with_reducible repeat (first | apply Kd.R_alloc | apply Kd.R_drewN | apply Kd.R_drew)); exact HO827.out⟩, ⟨blk_x BK829.out⟩, ⟨blk_x BK839.out⟩, ⟨blk_x BK840.out⟩, ⟨blk_x BK845.out⟩, ⟨by exact IsS90.up HI809.out⟩, ⟨by exact below_y HB.out⟩⟩
    ·
     rw [if_neg c47] at H
     have c47b0 : (t850 == 0) = false := beq_eq_false_iff_ne.mpr c47
     have c47b1 : (t850 != 0) = true := bne_iff_ne.mpr c47
     have H' := Aside0.mk H
     clear H
     go_wp2
     go_meet
     case rel => exact ⟨_, (true), (by first | rfl | (simp; done) | (simp [*]; done)), H', ⟨by first | omega | exact Nat.le_refl _⟩, ⟨by (with_reducible repeat (first | apply Kd.R_alloc | apply Kd.R_drewN | apply Kd.R_drew)); exact Kd.R_mono HO832.out (fun _ hk => trivial)⟩, ⟨by (with_reducible repeat (first | apply Kd.R_alloc | apply Kd.R_drewN | apply Kd.R_drew)); exact Kd.R_mono HO849.out (fun _ hk => ⟨hk.1.1.2, ⟨hk.1.2, hk.2⟩⟩)⟩, ⟨by (with_reducible repeat (first | apply Kd.R_alloc | apply Kd.R_drewN | apply Kd.R_drew)); exact HO820.out⟩, ⟨by (with_reducible repeat (first | apply Kd.S_alloc | apply Kd.S_drewN | apply Kd.S_drew)); exact HO824.out⟩, ⟨by (with_reducible repeat (first | apply Kd.R_alloc | apply Kd.R_drewN | apply Kd.R_drew)); exact HO827.out⟩, ⟨blk_x BK829.out⟩, ⟨blk_x BK839.out⟩, ⟨blk_x BK840.out⟩, ⟨blk_x BK845.out⟩, ⟨by exact IsS90.up HI809.out⟩, ⟨by exact below_y HB.out⟩⟩
   ·
    rw [if_neg c46] at H
    have c46b0 : (t844 == 0) = false := beq_eq_false_iff_ne.mpr c46
    have c46b1 : (t844 != 0) = true := bne_iff_ne.mpr c46
    have H' := Aside0.mk H
    clear H
    go_wp2
    go_meet
    case rel => exact ⟨_, (true), (by first | rfl | (simp; done) | (simp [*]; done)), H', ⟨by first | omega | exact Nat.le_refl _⟩, ⟨by (with_reducible repeat (first | apply Kd.R_alloc | apply Kd.R_drewN | apply Kd.R_drew)); exact Kd.R_mono HO832.out (fun _ hk => trivial)⟩, ⟨by (with_reducible repeat (first | apply Kd.R_alloc | apply Kd.R_drewN | apply Kd.R_drew)); exact Kd.R_mono HO849.out (fun _ hk => ⟨hk.1.1.2, ⟨hk.1.2, hk.2⟩⟩)⟩, ⟨by (with_reducible repeat (first | apply Kd.R_alloc | apply Kd.R_drewN | apply Kd.R_drew)); exact HO820.out⟩, ⟨by (with_reducible repeat (first | apply Kd.S_alloc | apply Kd.S_drewN | apply Kd.S_drew)); exact HO824.out⟩, ⟨by (with_reducible repeat (first | apply Kd.R_alloc | apply Kd.R_drewN | apply Kd.R_drew)); exact HO827.out⟩, ⟨blk_x BK829.out⟩, ⟨blk_x BK839.out⟩, ⟨blk_x BK840.out⟩, ⟨blk_x BK845.out⟩, ⟨by exact IsS90.up HI809.out⟩, ⟨by exact below_y HB.out⟩⟩
  ·
   rw [if_neg c45] at H
   have c45b0 : (t838 == 0) = false := beq_eq_false_iff_ne.mpr c45
   have c45b1 : (t838 != 0) = true := bne_iff_ne.mpr c45
   (first | rw [c45b0] | (simp only [i64_w, i32_w]; rw [c45b0]) | skip)
   have H' := Aside0.mk H
   clear H
   go_wp2
   go_meet
   case rel => exact ⟨_, (true), (by first | rfl | (simp; done) | (simp [*]; done)), H', ⟨by first | omega | exact Nat.le_refl _⟩, ⟨by (with_reducible repeat (first | apply Kd.R_alloc | apply Kd.R_drewN | apply Kd.R_drew)); exact Kd.R_mono HO832.out (fun _ hk => trivial)⟩, ⟨by (with_reducible repeat (first | apply Kd.R_alloc | apply Kd.R_drewN | apply Kd.R_drew)); exact Kd.R_mono HO849.out (fun _ hk => ⟨hk.1.1.2, ⟨hk.1.2, hk.2⟩⟩)⟩, ⟨by (with_reducible repeat (first | apply Kd.R_alloc | apply Kd.R_drewN | apply Kd.R_drew)); exact HO820.out⟩, ⟨by (with_reducible repeat (first | apply Kd.S_alloc | apply Kd.S_drewN | apply Kd.S_drew)); exact HO824.out⟩, ⟨by (with_reducible repeat (first | apply Kd.R_alloc | apply Kd.R_drewN | apply Kd.R_drew)); exact HO827.out⟩, ⟨blk_x BK829.out⟩, ⟨blk_x BK839.out⟩, ⟨blk_x BK840.out⟩, ⟨blk_x BK845.out⟩, ⟨by exact IsS90.up HI809.out⟩, ⟨by exact below_y HB.out⟩⟩
 case rest =>
  clear HC9
  obtain ⟨kq, x69_8, rfl, HA, HJ8, HO_5, HO_13, HO_830003, HO_830005, HO_830006, BK829, BK839, BK840, BK845, HI809, HB⟩ := hcut
  cases kq with
  | zero => exact absurd HA.out (by simp [swarflaw07_ShipTrue.j0])
  | succ kj8 =>
   have H := HA.out
   clear HA
   simp only [swarflaw07_ShipTrue.j0] at H
   by_cases c54 : x69_8 = true
   ·
    subst c54
    have H1 : (some false) = some r := by rw [if_pos rfl] at H; exact H
    clear H
    have H := H1
    clear H1
    exact absurd ((Option.some.inj H).trans hrt.out) (by decide)
   ·
    replace c54 := Bool.eq_false_iff.mpr c54
    subst c54
    have H1 : (swarflaw07_ShipTrue.l0 kj8 t830 t841 t846 t847 0 t833 t815 t816 t817 t818 t821 t822 t825 t834 t835 t836 t837 t842 t843) = some r := by rw [if_neg (show ¬ (false = true) by decide)] at H; exact H
    clear H
    have H := H1
    clear H1
    have H' := Aside0.mk H
    clear H
    go_wp2
    go_loopg [15] kj8 (fun kq v15 w' => ∃ (x15_2 : Int) (x810000_2 : Int), v15 = .int .i64 x15_2 ∧ Aside0 (swarflaw07_ShipTrue.l0 kq t830 t841 t846 t847 x15_2 x810000_2 t815 t816 t817 t818 t821 t822 t825 t834 t835 t836 t837 t842 t843 = some r) ∧ Aside0 (kq ≤ kj8) ∧ Aside0 (Kd.R (Kd.int .i64) 3 w' w.heap.size (fun _ => True) (.slice Ao24 t830.length co24) t830) ∧ Aside0 (Kd.R k56 56 w' w.heap.size (fun k_ => k_ ≠ gb839 ∧ k_ ≠ gb840 ∧ k_ ≠ gb845) v848 t847) ∧ Aside0 (Kd.R k85 85 w' w.heap.size (fun _ => True) (.slice Ao19 t818.length co19) t818) ∧ Aside0 (Kd.S k59 59 w' w.heap.size (fun _ => True) (.slice Ao20 t822.length co20) t822) ∧ Aside0 (Kd.R k79 79 w' w.heap.size (fun _ => True) (.slice Ao21 t825.length co21) t825) ∧ Aside0 (w'.heap[gb829]? = some (.cells #[.int .i64 t815, .int .i64 t816, .int .i64 t817, (.slice Ao19 t818.length co19), .int .i64 t821, (.slice Ao20 t822.length co20), (.slice Ao21 t825.length co21)] 26 (0, 0))) ∧ Aside0 (w'.heap[gb839]? = some (.cells #[.int .i64 t834, .int .i64 t835] 56 (0, 0))) ∧ Aside0 (w'.heap[gb840]? = some (.cells #[.int .i64 t836, .int .i64 t837] 56 (0, 0))) ∧ Aside0 (w'.heap[gb845]? = some (.cells #[.int .i64 t842, .int .i64 t843] 56 (0, 0))) ∧ Aside0 (IsS90 w w' g809 x810000_2) ∧ Aside0 (Below w.heap.size w w'))
    case atStart => exact ⟨(0), (t833), (by first | rfl | (simp; done) | (simp [*]; done)), H', ⟨Nat.le_refl _⟩, ⟨by (with_reducible repeat (first | apply Kd.R_alloc | apply Kd.R_drewN | apply Kd.R_drew)); exact HO_5.out⟩, ⟨by (with_reducible repeat (first | apply Kd.R_alloc | apply Kd.R_drewN | apply Kd.R_drew)); exact HO_13.out⟩, ⟨by (with_reducible repeat (first | apply Kd.R_alloc | apply Kd.R_drewN | apply Kd.R_drew)); exact HO_830003.out⟩, ⟨by (with_reducible repeat (first | apply Kd.S_alloc | apply Kd.S_drewN | apply Kd.S_drew)); exact HO_830005.out⟩, ⟨by (with_reducible repeat (first | apply Kd.R_alloc | apply Kd.R_drewN | apply Kd.R_drew)); exact HO_830006.out⟩, ⟨blk_x BK829.out⟩, ⟨blk_x BK839.out⟩, ⟨blk_x BK840.out⟩, ⟨blk_x BK845.out⟩, ⟨by exact IsS90.up HI809.out⟩, ⟨by exact below_y HB.out⟩⟩
    case round =>
     clear H'
     obtain ⟨x15_2, x810000_2, rfl, HA, HK2, HO_5, HO_13, HO_830003, HO_830005, HO_830006, BK829, BK839, BK840, BK845, HI809, HB⟩ := hrel
     cases gk with
     | zero => exact absurd HA.out (by simp [swarflaw07_ShipTrue.l0])
     | succ k2 =>
      have H := HA.out
      clear HA
      simp only [swarflaw07_ShipTrue.l0] at H
      by_cases c55 : x15_2 < 5
      ·
       rw [if_pos c55] at H
       have c55b0 : decide (x15_2 < 5) = true := decide_eq_true c55
       clear c55
       replace H := Option.bind_eq_some_iff.mp H
       obtain ⟨⟨t852, t855, t858, t861⟩, A560, H⟩ := H
       try dsimp only at H
       have A56 := Aside0.mk A560
       clear A560
       replace H := Option.bind_eq_some_iff.mp H
       obtain ⟨⟨t862, t863, t864⟩, A570, H⟩ := H
       try dsimp only at H
       have A57 := Aside0.mk A570
       clear A570
       have HC58 := Aside0.mk H
       clear H
       try go_wp2
       replace HO_5 := Aside0.mk (Kd.R_drew HO_5.out)
       replace HO_13 := Aside0.mk (Kd.R_drew HO_13.out)
       replace HO_830003 := Aside0.mk (Kd.R_drew HO_830003.out)
       replace HO_830005 := Aside0.mk (Kd.S_drew HO_830005.out)
       replace HO_830006 := Aside0.mk (Kd.R_drew HO_830006.out)
       replace BK829 := Aside0.mk (blk_drew BK829.out)
       replace BK839 := Aside0.mk (blk_drew BK839.out)
       replace BK840 := Aside0.mk (blk_drew BK840.out)
       replace BK845 := Aside0.mk (blk_drew BK845.out)
       replace HI809 := Aside0.mk (IsS90.drew HI809.out)
       replace HB := Aside0.mk (below_drew1 HB.out)
       refine start_ (n := 13) (S := fun w' => w'.cell? ⟨gb829, 0, none⟩ = some (.int .i64 t815) ∧ w'.cell? ⟨gb829, 1, none⟩ = some (.int .i64 t816) ∧ w'.cell? ⟨gb829, 2, none⟩ = some (.int .i64 t817) ∧ w'.cell? ⟨gb829, 3, none⟩ = some (.slice Ao19 t818.length co19) ∧ w'.cell? ⟨gb829, 4, none⟩ = some (.int .i64 t821) ∧ w'.cell? ⟨gb829, 5, none⟩ = some (.slice Ao20 t822.length co20) ∧ w'.cell? ⟨gb829, 6, none⟩ = some (.slice Ao21 t825.length co21)) (ds := []) #[false, false, false, false, false, false, false, false, false, false, false, false, false] (by kernel_rfl) rfl rfl ⟨(blk_cell BK829.out 0).trans rfl, (blk_cell BK829.out 1).trans rfl, (blk_cell BK829.out 2).trans rfl, (blk_cell BK829.out 3).trans rfl, (blk_cell BK829.out 4).trans rfl, (blk_cell BK829.out 5).trans rfl, (blk_cell BK829.out 6).trans rfl⟩ (fun hHeld => ?_); refine with_tabW swarflaw07_ShipTrue.tab12 swarflaw07_ShipTrue.bits12 (fun HT_ HW_ => ?_)
       generalize wr.drew = w59 at HO_5 HO_13 HO_830003 HO_830005 HO_830006 BK829 BK839 BK840 BK845 HI809 HB hHeld ⊢
       refine pure_t 0 (some 75) (bz 13 1) HT_ ?_
       refine pure_t 4 (some 79) (bz 13 17) HT_ ?_
       refine take_ (i := 1) (N := some 76) (v := ?_) (a' := ?_) (bz 13 19) rfl rfl (take_ofW HT_.out HW_.out (by kernel_rfl)) (fun _ _ _ h => h) (Or.inl ⟨by rfl, ?_⟩) hHeld ?_ ?_
       rotate_left; (rintro w' ⟨s0, s1, s2, s3, s4, s5, s6⟩; go_simp; with_reducible rfl); rotate_left; (simp only [Act.put, put_x, i64_w, i32_w]; rfl)
       refine take_ (i := 3) (N := some 78) (v := ?_) (a' := ?_) (bz 13 27) rfl rfl (take_ofW HT_.out HW_.out (by kernel_rfl)) (fun _ _ _ h => h) (Or.inl ⟨by rfl, ?_⟩) hHeld ?_ ?_
       rotate_left; (rintro w' ⟨s0, s1, s2, s3, s4, s5, s6⟩; go_simp; with_reducible rfl); rotate_left; (simp only [Act.put, put_x, i64_w, i32_w]; rfl)
       refine one_ (i := 2) (N := some 77) (bz 13 31) rfl rfl (one_of HT_.out (by kernel_rfl)) (by decide) (fun K hK => ?_)
       refine goes_ Try.func42 (by kernel_rfl) rfl #[.pointer (some ⟨g809, 0, none⟩), .agg #[.int .i64 t815, .int .i64 t816, .int .i64 t817, .slice Ao19 t818.length co19, .int .i64 t821, .slice Ao20 t822.length co20, .slice Ao21 t825.length co21]] (by rfl) rfl rfl (by (try simp only [List.map_toArray, List.map_cons, List.map_nil]); first | done | rfl | (simp only [List.length_drop, List.length_take]; rfl)) ?_
       with_reducible refine (swarflaw07_factOf.calls g809 x810000_2 t815 t816 t817 _ _ t818 t821 _ _ t822 _ _ t825 t852 t855 t858 t861 w _ ?side1 ?side2 ?side3 ?side4 ?side5 ?side6 ?side7 ?side8 A56.out).mono ?_
       (case side1 => exact IsS90.up HI809.out)
       (case side2 => exact below_y HB.out)
       (case side3 => exact Kd.C_foot_own (IsS90.apart (show IsS90 w _ g809 x810000_2 from by exact IsS90.up HI809.out) (Kd.R_x HO_830003.out) (by decide)) (fun _ h_ => h_.2))
       (case side4 => exact (Kd.R_reads' HO_830003.out).2.1)
       (case side5 => exact Kd.C_foot_own ((Kd.S_R (IsS90.apartS (show IsS90 w _ g809 x810000_2 from by exact IsS90.up HI809.out) (Kd.S_x HO_830005.out) (by decide)))) (fun _ h_ => h_.2))
       (case side6 => exact (Kd.S_reads' HO_830005.out).2.1)
       (case side7 => exact Kd.C_foot_own (IsS90.apart (show IsS90 w _ g809 x810000_2 from by exact IsS90.up HI809.out) (Kd.R_x HO_830006.out) (by decide)) (fun _ h_ => h_.2))
       (case side8 => exact (Kd.R_reads' HO_830006.out).2.1)
       rintro e w60 ⟨v853, v856, v859, rfl, ho0, ho1, ho2, hi, hb, hk⟩
       refine ⟨_, rfl, ?_⟩
       replace HO_13 := Aside0.mk (Kd.R_mono (Kd.R_keep (IsS90.apart (show IsS90 w _ g809 x810000_2 from by exact IsS90.up HI809.out) (Kd.R_x HO_13.out) (by decide)) hk (fun _ h => h.2)) (fun _ h => h.1))
       replace HO_830003 := Aside0.mk (Kd.R_mono (Kd.R_keep (IsS90.apart (show IsS90 w _ g809 x810000_2 from by exact IsS90.up HI809.out) (Kd.R_x HO_830003.out) (by decide)) hk (fun _ h => h.2)) (fun _ h => h.1))
       replace HO_830005 := Aside0.mk (Kd.S_mono (Kd.S_keep (IsS90.apartS (show IsS90 w _ g809 x810000_2 from by exact IsS90.up HI809.out) (Kd.S_x HO_830005.out) (by decide)) hk (fun _ h => h.2)) (fun _ h => h.1))
       replace HO_830006 := Aside0.mk (Kd.R_mono (Kd.R_keep (IsS90.apart (show IsS90 w _ g809 x810000_2 from by exact IsS90.up HI809.out) (Kd.R_x HO_830006.out) (by decide)) hk (fun _ h => h.2)) (fun _ h => h.1))
       replace BK829 := Aside0.mk (KeepBut.blk hk (blk_x BK829.out) NB829_809.out (by simp))
       replace BK839 := Aside0.mk (KeepBut.blk hk (blk_x BK839.out) NB839_809.out (by simp))
       replace BK840 := Aside0.mk (KeepBut.blk hk (blk_x BK840.out) NB840_809.out (by simp))
       replace BK845 := Aside0.mk (KeepBut.blk hk (blk_x BK845.out) NB845_809.out (by simp))
       have HO854 := Aside0.mk (Kd.R_lower (Kd.R_new' ho0 (Kd.R_lt (Kd.R_x HO_5.out))) (below_size (by exact below_y HB.out)))
       have HO857 := Aside0.mk (Kd.R_lower (Kd.R_new' ho1 (Kd.R_lt (Kd.R_x HO_5.out))) (below_size (by exact below_y HB.out)))
       have HO860 := Aside0.mk (Kd.S_lower (Kd.S_new' ho2 (Kd.R_lt (Kd.R_x HO_5.out))) (below_size (by exact below_y HB.out)))
       replace HO_5 := Aside0.mk (Kd.R_mono (Kd.R_told (Kd.R_told (Kd.R_oldK (IsS90.apart (show IsS90 w _ g809 x810000_2 from by exact IsS90.up HI809.out) (Kd.R_x HO_5.out) (by decide)) hk) (Kd.R_base ho0)) (Kd.R_base ho1)) (fun _ h_ => h_.1))
       replace HB := Aside0.mk (hb)
       replace HI809 := Aside0.mk (hi)
       (try clear hb)
       (try clear hb2)
       (try clear hk)
       (try clear hi)
       (try clear ho0)
       (try clear ho1)
       (try clear ho2)
       obtain ⟨Ao61, co61, eo61⟩ := Kd.R_slice HO854.out
       (first | subst eo61 | (injection eo61 with f1_ f2_ f3_; have f4_ := f1_.symm; have f5_ := f3_.symm; clear f1_ f2_ f3_; subst f4_; subst f5_))
       obtain ⟨Ao62, co62, eo62⟩ := Kd.R_slice HO857.out
       (first | subst eo62 | (injection eo62 with f1_ f2_ f3_; have f4_ := f1_.symm; have f5_ := f3_.symm; clear f1_ f2_ f3_; subst f4_; subst f5_))
       obtain ⟨Ao63, co63, eo63⟩ := Kd.S_slice HO860.out
       (first | subst eo63 | (injection eo63 with f1_ f2_ f3_; have f4_ := f1_.symm; have f5_ := f3_.symm; clear f1_ f2_ f3_; subst f4_; subst f5_))
       refine hK.out _ _ ⟨(blk_cell BK829.out 0).trans rfl, (blk_cell BK829.out 1).trans rfl, (blk_cell BK829.out 2).trans rfl, (blk_cell BK829.out 3).trans rfl, (blk_cell BK829.out 4).trans rfl, (blk_cell BK829.out 5).trans rfl, (blk_cell BK829.out 6).trans rfl⟩ (fun hHeld => ?_)
       clear hK K
       refine norm_ (a' := ?_) ?_ ?_; rotate_left; (show Act.put _ (some 77) _ = _; simp only [Act.put, put_x, i64_w, i32_w]; rfl)
       refine one_ (i := 5) (N := some 80) (bz 13 63) rfl rfl (one_of HT_.out (by kernel_rfl)) (by decide) (fun K hK => ?_)
       refine goes_ Try.func43 (by kernel_rfl) rfl #[.agg #[.slice Ao61 t852.length co61, .slice Ao62 t855.length co62, .slice Ao63 t858.length co63], .agg #[.int .i64 t815, .int .i64 t816, .int .i64 t817, .slice Ao19 t818.length co19, .int .i64 t821, .slice Ao20 t822.length co20, .slice Ao21 t825.length co21], .slice Ao24 t830.length co24] (by rfl) rfl rfl (by (try simp only [List.map_toArray, List.map_cons, List.map_nil]); first | done | rfl | (simp only [List.length_drop, List.length_take]; rfl)) ?_
       with_reducible refine (swarflaw07_fact_sailed.calls k2 _ _ t852 _ _ t855 _ _ t858 t815 t816 t817 _ _ t818 t821 _ _ t822 _ _ t825 _ _ t830 t862 t863 t864 _ ?side1 ?side2 ?side3 ?side4 ?side5 ?side6 ?side7 ?side8 ?side9 ?side10 ?side11 ?side12 ?side13 ?side14 A57.out).mono ?_
       (case side1 => exact Kd.C_y (Kd.R_reads' HO854.out).2.2)
       (case side2 => exact (Kd.R_reads' HO854.out).2.1)
       (case side3 => exact Kd.C_y (Kd.R_reads' HO857.out).2.2)
       (case side4 => exact (Kd.R_reads' HO857.out).2.1)
       (case side5 => exact Kd.C_y (Kd.S_reads' HO860.out).2.2)
       (case side6 => exact (Kd.S_reads' HO860.out).2.1)
       (case side7 => exact Kd.C_y (Kd.R_reads' HO_830003.out).2.2)
       (case side8 => exact (Kd.R_reads' HO_830003.out).2.1)
       (case side9 => exact Kd.C_y (Kd.S_reads' HO_830005.out).2.2)
       (case side10 => exact (Kd.S_reads' HO_830005.out).2.1)
       (case side11 => exact Kd.C_y (Kd.R_reads' HO_830006.out).2.2)
       (case side12 => exact (Kd.R_reads' HO_830006.out).2.1)
       (case side13 => exact Kd.C_y (Kd.R_reads' HO_5.out).2.2)
       (case side14 => exact (Kd.R_reads' HO_5.out).2.1)
       rintro e w64 ⟨v865, rfl, ho0, hb⟩
       refine ⟨_, rfl, ?_⟩
       replace HO_13 := Aside0.mk (Kd.R_below (Kd.R_x HO_13.out) hb)
       replace HO_830003 := Aside0.mk (Kd.R_below (Kd.R_x HO_830003.out) hb)
       replace HO_830005 := Aside0.mk (Kd.S_below (Kd.S_x HO_830005.out) hb)
       replace HO_830006 := Aside0.mk (Kd.R_below (Kd.R_x HO_830006.out) hb)
       replace HO860 := Aside0.mk (Kd.S_elder' (Kd.S_x HO860.out) (Kd.R_base ho0) hb)
       have HO866 := Aside0.mk (Kd.R_lower (Kd.R_new' (Kd.R_new' (Kd.R_new' ho0 (Kd.R_lt (Kd.R_x HO_5.out))) (Kd.R_lt (Kd.R_x HO854.out))) (Kd.R_lt (Kd.R_x HO857.out))) (below_size (by exact below_y HB.out)))
       replace HO_5 := Aside0.mk (Kd.R_elder' (Kd.R_x HO_5.out) (Kd.R_base ho0) hb)
       replace HO854 := Aside0.mk (Kd.R_elder' (Kd.R_x HO854.out) (Kd.R_base ho0) hb)
       replace HO857 := Aside0.mk (Kd.R_elder' (Kd.R_x HO857.out) (Kd.R_base ho0) hb)
       replace BK829 := Aside0.mk (blk_below (blk_x BK829.out) hb)
       replace BK839 := Aside0.mk (blk_below (blk_x BK839.out) hb)
       replace BK840 := Aside0.mk (blk_below (blk_x BK840.out) hb)
       replace BK845 := Aside0.mk (blk_below (blk_x BK845.out) hb)
       replace HI809 := Aside0.mk (IsS90.below (by exact IsS90.up HI809.out) hb)
       replace HB := bl_x HB hb
       (try clear hb)
       (try clear hb2)
       (try clear hk)
       (try clear hi)
       (try clear ho0)
       refine hK.out _ _ ⟨(blk_cell BK829.out 0).trans rfl, (blk_cell BK829.out 1).trans rfl, (blk_cell BK829.out 2).trans rfl, (blk_cell BK829.out 3).trans rfl, (blk_cell BK829.out 4).trans rfl, (blk_cell BK829.out 5).trans rfl, (blk_cell BK829.out 6).trans rfl⟩ (fun hHeld => ?_)
       clear hK K
       refine norm_ (a' := ?_) ?_ ?_; rotate_left; (show Act.put _ (some 80) _ = _; simp only [Act.put, put_x, i64_w, i32_w]; rfl)
       refine pure_t 6 (some 74) (bz 13 127) HT_ ?_
       refine pure_t 7 (some 81) (bz 13 255) HT_ ?_
       refine pure_t 8 (some 82) (bz 13 511) HT_ ?_
       refine pure_t 9 (some 83) (bz 13 1023) HT_ ?_
       refine pure_t 10 (some 16) (bz 13 2047) HT_ ?_
       refine pure_t 11 (some 17) (bz 13 4095) HT_ ?_
       refine pure_t 12 (some 18) (bz 13 8191) HT_ ?_
       refine done_ (done_of HT_.out (by kernel_rfl)) ?_
       go_upto_region 14 with (fail)
       go_cut [137] (fun v137 wc => ∃ (kq : Nat) (x137_57 : Bool), v137 = .bool x137_57 ∧ Aside0 (swarflaw07_ShipTrue.j2 kq t830 t841 t846 t847 x15_2 t864 x137_57 t861 t815 t816 t817 t818 t821 t822 t825 t834 t835 t836 t837 t842 t843 = some r) ∧ Aside0 (kq ≤ k2) ∧ Aside0 (Kd.R (Kd.int .i64) 3 wc w.heap.size (fun k_ => some k_ ≠ (v865 : Value).ownBlock) (.slice Ao24 t830.length co24) t830) ∧ Aside0 (Kd.R k56 56 wc w.heap.size (fun k_ => k_ ≠ gb839 ∧ k_ ≠ gb840 ∧ k_ ≠ gb845) v848 t847) ∧ Aside0 (Kd.R (Kd.int .i64) 3 wc w.heap.size (fun k_ => some k_ ≠ ((.slice Ao24 t830.length co24) : Value).ownBlock) v865 t864) ∧ Aside0 (Kd.R k85 85 wc w.heap.size (fun _ => True) (.slice Ao19 t818.length co19) t818) ∧ Aside0 (Kd.S k59 59 wc w.heap.size (fun _ => True) (.slice Ao20 t822.length co20) t822) ∧ Aside0 (Kd.R k79 79 wc w.heap.size (fun _ => True) (.slice Ao21 t825.length co21) t825) ∧ Aside0 (wc.heap[gb829]? = some (.cells #[.int .i64 t815, .int .i64 t816, .int .i64 t817, (.slice Ao19 t818.length co19), .int .i64 t821, (.slice Ao20 t822.length co20), (.slice Ao21 t825.length co21)] 26 (0, 0))) ∧ Aside0 (wc.heap[gb839]? = some (.cells #[.int .i64 t834, .int .i64 t835] 56 (0, 0))) ∧ Aside0 (wc.heap[gb840]? = some (.cells #[.int .i64 t836, .int .i64 t837] 56 (0, 0))) ∧ Aside0 (wc.heap[gb845]? = some (.cells #[.int .i64 t842, .int .i64 t843] 56 (0, 0))) ∧ Aside0 (IsS90 w wc g809 t861) ∧ Aside0 (Below w.heap.size w wc))
       case first =>
        have H := HC58.out
        clear HC58
        replace H := Option.bind_eq_some_iff.mp H
        obtain ⟨t867, A650, H⟩ := H
        try dsimp only at H
        have A65 := Aside0.mk A650
        clear A650
        by_cases c66 : t867 = true
        ·
         subst c66
         have H1 : ((swarfkit_Inside.f t836 t837 t863).bind fun t868 => (if t868 = true then ((swarfkit_Inside.f t842 t843 (wrap64 (t862 - t863))).bind fun t869 => (if t869 = true then (if t841 = true then (if (wrap64 (t862 - t863)) > (wrap64 (1000 * t817)) then (swarflaw07_ShipTrue.j2 k2 t830 t841 t846 t847 x15_2 t864 true t861 t815 t816 t817 t818 t821 t822 t825 t834 t835 t836 t837 t842 t843) else (if (wrap64 (t862 - t863)) < (wrap64 ((-1000) * t817)) then (swarflaw07_ShipTrue.j2 k2 t830 t841 t846 t847 x15_2 t864 true t861 t815 t816 t817 t818 t821 t822 t825 t834 t835 t836 t837 t842 t843) else ((swarflaw07_fits.f t846 ((t864.length : Int) == (t822.length : Int))).bind fun t870 => (if t870 = true then (swarflaw07_ShipTrue.j2 k2 t830 t841 t846 t847 x15_2 t864 (decide ((t864.length : Int) < (t847.length : Int))) t861 t815 t816 t817 t818 t821 t822 t825 t834 t835 t836 t837 t842 t843) else (swarflaw07_ShipTrue.j2 k2 t830 t841 t846 t847 x15_2 t864 true t861 t815 t816 t817 t818 t821 t822 t825 t834 t835 t836 t837 t842 t843))))) else ((swarflaw07_fits.f t846 ((t864.length : Int) == (t822.length : Int))).bind fun t871 => (if t871 = true then (swarflaw07_ShipTrue.j2 k2 t830 t841 t846 t847 x15_2 t864 (decide ((t864.length : Int) < (t847.length : Int))) t861 t815 t816 t817 t818 t821 t822 t825 t834 t835 t836 t837 t842 t843) else (swarflaw07_ShipTrue.j2 k2 t830 t841 t846 t847 x15_2 t864 true t861 t815 t816 t817 t818 t821 t822 t825 t834 t835 t836 t837 t842 t843)))) else (swarflaw07_ShipTrue.j2 k2 t830 t841 t846 t847 x15_2 t864 true t861 t815 t816 t817 t818 t821 t822 t825 t834 t835 t836 t837 t842 t843))) else (swarflaw07_ShipTrue.j2 k2 t830 t841 t846 t847 x15_2 t864 true t861 t815 t816 t817 t818 t821 t822 t825 t834 t835 t836 t837 t842 t843))) = some r := by rw [if_pos rfl] at H; exact H
         clear H
         have H := H1
         clear H1
         replace H := Option.bind_eq_some_iff.mp H
         obtain ⟨t868, A670, H⟩ := H
         try dsimp only at H
         have A67 := Aside0.mk A670
         clear A670
         by_cases c68 : t868 = true
         ·
          subst c68
          have H1 : ((swarfkit_Inside.f t842 t843 (wrap64 (t862 - t863))).bind fun t869 => (if t869 = true then (if t841 = true then (if (wrap64 (t862 - t863)) > (wrap64 (1000 * t817)) then (swarflaw07_ShipTrue.j2 k2 t830 t841 t846 t847 x15_2 t864 true t861 t815 t816 t817 t818 t821 t822 t825 t834 t835 t836 t837 t842 t843) else (if (wrap64 (t862 - t863)) < (wrap64 ((-1000) * t817)) then (swarflaw07_ShipTrue.j2 k2 t830 t841 t846 t847 x15_2 t864 true t861 t815 t816 t817 t818 t821 t822 t825 t834 t835 t836 t837 t842 t843) else ((swarflaw07_fits.f t846 ((t864.length : Int) == (t822.length : Int))).bind fun t870 => (if t870 = true then (swarflaw07_ShipTrue.j2 k2 t830 t841 t846 t847 x15_2 t864 (decide ((t864.length : Int) < (t847.length : Int))) t861 t815 t816 t817 t818 t821 t822 t825 t834 t835 t836 t837 t842 t843) else (swarflaw07_ShipTrue.j2 k2 t830 t841 t846 t847 x15_2 t864 true t861 t815 t816 t817 t818 t821 t822 t825 t834 t835 t836 t837 t842 t843))))) else ((swarflaw07_fits.f t846 ((t864.length : Int) == (t822.length : Int))).bind fun t871 => (if t871 = true then (swarflaw07_ShipTrue.j2 k2 t830 t841 t846 t847 x15_2 t864 (decide ((t864.length : Int) < (t847.length : Int))) t861 t815 t816 t817 t818 t821 t822 t825 t834 t835 t836 t837 t842 t843) else (swarflaw07_ShipTrue.j2 k2 t830 t841 t846 t847 x15_2 t864 true t861 t815 t816 t817 t818 t821 t822 t825 t834 t835 t836 t837 t842 t843)))) else (swarflaw07_ShipTrue.j2 k2 t830 t841 t846 t847 x15_2 t864 true t861 t815 t816 t817 t818 t821 t822 t825 t834 t835 t836 t837 t842 t843))) = some r := by rw [if_pos rfl] at H; exact H
          clear H
          have H := H1
          clear H1
          replace H := Option.bind_eq_some_iff.mp H
          obtain ⟨t869, A690, H⟩ := H
          try dsimp only at H
          have A69 := Aside0.mk A690
          clear A690
          by_cases c70 : t869 = true
          ·
           subst c70
           have H1 : (if t841 = true then (if (wrap64 (t862 - t863)) > (wrap64 (1000 * t817)) then (swarflaw07_ShipTrue.j2 k2 t830 t841 t846 t847 x15_2 t864 true t861 t815 t816 t817 t818 t821 t822 t825 t834 t835 t836 t837 t842 t843) else (if (wrap64 (t862 - t863)) < (wrap64 ((-1000) * t817)) then (swarflaw07_ShipTrue.j2 k2 t830 t841 t846 t847 x15_2 t864 true t861 t815 t816 t817 t818 t821 t822 t825 t834 t835 t836 t837 t842 t843) else ((swarflaw07_fits.f t846 ((t864.length : Int) == (t822.length : Int))).bind fun t870 => (if t870 = true then (swarflaw07_ShipTrue.j2 k2 t830 t841 t846 t847 x15_2 t864 (decide ((t864.length : Int) < (t847.length : Int))) t861 t815 t816 t817 t818 t821 t822 t825 t834 t835 t836 t837 t842 t843) else (swarflaw07_ShipTrue.j2 k2 t830 t841 t846 t847 x15_2 t864 true t861 t815 t816 t817 t818 t821 t822 t825 t834 t835 t836 t837 t842 t843))))) else ((swarflaw07_fits.f t846 ((t864.length : Int) == (t822.length : Int))).bind fun t871 => (if t871 = true then (swarflaw07_ShipTrue.j2 k2 t830 t841 t846 t847 x15_2 t864 (decide ((t864.length : Int) < (t847.length : Int))) t861 t815 t816 t817 t818 t821 t822 t825 t834 t835 t836 t837 t842 t843) else (swarflaw07_ShipTrue.j2 k2 t830 t841 t846 t847 x15_2 t864 true t861 t815 t816 t817 t818 t821 t822 t825 t834 t835 t836 t837 t842 t843)))) = some r := by rw [if_pos rfl] at H; exact H
           clear H
           have H := H1
           clear H1
           by_cases c71 : t841 = true
           ·
            subst c71
            have H1 : (if (wrap64 (t862 - t863)) > (wrap64 (1000 * t817)) then (swarflaw07_ShipTrue.j2 k2 t830 true t846 t847 x15_2 t864 true t861 t815 t816 t817 t818 t821 t822 t825 t834 t835 t836 t837 t842 t843) else (if (wrap64 (t862 - t863)) < (wrap64 ((-1000) * t817)) then (swarflaw07_ShipTrue.j2 k2 t830 true t846 t847 x15_2 t864 true t861 t815 t816 t817 t818 t821 t822 t825 t834 t835 t836 t837 t842 t843) else ((swarflaw07_fits.f t846 ((t864.length : Int) == (t822.length : Int))).bind fun t870 => (if t870 = true then (swarflaw07_ShipTrue.j2 k2 t830 true t846 t847 x15_2 t864 (decide ((t864.length : Int) < (t847.length : Int))) t861 t815 t816 t817 t818 t821 t822 t825 t834 t835 t836 t837 t842 t843) else (swarflaw07_ShipTrue.j2 k2 t830 true t846 t847 x15_2 t864 true t861 t815 t816 t817 t818 t821 t822 t825 t834 t835 t836 t837 t842 t843))))) = some r := by rw [if_pos rfl] at H; exact H
            clear H
            have H := H1
            clear H1
            by_cases c72 : (wrap64 (t862 - t863)) > (wrap64 (1000 * t817))
            ·
             rw [if_pos c72] at H
             have c72b0 : decide ((wrap64 (1000 * t817)) < (wrap64 (t862 - t863))) = true := decide_eq_true c72
             clear c72
             (first | rw [c72b0] | (simp only [i64_w, i32_w]; rw [c72b0]) | skip)
             have H' := Aside0.mk H
             clear H
             have hnb73 := NB839_829.out
             have hnc73 := NB829_839.out
             have hnb74 := NB839_840.out
             have hnc74 := NB840_839.out
             have hnb75 := NB839_845.out
             have hnc75 := NB845_839.out
             have hnb76 := NB839_809.out
             have hnc76 := NB809_839.out
             obtain ⟨_, _⟩ := cz2 BK839
             have hfz77_0 := blk_frozen BK839.out
             go_wp2_with (first | ((with_reducible refine gate_callee (f := 44) rfl ?_); refine goesL_ (some 89) rfl rfl Try.func44 (by kernel_rfl) rfl #[.agg #[.int .i64 t834, .int .i64 t835], .int .i64 t862] rfl (by (try simp only [List.map_toArray, List.map_cons, List.map_nil]); first | done | rfl | (simp only [List.length_drop, List.length_take]; rfl)) ?_; (with_reducible refine (swarfkit_Inside.calls t834 t835 t862 true _ A65.out).mono ?_); rintro e w78 ⟨rfl, hb⟩; refine ⟨_, rfl, ?_⟩; replace HO_5 := Aside0.mk (Kd.R_below (Kd.R_x HO_5.out) hb); replace HO_13 := Aside0.mk (Kd.R_below (Kd.R_x HO_13.out) hb); replace HO_830003 := Aside0.mk (Kd.R_below (Kd.R_x HO_830003.out) hb); replace HO_830005 := Aside0.mk (Kd.S_below (Kd.S_x HO_830005.out) hb); replace HO_830006 := Aside0.mk (Kd.R_below (Kd.R_x HO_830006.out) hb); replace HO854 := Aside0.mk (Kd.R_below (Kd.R_x HO854.out) hb); replace HO857 := Aside0.mk (Kd.R_below (Kd.R_x HO857.out) hb); replace HO860 := Aside0.mk (Kd.S_below (Kd.S_x HO860.out) hb); replace HO866 := Aside0.mk (Kd.R_below (Kd.R_x HO866.out) hb); replace BK829 := Aside0.mk (blk_below (blk_x BK829.out) hb); replace BK839 := Aside0.mk (blk_below (blk_x BK839.out) hb); replace BK840 := Aside0.mk (blk_below (blk_x BK840.out) hb); replace BK845 := Aside0.mk (blk_below (blk_x BK845.out) hb); replace HI809 := Aside0.mk (IsS90.below (by exact IsS90.up HI809.out) hb); replace HB := bl_x HB hb; (try clear hb); (try clear hk); (try clear hi); have hnb79 := NB840_829.out; have hnc79 := NB829_840.out; have hnb80 := NB840_845.out; have hnc80 := NB845_840.out; have hnb81 := NB840_809.out; have hnc81 := NB809_840.out; obtain ⟨_, _⟩ := cz2 BK840; have hfz82_0 := blk_frozen BK840.out) | (go_at_call 44; (with_reducible refine (swarfkit_Inside.calls t836 t837 t863 true _ A67.out).mono ?_); rintro e w83 ⟨rfl, hb⟩; replace HO_5 := Aside0.mk (Kd.R_below (Kd.R_x HO_5.out) hb); replace HO_13 := Aside0.mk (Kd.R_below (Kd.R_x HO_13.out) hb); replace HO_830003 := Aside0.mk (Kd.R_below (Kd.R_x HO_830003.out) hb); replace HO_830005 := Aside0.mk (Kd.S_below (Kd.S_x HO_830005.out) hb); replace HO_830006 := Aside0.mk (Kd.R_below (Kd.R_x HO_830006.out) hb); replace HO854 := Aside0.mk (Kd.R_below (Kd.R_x HO854.out) hb); replace HO857 := Aside0.mk (Kd.R_below (Kd.R_x HO857.out) hb); replace HO860 := Aside0.mk (Kd.S_below (Kd.S_x HO860.out) hb); replace HO866 := Aside0.mk (Kd.R_below (Kd.R_x HO866.out) hb); replace BK829 := Aside0.mk (blk_below (blk_x BK829.out) hb); replace BK839 := Aside0.mk (blk_below (blk_x BK839.out) hb); replace BK840 := Aside0.mk (blk_below (blk_x BK840.out) hb); replace BK845 := Aside0.mk (blk_below (blk_x BK845.out) hb); replace HI809 := Aside0.mk (IsS90.below (by exact IsS90.up HI809.out) hb); replace HB := bl_x HB hb; (try clear hb); (try clear hk); (try clear hi); have hnb84 := NB845_829.out; have hnc84 := NB829_845.out; have hnb85 := NB845_809.out; have hnc85 := NB809_845.out; obtain ⟨_, _⟩ := cz2 BK845; have hfz86_0 := blk_frozen BK845.out) | (go_at_call 44; (with_reducible refine (swarfkit_Inside.calls t842 t843 (wrap64 (t862 - t863)) true _ A69.out).mono ?_); rintro e w87 ⟨rfl, hb⟩; replace HO_5 := Aside0.mk (Kd.R_below (Kd.R_x HO_5.out) hb); replace HO_13 := Aside0.mk (Kd.R_below (Kd.R_x HO_13.out) hb); replace HO_830003 := Aside0.mk (Kd.R_below (Kd.R_x HO_830003.out) hb); replace HO_830005 := Aside0.mk (Kd.S_below (Kd.S_x HO_830005.out) hb); replace HO_830006 := Aside0.mk (Kd.R_below (Kd.R_x HO_830006.out) hb); replace HO854 := Aside0.mk (Kd.R_below (Kd.R_x HO854.out) hb); replace HO857 := Aside0.mk (Kd.R_below (Kd.R_x HO857.out) hb); replace HO860 := Aside0.mk (Kd.S_below (Kd.S_x HO860.out) hb); replace HO866 := Aside0.mk (Kd.R_below (Kd.R_x HO866.out) hb); replace BK829 := Aside0.mk (blk_below (blk_x BK829.out) hb); replace BK839 := Aside0.mk (blk_below (blk_x BK839.out) hb); replace BK840 := Aside0.mk (blk_below (blk_x BK840.out) hb); replace BK845 := Aside0.mk (blk_below (blk_x BK845.out) hb); replace HI809 := Aside0.mk (IsS90.below (by exact IsS90.up HI809.out) hb); replace HB := bl_x HB hb; (try clear hb); (try clear hk); (try clear hi); have hnb88 := NB829_809.out; have hnc88 := NB809_829.out; obtain ⟨_, _, _, _, _, _, _⟩ := cz7 BK829; have hfz89_0 := blk_frozen BK829.out))
             go_meet
             case rel => exact ⟨_, (true), (by first | rfl | (simp; done) | (simp [*]; done)), H', ⟨by have := HJ8.out; have := HK2.out; first | omega | exact Nat.le_refl _⟩, ⟨by (with_reducible repeat (first | apply Kd.R_alloc | apply Kd.R_drewN | apply Kd.R_drew)); exact Kd.R_mono HO_5.out (fun _ hk => hk.2)⟩, ⟨by (with_reducible repeat (first | apply Kd.R_alloc | apply Kd.R_drewN | apply Kd.R_drew)); exact HO_13.out⟩, ⟨by (with_reducible repeat (first | apply Kd.R_alloc | apply Kd.R_drewN | apply Kd.R_drew)); exact Kd.R_mono HO866.out (fun _ hk => hk.1.1.2)⟩, ⟨by (with_reducible repeat (first | apply Kd.R_alloc | apply Kd.R_drewN | apply Kd.R_drew)); exact HO_830003.out⟩, ⟨by (with_reducible repeat (first | apply Kd.S_alloc | apply Kd.S_drewN | apply Kd.S_drew)); exact HO_830005.out⟩, ⟨by (with_reducible repeat (first | apply Kd.R_alloc | apply Kd.R_drewN | apply Kd.R_drew)); exact HO_830006.out⟩, ⟨blk_x BK829.out⟩, ⟨blk_x BK839.out⟩, ⟨blk_x BK840.out⟩, ⟨blk_x BK845.out⟩, ⟨by exact IsS90.up HI809.out⟩, ⟨by exact below_y HB.out⟩⟩
            ·
             rw [if_neg c72] at H
             have c72b0 : decide ((wrap64 (1000 * t817)) < (wrap64 (t862 - t863))) = false := decide_eq_false c72
             clear c72
             (first | rw [c72b0] | (simp only [i64_w, i32_w]; rw [c72b0]) | skip)
             by_cases c90 : (wrap64 (t862 - t863)) < (wrap64 ((-1000) * t817))
             ·
              rw [if_pos c90] at H
              have c90b0 : decide ((wrap64 (t862 - t863)) < (wrap64 ((-1000) * t817))) = true := decide_eq_true c90
              clear c90
              have H' := Aside0.mk H
              clear H
              have hnb91 := NB839_829.out
              have hnc91 := NB829_839.out
              have hnb92 := NB839_840.out
              have hnc92 := NB840_839.out
              have hnb93 := NB839_845.out
              have hnc93 := NB845_839.out
              have hnb94 := NB839_809.out
              have hnc94 := NB809_839.out
              obtain ⟨_, _⟩ := cz2 BK839
              have hfz95_0 := blk_frozen BK839.out
              go_wp2_with (first | ((with_reducible refine gate_callee (f := 44) rfl ?_); refine goesL_ (some 89) rfl rfl Try.func44 (by kernel_rfl) rfl #[.agg #[.int .i64 t834, .int .i64 t835], .int .i64 t862] rfl (by (try simp only [List.map_toArray, List.map_cons, List.map_nil]); first | done | rfl | (simp only [List.length_drop, List.length_take]; rfl)) ?_; (with_reducible refine (swarfkit_Inside.calls t834 t835 t862 true _ A65.out).mono ?_); rintro e w96 ⟨rfl, hb⟩; refine ⟨_, rfl, ?_⟩; replace HO_5 := Aside0.mk (Kd.R_below (Kd.R_x HO_5.out) hb); replace HO_13 := Aside0.mk (Kd.R_below (Kd.R_x HO_13.out) hb); replace HO_830003 := Aside0.mk (Kd.R_below (Kd.R_x HO_830003.out) hb); replace HO_830005 := Aside0.mk (Kd.S_below (Kd.S_x HO_830005.out) hb); replace HO_830006 := Aside0.mk (Kd.R_below (Kd.R_x HO_830006.out) hb); replace HO854 := Aside0.mk (Kd.R_below (Kd.R_x HO854.out) hb); replace HO857 := Aside0.mk (Kd.R_below (Kd.R_x HO857.out) hb); replace HO860 := Aside0.mk (Kd.S_below (Kd.S_x HO860.out) hb); replace HO866 := Aside0.mk (Kd.R_below (Kd.R_x HO866.out) hb); replace BK829 := Aside0.mk (blk_below (blk_x BK829.out) hb); replace BK839 := Aside0.mk (blk_below (blk_x BK839.out) hb); replace BK840 := Aside0.mk (blk_below (blk_x BK840.out) hb); replace BK845 := Aside0.mk (blk_below (blk_x BK845.out) hb); replace HI809 := Aside0.mk (IsS90.below (by exact IsS90.up HI809.out) hb); replace HB := bl_x HB hb; (try clear hb); (try clear hk); (try clear hi); have hnb97 := NB840_829.out; have hnc97 := NB829_840.out; have hnb98 := NB840_845.out; have hnc98 := NB845_840.out; have hnb99 := NB840_809.out; have hnc99 := NB809_840.out; obtain ⟨_, _⟩ := cz2 BK840; have hfz100_0 := blk_frozen BK840.out) | (go_at_call 44; (with_reducible refine (swarfkit_Inside.calls t836 t837 t863 true _ A67.out).mono ?_); rintro e w101 ⟨rfl, hb⟩; replace HO_5 := Aside0.mk (Kd.R_below (Kd.R_x HO_5.out) hb); replace HO_13 := Aside0.mk (Kd.R_below (Kd.R_x HO_13.out) hb); replace HO_830003 := Aside0.mk (Kd.R_below (Kd.R_x HO_830003.out) hb); replace HO_830005 := Aside0.mk (Kd.S_below (Kd.S_x HO_830005.out) hb); replace HO_830006 := Aside0.mk (Kd.R_below (Kd.R_x HO_830006.out) hb); replace HO854 := Aside0.mk (Kd.R_below (Kd.R_x HO854.out) hb); replace HO857 := Aside0.mk (Kd.R_below (Kd.R_x HO857.out) hb); replace HO860 := Aside0.mk (Kd.S_below (Kd.S_x HO860.out) hb); replace HO866 := Aside0.mk (Kd.R_below (Kd.R_x HO866.out) hb); replace BK829 := Aside0.mk (blk_below (blk_x BK829.out) hb); replace BK839 := Aside0.mk (blk_below (blk_x BK839.out) hb); replace BK840 := Aside0.mk (blk_below (blk_x BK840.out) hb); replace BK845 := Aside0.mk (blk_below (blk_x BK845.out) hb); replace HI809 := Aside0.mk (IsS90.below (by exact IsS90.up HI809.out) hb); replace HB := bl_x HB hb; (try clear hb); (try clear hk); (try clear hi); have hnb102 := NB845_829.out; have hnc102 := NB829_845.out; have hnb103 := NB845_809.out; have hnc103 := NB809_845.out; obtain ⟨_, _⟩ := cz2 BK845; have hfz104_0 := blk_frozen BK845.out) | (go_at_call 44; (with_reducible refine (swarfkit_Inside.calls t842 t843 (wrap64 (t862 - t863)) true _ A69.out).mono ?_); rintro e w105 ⟨rfl, hb⟩; replace HO_5 := Aside0.mk (Kd.R_below (Kd.R_x HO_5.out) hb); replace HO_13 := Aside0.mk (Kd.R_below (Kd.R_x HO_13.out) hb); replace HO_830003 := Aside0.mk (Kd.R_below (Kd.R_x HO_830003.out) hb); replace HO_830005 := Aside0.mk (Kd.S_below (Kd.S_x HO_830005.out) hb); replace HO_830006 := Aside0.mk (Kd.R_below (Kd.R_x HO_830006.out) hb); replace HO854 := Aside0.mk (Kd.R_below (Kd.R_x HO854.out) hb); replace HO857 := Aside0.mk (Kd.R_below (Kd.R_x HO857.out) hb); replace HO860 := Aside0.mk (Kd.S_below (Kd.S_x HO860.out) hb); replace HO866 := Aside0.mk (Kd.R_below (Kd.R_x HO866.out) hb); replace BK829 := Aside0.mk (blk_below (blk_x BK829.out) hb); replace BK839 := Aside0.mk (blk_below (blk_x BK839.out) hb); replace BK840 := Aside0.mk (blk_below (blk_x BK840.out) hb); replace BK845 := Aside0.mk (blk_below (blk_x BK845.out) hb); replace HI809 := Aside0.mk (IsS90.below (by exact IsS90.up HI809.out) hb); replace HB := bl_x HB hb; (try clear hb); (try clear hk); (try clear hi); have hnb106 := NB829_809.out; have hnc106 := NB809_829.out; obtain ⟨_, _, _, _, _, _, _⟩ := cz7 BK829; have hfz107_0 := blk_frozen BK829.out))
              go_meet
              case rel => exact ⟨_, (true), (by first | rfl | (simp; done) | (simp [*]; done)), H', ⟨by have := HJ8.out; have := HK2.out; first | omega | exact Nat.le_refl _⟩, ⟨by (with_reducible repeat (first | apply Kd.R_alloc | apply Kd.R_drewN | apply Kd.R_drew)); exact Kd.R_mono HO_5.out (fun _ hk => hk.2)⟩, ⟨by (with_reducible repeat (first | apply Kd.R_alloc | apply Kd.R_drewN | apply Kd.R_drew)); exact HO_13.out⟩, ⟨by (with_reducible repeat (first | apply Kd.R_alloc | apply Kd.R_drewN | apply Kd.R_drew)); exact Kd.R_mono HO866.out (fun _ hk => hk.1.1.2)⟩, ⟨by (with_reducible repeat (first | apply Kd.R_alloc | apply Kd.R_drewN | apply Kd.R_drew)); exact HO_830003.out⟩, ⟨by (with_reducible repeat (first | apply Kd.S_alloc | apply Kd.S_drewN | apply Kd.S_drew)); exact HO_830005.out⟩, ⟨by (with_reducible repeat (first | apply Kd.R_alloc | apply Kd.R_drewN | apply Kd.R_drew)); exact HO_830006.out⟩, ⟨blk_x BK829.out⟩, ⟨blk_x BK839.out⟩, ⟨blk_x BK840.out⟩, ⟨blk_x BK845.out⟩, ⟨by exact IsS90.up HI809.out⟩, ⟨by exact below_y HB.out⟩⟩
             ·
              rw [if_neg c90] at H
              have c90b0 : decide ((wrap64 (t862 - t863)) < (wrap64 ((-1000) * t817))) = false := decide_eq_false c90
              clear c90
              replace H := Option.bind_eq_some_iff.mp H
              obtain ⟨t870, A1080, H⟩ := H
              try dsimp only at H
              have A108 := Aside0.mk A1080
              clear A1080
              by_cases c109 : t870 = true
              ·
               subst c109
               have H1 : (swarflaw07_ShipTrue.j2 k2 t830 true t846 t847 x15_2 t864 (decide ((t864.length : Int) < (t847.length : Int))) t861 t815 t816 t817 t818 t821 t822 t825 t834 t835 t836 t837 t842 t843) = some r := by rw [if_pos rfl] at H; exact H
               clear H
               have H := H1
               clear H1
               have H' := Aside0.mk H
               clear H
               have hnb110 := NB839_829.out
               have hnc110 := NB829_839.out
               have hnb111 := NB839_840.out
               have hnc111 := NB840_839.out
               have hnb112 := NB839_845.out
               have hnc112 := NB845_839.out
               have hnb113 := NB839_809.out
               have hnc113 := NB809_839.out
               obtain ⟨_, _⟩ := cz2 BK839
               have hfz114_0 := blk_frozen BK839.out
               go_wp2_with (first | ((with_reducible refine gate_callee (f := 44) rfl ?_); refine goesL_ (some 89) rfl rfl Try.func44 (by kernel_rfl) rfl #[.agg #[.int .i64 t834, .int .i64 t835], .int .i64 t862] rfl (by (try simp only [List.map_toArray, List.map_cons, List.map_nil]); first | done | rfl | (simp only [List.length_drop, List.length_take]; rfl)) ?_; (with_reducible refine (swarfkit_Inside.calls t834 t835 t862 true _ A65.out).mono ?_); rintro e w115 ⟨rfl, hb⟩; refine ⟨_, rfl, ?_⟩; replace HO_5 := Aside0.mk (Kd.R_below (Kd.R_x HO_5.out) hb); replace HO_13 := Aside0.mk (Kd.R_below (Kd.R_x HO_13.out) hb); replace HO_830003 := Aside0.mk (Kd.R_below (Kd.R_x HO_830003.out) hb); replace HO_830005 := Aside0.mk (Kd.S_below (Kd.S_x HO_830005.out) hb); replace HO_830006 := Aside0.mk (Kd.R_below (Kd.R_x HO_830006.out) hb); replace HO854 := Aside0.mk (Kd.R_below (Kd.R_x HO854.out) hb); replace HO857 := Aside0.mk (Kd.R_below (Kd.R_x HO857.out) hb); replace HO860 := Aside0.mk (Kd.S_below (Kd.S_x HO860.out) hb); replace HO866 := Aside0.mk (Kd.R_below (Kd.R_x HO866.out) hb); replace BK829 := Aside0.mk (blk_below (blk_x BK829.out) hb); replace BK839 := Aside0.mk (blk_below (blk_x BK839.out) hb); replace BK840 := Aside0.mk (blk_below (blk_x BK840.out) hb); replace BK845 := Aside0.mk (blk_below (blk_x BK845.out) hb); replace HI809 := Aside0.mk (IsS90.below (by exact IsS90.up HI809.out) hb); replace HB := bl_x HB hb; (try clear hb); (try clear hk); (try clear hi); have hnb116 := NB840_829.out; have hnc116 := NB829_840.out; have hnb117 := NB840_845.out; have hnc117 := NB845_840.out; have hnb118 := NB840_809.out; have hnc118 := NB809_840.out; obtain ⟨_, _⟩ := cz2 BK840; have hfz119_0 := blk_frozen BK840.out) | (go_at_call 44; (with_reducible refine (swarfkit_Inside.calls t836 t837 t863 true _ A67.out).mono ?_); rintro e w120 ⟨rfl, hb⟩; replace HO_5 := Aside0.mk (Kd.R_below (Kd.R_x HO_5.out) hb); replace HO_13 := Aside0.mk (Kd.R_below (Kd.R_x HO_13.out) hb); replace HO_830003 := Aside0.mk (Kd.R_below (Kd.R_x HO_830003.out) hb); replace HO_830005 := Aside0.mk (Kd.S_below (Kd.S_x HO_830005.out) hb); replace HO_830006 := Aside0.mk (Kd.R_below (Kd.R_x HO_830006.out) hb); replace HO854 := Aside0.mk (Kd.R_below (Kd.R_x HO854.out) hb); replace HO857 := Aside0.mk (Kd.R_below (Kd.R_x HO857.out) hb); replace HO860 := Aside0.mk (Kd.S_below (Kd.S_x HO860.out) hb); replace HO866 := Aside0.mk (Kd.R_below (Kd.R_x HO866.out) hb); replace BK829 := Aside0.mk (blk_below (blk_x BK829.out) hb); replace BK839 := Aside0.mk (blk_below (blk_x BK839.out) hb); replace BK840 := Aside0.mk (blk_below (blk_x BK840.out) hb); replace BK845 := Aside0.mk (blk_below (blk_x BK845.out) hb); replace HI809 := Aside0.mk (IsS90.below (by exact IsS90.up HI809.out) hb); replace HB := bl_x HB hb; (try clear hb); (try clear hk); (try clear hi); have hnb121 := NB845_829.out; have hnc121 := NB829_845.out; have hnb122 := NB845_809.out; have hnc122 := NB809_845.out; obtain ⟨_, _⟩ := cz2 BK845; have hfz123_0 := blk_frozen BK845.out) | (go_at_call 44; (with_reducible refine (swarfkit_Inside.calls t842 t843 (wrap64 (t862 - t863)) true _ A69.out).mono ?_); rintro e w124 ⟨rfl, hb⟩; replace HO_5 := Aside0.mk (Kd.R_below (Kd.R_x HO_5.out) hb); replace HO_13 := Aside0.mk (Kd.R_below (Kd.R_x HO_13.out) hb); replace HO_830003 := Aside0.mk (Kd.R_below (Kd.R_x HO_830003.out) hb); replace HO_830005 := Aside0.mk (Kd.S_below (Kd.S_x HO_830005.out) hb); replace HO_830006 := Aside0.mk (Kd.R_below (Kd.R_x HO_830006.out) hb); replace HO854 := Aside0.mk (Kd.R_below (Kd.R_x HO854.out) hb); replace HO857 := Aside0.mk (Kd.R_below (Kd.R_x HO857.out) hb); replace HO860 := Aside0.mk (Kd.S_below (Kd.S_x HO860.out) hb); replace HO866 := Aside0.mk (Kd.R_below (Kd.R_x HO866.out) hb); replace BK829 := Aside0.mk (blk_below (blk_x BK829.out) hb); replace BK839 := Aside0.mk (blk_below (blk_x BK839.out) hb); replace BK840 := Aside0.mk (blk_below (blk_x BK840.out) hb); replace BK845 := Aside0.mk (blk_below (blk_x BK845.out) hb); replace HI809 := Aside0.mk (IsS90.below (by exact IsS90.up HI809.out) hb); replace HB := bl_x HB hb; (try clear hb); (try clear hk); (try clear hi); have hnb125 := NB829_809.out; have hnc125 := NB809_829.out; obtain ⟨_, _, _, _, _, _, _⟩ := cz7 BK829; have hfz126_0 := blk_frozen BK829.out; obtain ⟨Ao127, co127, eo127⟩ := Kd.R_slice HO866.out; subst eo127) | (go_at_call 45; (with_reducible refine (swarflaw07_fits.calls t846 ((t864.length : Int) == (t822.length : Int)) true _ A108.out).mono ?_); rintro e w' ⟨rfl, ⟨nd, rfl⟩⟩; obtain ⟨Ao128, co128, eo128⟩ := Kd.R_slice HO_13.out; subst eo128))
               go_meet
               case rel => exact ⟨_, (decide ((t864.length : Int) < (t847.length : Int))), (by first | rfl | (simp; done) | (simp [*]; done)), H', ⟨by have := HJ8.out; have := HK2.out; first | omega | exact Nat.le_refl _⟩, ⟨by (with_reducible repeat (first | apply Kd.R_alloc | apply Kd.R_drewN | apply Kd.R_drew)); exact Kd.R_mono HO_5.out (fun _ hk => hk.2)⟩, ⟨by (with_reducible repeat (first | apply Kd.R_alloc | apply Kd.R_drewN | apply Kd.R_drew)); exact HO_13.out⟩, ⟨by (with_reducible repeat (first | apply Kd.R_alloc | apply Kd.R_drewN | apply Kd.R_drew)); exact Kd.R_mono HO866.out (fun _ hk => hk.1.1.2)⟩, ⟨by (with_reducible repeat (first | apply Kd.R_alloc | apply Kd.R_drewN | apply Kd.R_drew)); exact HO_830003.out⟩, ⟨by (with_reducible repeat (first | apply Kd.S_alloc | apply Kd.S_drewN | apply Kd.S_drew)); exact HO_830005.out⟩, ⟨by (with_reducible repeat (first | apply Kd.R_alloc | apply Kd.R_drewN | apply Kd.R_drew)); exact HO_830006.out⟩, ⟨blk_x BK829.out⟩, ⟨blk_x BK839.out⟩, ⟨blk_x BK840.out⟩, ⟨blk_x BK845.out⟩, ⟨by exact IsS90.up HI809.out⟩, ⟨by exact below_y HB.out⟩⟩
              ·
               replace c109 := Bool.eq_false_iff.mpr c109
               subst c109
               have H1 : (swarflaw07_ShipTrue.j2 k2 t830 true t846 t847 x15_2 t864 true t861 t815 t816 t817 t818 t821 t822 t825 t834 t835 t836 t837 t842 t843) = some r := by rw [if_neg (show ¬ (false = true) by decide)] at H; exact H
               clear H
               have H := H1
               clear H1
               have H' := Aside0.mk H
               clear H
               have hnb129 := NB839_829.out
               have hnc129 := NB829_839.out
               have hnb130 := NB839_840.out
               have hnc130 := NB840_839.out
               have hnb131 := NB839_845.out
               have hnc131 := NB845_839.out
               have hnb132 := NB839_809.out
               have hnc132 := NB809_839.out
               obtain ⟨_, _⟩ := cz2 BK839
               have hfz133_0 := blk_frozen BK839.out
               go_wp2_with (first | ((with_reducible refine gate_callee (f := 44) rfl ?_); refine goesL_ (some 89) rfl rfl Try.func44 (by kernel_rfl) rfl #[.agg #[.int .i64 t834, .int .i64 t835], .int .i64 t862] rfl (by (try simp only [List.map_toArray, List.map_cons, List.map_nil]); first | done | rfl | (simp only [List.length_drop, List.length_take]; rfl)) ?_; (with_reducible refine (swarfkit_Inside.calls t834 t835 t862 true _ A65.out).mono ?_); rintro e w134 ⟨rfl, hb⟩; refine ⟨_, rfl, ?_⟩; replace HO_5 := Aside0.mk (Kd.R_below (Kd.R_x HO_5.out) hb); replace HO_13 := Aside0.mk (Kd.R_below (Kd.R_x HO_13.out) hb); replace HO_830003 := Aside0.mk (Kd.R_below (Kd.R_x HO_830003.out) hb); replace HO_830005 := Aside0.mk (Kd.S_below (Kd.S_x HO_830005.out) hb); replace HO_830006 := Aside0.mk (Kd.R_below (Kd.R_x HO_830006.out) hb); replace HO854 := Aside0.mk (Kd.R_below (Kd.R_x HO854.out) hb); replace HO857 := Aside0.mk (Kd.R_below (Kd.R_x HO857.out) hb); replace HO860 := Aside0.mk (Kd.S_below (Kd.S_x HO860.out) hb); replace HO866 := Aside0.mk (Kd.R_below (Kd.R_x HO866.out) hb); replace BK829 := Aside0.mk (blk_below (blk_x BK829.out) hb); replace BK839 := Aside0.mk (blk_below (blk_x BK839.out) hb); replace BK840 := Aside0.mk (blk_below (blk_x BK840.out) hb); replace BK845 := Aside0.mk (blk_below (blk_x BK845.out) hb); replace HI809 := Aside0.mk (IsS90.below (by exact IsS90.up HI809.out) hb); replace HB := bl_x HB hb; (try clear hb); (try clear hk); (try clear hi); have hnb135 := NB840_829.out; have hnc135 := NB829_840.out; have hnb136 := NB840_845.out; have hnc136 := NB845_840.out; have hnb137 := NB840_809.out; have hnc137 := NB809_840.out; obtain ⟨_, _⟩ := cz2 BK840; have hfz138_0 := blk_frozen BK840.out) | (go_at_call 44; (with_reducible refine (swarfkit_Inside.calls t836 t837 t863 true _ A67.out).mono ?_); rintro e w139 ⟨rfl, hb⟩; replace HO_5 := Aside0.mk (Kd.R_below (Kd.R_x HO_5.out) hb); replace HO_13 := Aside0.mk (Kd.R_below (Kd.R_x HO_13.out) hb); replace HO_830003 := Aside0.mk (Kd.R_below (Kd.R_x HO_830003.out) hb); replace HO_830005 := Aside0.mk (Kd.S_below (Kd.S_x HO_830005.out) hb); replace HO_830006 := Aside0.mk (Kd.R_below (Kd.R_x HO_830006.out) hb); replace HO854 := Aside0.mk (Kd.R_below (Kd.R_x HO854.out) hb); replace HO857 := Aside0.mk (Kd.R_below (Kd.R_x HO857.out) hb); replace HO860 := Aside0.mk (Kd.S_below (Kd.S_x HO860.out) hb); replace HO866 := Aside0.mk (Kd.R_below (Kd.R_x HO866.out) hb); replace BK829 := Aside0.mk (blk_below (blk_x BK829.out) hb); replace BK839 := Aside0.mk (blk_below (blk_x BK839.out) hb); replace BK840 := Aside0.mk (blk_below (blk_x BK840.out) hb); replace BK845 := Aside0.mk (blk_below (blk_x BK845.out) hb); replace HI809 := Aside0.mk (IsS90.below (by exact IsS90.up HI809.out) hb); replace HB := bl_x HB hb; (try clear hb); (try clear hk); (try clear hi); have hnb140 := NB845_829.out; have hnc140 := NB829_845.out; have hnb141 := NB845_809.out; have hnc141 := NB809_845.out; obtain ⟨_, _⟩ := cz2 BK845; have hfz142_0 := blk_frozen BK845.out) | (go_at_call 44; (with_reducible refine (swarfkit_Inside.calls t842 t843 (wrap64 (t862 - t863)) true _ A69.out).mono ?_); rintro e w143 ⟨rfl, hb⟩; replace HO_5 := Aside0.mk (Kd.R_below (Kd.R_x HO_5.out) hb); replace HO_13 := Aside0.mk (Kd.R_below (Kd.R_x HO_13.out) hb); replace HO_830003 := Aside0.mk (Kd.R_below (Kd.R_x HO_830003.out) hb); replace HO_830005 := Aside0.mk (Kd.S_below (Kd.S_x HO_830005.out) hb); replace HO_830006 := Aside0.mk (Kd.R_below (Kd.R_x HO_830006.out) hb); replace HO854 := Aside0.mk (Kd.R_below (Kd.R_x HO854.out) hb); replace HO857 := Aside0.mk (Kd.R_below (Kd.R_x HO857.out) hb); replace HO860 := Aside0.mk (Kd.S_below (Kd.S_x HO860.out) hb); replace HO866 := Aside0.mk (Kd.R_below (Kd.R_x HO866.out) hb); replace BK829 := Aside0.mk (blk_below (blk_x BK829.out) hb); replace BK839 := Aside0.mk (blk_below (blk_x BK839.out) hb); replace BK840 := Aside0.mk (blk_below (blk_x BK840.out) hb); replace BK845 := Aside0.mk (blk_below (blk_x BK845.out) hb); replace HI809 := Aside0.mk (IsS90.below (by exact IsS90.up HI809.out) hb); replace HB := bl_x HB hb; (try clear hb); (try clear hk); (try clear hi); have hnb144 := NB829_809.out; have hnc144 := NB809_829.out; obtain ⟨_, _, _, _, _, _, _⟩ := cz7 BK829; have hfz145_0 := blk_frozen BK829.out; obtain ⟨Ao146, co146, eo146⟩ := Kd.R_slice HO866.out; subst eo146) | (go_at_call 45; (with_reducible refine (swarflaw07_fits.calls t846 ((t864.length : Int) == (t822.length : Int)) false _ A108.out).mono ?_); rintro e w' ⟨rfl, ⟨nd, rfl⟩⟩))
               go_meet
               case rel => exact ⟨_, (true), (by first | rfl | (simp; done) | (simp [*]; done)), H', ⟨by have := HJ8.out; have := HK2.out; first | omega | exact Nat.le_refl _⟩, ⟨by (with_reducible repeat (first | apply Kd.R_alloc | apply Kd.R_drewN | apply Kd.R_drew)); exact Kd.R_mono HO_5.out (fun _ hk => hk.2)⟩, ⟨by (with_reducible repeat (first | apply Kd.R_alloc | apply Kd.R_drewN | apply Kd.R_drew)); exact HO_13.out⟩, ⟨by (with_reducible repeat (first | apply Kd.R_alloc | apply Kd.R_drewN | apply Kd.R_drew)); exact Kd.R_mono HO866.out (fun _ hk => hk.1.1.2)⟩, ⟨by (with_reducible repeat (first | apply Kd.R_alloc | apply Kd.R_drewN | apply Kd.R_drew)); exact HO_830003.out⟩, ⟨by (with_reducible repeat (first | apply Kd.S_alloc | apply Kd.S_drewN | apply Kd.S_drew)); exact HO_830005.out⟩, ⟨by (with_reducible repeat (first | apply Kd.R_alloc | apply Kd.R_drewN | apply Kd.R_drew)); exact HO_830006.out⟩, ⟨blk_x BK829.out⟩, ⟨blk_x BK839.out⟩, ⟨blk_x BK840.out⟩, ⟨blk_x BK845.out⟩, ⟨by exact IsS90.up HI809.out⟩, ⟨by exact below_y HB.out⟩⟩
           ·
            replace c71 := Bool.eq_false_iff.mpr c71
            subst c71
            have H1 : ((swarflaw07_fits.f t846 ((t864.length : Int) == (t822.length : Int))).bind fun t871 => (if t871 = true then (swarflaw07_ShipTrue.j2 k2 t830 false t846 t847 x15_2 t864 (decide ((t864.length : Int) < (t847.length : Int))) t861 t815 t816 t817 t818 t821 t822 t825 t834 t835 t836 t837 t842 t843) else (swarflaw07_ShipTrue.j2 k2 t830 false t846 t847 x15_2 t864 true t861 t815 t816 t817 t818 t821 t822 t825 t834 t835 t836 t837 t842 t843))) = some r := by rw [if_neg (show ¬ (false = true) by decide)] at H; exact H
            clear H
            have H := H1
            clear H1
            replace H := Option.bind_eq_some_iff.mp H
            obtain ⟨t871, A1470, H⟩ := H
            try dsimp only at H
            have A147 := Aside0.mk A1470
            clear A1470
            by_cases c148 : t871 = true
            ·
             subst c148
             have H1 : (swarflaw07_ShipTrue.j2 k2 t830 false t846 t847 x15_2 t864 (decide ((t864.length : Int) < (t847.length : Int))) t861 t815 t816 t817 t818 t821 t822 t825 t834 t835 t836 t837 t842 t843) = some r := by rw [if_pos rfl] at H; exact H
             clear H
             have H := H1
             clear H1
             have H' := Aside0.mk H
             clear H
             have hnb149 := NB839_829.out
             have hnc149 := NB829_839.out
             have hnb150 := NB839_840.out
             have hnc150 := NB840_839.out
             have hnb151 := NB839_845.out
             have hnc151 := NB845_839.out
             have hnb152 := NB839_809.out
             have hnc152 := NB809_839.out
             obtain ⟨_, _⟩ := cz2 BK839
             have hfz153_0 := blk_frozen BK839.out
             go_wp2_with (first | ((with_reducible refine gate_callee (f := 44) rfl ?_); refine goesL_ (some 89) rfl rfl Try.func44 (by kernel_rfl) rfl #[.agg #[.int .i64 t834, .int .i64 t835], .int .i64 t862] rfl (by (try simp only [List.map_toArray, List.map_cons, List.map_nil]); first | done | rfl | (simp only [List.length_drop, List.length_take]; rfl)) ?_; (with_reducible refine (swarfkit_Inside.calls t834 t835 t862 true _ A65.out).mono ?_); rintro e w154 ⟨rfl, hb⟩; refine ⟨_, rfl, ?_⟩; replace HO_5 := Aside0.mk (Kd.R_below (Kd.R_x HO_5.out) hb); replace HO_13 := Aside0.mk (Kd.R_below (Kd.R_x HO_13.out) hb); replace HO_830003 := Aside0.mk (Kd.R_below (Kd.R_x HO_830003.out) hb); replace HO_830005 := Aside0.mk (Kd.S_below (Kd.S_x HO_830005.out) hb); replace HO_830006 := Aside0.mk (Kd.R_below (Kd.R_x HO_830006.out) hb); replace HO854 := Aside0.mk (Kd.R_below (Kd.R_x HO854.out) hb); replace HO857 := Aside0.mk (Kd.R_below (Kd.R_x HO857.out) hb); replace HO860 := Aside0.mk (Kd.S_below (Kd.S_x HO860.out) hb); replace HO866 := Aside0.mk (Kd.R_below (Kd.R_x HO866.out) hb); replace BK829 := Aside0.mk (blk_below (blk_x BK829.out) hb); replace BK839 := Aside0.mk (blk_below (blk_x BK839.out) hb); replace BK840 := Aside0.mk (blk_below (blk_x BK840.out) hb); replace BK845 := Aside0.mk (blk_below (blk_x BK845.out) hb); replace HI809 := Aside0.mk (IsS90.below (by exact IsS90.up HI809.out) hb); replace HB := bl_x HB hb; (try clear hb); (try clear hk); (try clear hi); have hnb155 := NB840_829.out; have hnc155 := NB829_840.out; have hnb156 := NB840_845.out; have hnc156 := NB845_840.out; have hnb157 := NB840_809.out; have hnc157 := NB809_840.out; obtain ⟨_, _⟩ := cz2 BK840; have hfz158_0 := blk_frozen BK840.out) | (go_at_call 44; (with_reducible refine (swarfkit_Inside.calls t836 t837 t863 true _ A67.out).mono ?_); rintro e w159 ⟨rfl, hb⟩; replace HO_5 := Aside0.mk (Kd.R_below (Kd.R_x HO_5.out) hb); replace HO_13 := Aside0.mk (Kd.R_below (Kd.R_x HO_13.out) hb); replace HO_830003 := Aside0.mk (Kd.R_below (Kd.R_x HO_830003.out) hb); replace HO_830005 := Aside0.mk (Kd.S_below (Kd.S_x HO_830005.out) hb); replace HO_830006 := Aside0.mk (Kd.R_below (Kd.R_x HO_830006.out) hb); replace HO854 := Aside0.mk (Kd.R_below (Kd.R_x HO854.out) hb); replace HO857 := Aside0.mk (Kd.R_below (Kd.R_x HO857.out) hb); replace HO860 := Aside0.mk (Kd.S_below (Kd.S_x HO860.out) hb); replace HO866 := Aside0.mk (Kd.R_below (Kd.R_x HO866.out) hb); replace BK829 := Aside0.mk (blk_below (blk_x BK829.out) hb); replace BK839 := Aside0.mk (blk_below (blk_x BK839.out) hb); replace BK840 := Aside0.mk (blk_below (blk_x BK840.out) hb); replace BK845 := Aside0.mk (blk_below (blk_x BK845.out) hb); replace HI809 := Aside0.mk (IsS90.below (by exact IsS90.up HI809.out) hb); replace HB := bl_x HB hb; (try clear hb); (try clear hk); (try clear hi); have hnb160 := NB845_829.out; have hnc160 := NB829_845.out; have hnb161 := NB845_809.out; have hnc161 := NB809_845.out; obtain ⟨_, _⟩ := cz2 BK845; have hfz162_0 := blk_frozen BK845.out) | (go_at_call 44; (with_reducible refine (swarfkit_Inside.calls t842 t843 (wrap64 (t862 - t863)) true _ A69.out).mono ?_); rintro e w163 ⟨rfl, hb⟩; replace HO_5 := Aside0.mk (Kd.R_below (Kd.R_x HO_5.out) hb); replace HO_13 := Aside0.mk (Kd.R_below (Kd.R_x HO_13.out) hb); replace HO_830003 := Aside0.mk (Kd.R_below (Kd.R_x HO_830003.out) hb); replace HO_830005 := Aside0.mk (Kd.S_below (Kd.S_x HO_830005.out) hb); replace HO_830006 := Aside0.mk (Kd.R_below (Kd.R_x HO_830006.out) hb); replace HO854 := Aside0.mk (Kd.R_below (Kd.R_x HO854.out) hb); replace HO857 := Aside0.mk (Kd.R_below (Kd.R_x HO857.out) hb); replace HO860 := Aside0.mk (Kd.S_below (Kd.S_x HO860.out) hb); replace HO866 := Aside0.mk (Kd.R_below (Kd.R_x HO866.out) hb); replace BK829 := Aside0.mk (blk_below (blk_x BK829.out) hb); replace BK839 := Aside0.mk (blk_below (blk_x BK839.out) hb); replace BK840 := Aside0.mk (blk_below (blk_x BK840.out) hb); replace BK845 := Aside0.mk (blk_below (blk_x BK845.out) hb); replace HI809 := Aside0.mk (IsS90.below (by exact IsS90.up HI809.out) hb); replace HB := bl_x HB hb; (try clear hb); (try clear hk); (try clear hi); obtain ⟨Ao164, co164, eo164⟩ := Kd.R_slice HO866.out; subst eo164; have hnb165 := NB829_809.out; have hnc165 := NB809_829.out; obtain ⟨_, _, _, _, _, _, _⟩ := cz7 BK829; have hfz166_0 := blk_frozen BK829.out) | (go_at_call 45; (with_reducible refine (swarflaw07_fits.calls t846 ((t864.length : Int) == (t822.length : Int)) true _ A147.out).mono ?_); rintro e w' ⟨rfl, ⟨nd, rfl⟩⟩; obtain ⟨Ao167, co167, eo167⟩ := Kd.R_slice HO_13.out; subst eo167))
             go_meet
             case rel => exact ⟨_, (decide ((t864.length : Int) < (t847.length : Int))), (by first | rfl | (simp; done) | (simp [*]; done)), H', ⟨by have := HJ8.out; have := HK2.out; first | omega | exact Nat.le_refl _⟩, ⟨by (with_reducible repeat (first | apply Kd.R_alloc | apply Kd.R_drewN | apply Kd.R_drew)); exact Kd.R_mono HO_5.out (fun _ hk => hk.2)⟩, ⟨by (with_reducible repeat (first | apply Kd.R_alloc | apply Kd.R_drewN | apply Kd.R_drew)); exact HO_13.out⟩, ⟨by (with_reducible repeat (first | apply Kd.R_alloc | apply Kd.R_drewN | apply Kd.R_drew)); exact Kd.R_mono HO866.out (fun _ hk => hk.1.1.2)⟩, ⟨by (with_reducible repeat (first | apply Kd.R_alloc | apply Kd.R_drewN | apply Kd.R_drew)); exact HO_830003.out⟩, ⟨by (with_reducible repeat (first | apply Kd.S_alloc | apply Kd.S_drewN | apply Kd.S_drew)); exact HO_830005.out⟩, ⟨by (with_reducible repeat (first | apply Kd.R_alloc | apply Kd.R_drewN | apply Kd.R_drew)); exact HO_830006.out⟩, ⟨blk_x BK829.out⟩, ⟨blk_x BK839.out⟩, ⟨blk_x BK840.out⟩, ⟨blk_x BK845.out⟩, ⟨by exact IsS90.up HI809.out⟩, ⟨by exact below_y HB.out⟩⟩
            ·
             replace c148 := Bool.eq_false_iff.mpr c148
             subst c148
             have H1 : (swarflaw07_ShipTrue.j2 k2 t830 false t846 t847 x15_2 t864 true t861 t815 t816 t817 t818 t821 t822 t825 t834 t835 t836 t837 t842 t843) = some r := by rw [if_neg (show ¬ (false = true) by decide)] at H; exact H
             clear H
             have H := H1
             clear H1
             have H' := Aside0.mk H
             clear H
             have hnb168 := NB839_829.out
             have hnc168 := NB829_839.out
             have hnb169 := NB839_840.out
             have hnc169 := NB840_839.out
             have hnb170 := NB839_845.out
             have hnc170 := NB845_839.out
             have hnb171 := NB839_809.out
             have hnc171 := NB809_839.out
             obtain ⟨_, _⟩ := cz2 BK839
             have hfz172_0 := blk_frozen BK839.out
             go_wp2_with (first | ((with_reducible refine gate_callee (f := 44) rfl ?_); refine goesL_ (some 89) rfl rfl Try.func44 (by kernel_rfl) rfl #[.agg #[.int .i64 t834, .int .i64 t835], .int .i64 t862] rfl (by (try simp only [List.map_toArray, List.map_cons, List.map_nil]); first | done | rfl | (simp only [List.length_drop, List.length_take]; rfl)) ?_; (with_reducible refine (swarfkit_Inside.calls t834 t835 t862 true _ A65.out).mono ?_); rintro e w173 ⟨rfl, hb⟩; refine ⟨_, rfl, ?_⟩; replace HO_5 := Aside0.mk (Kd.R_below (Kd.R_x HO_5.out) hb); replace HO_13 := Aside0.mk (Kd.R_below (Kd.R_x HO_13.out) hb); replace HO_830003 := Aside0.mk (Kd.R_below (Kd.R_x HO_830003.out) hb); replace HO_830005 := Aside0.mk (Kd.S_below (Kd.S_x HO_830005.out) hb); replace HO_830006 := Aside0.mk (Kd.R_below (Kd.R_x HO_830006.out) hb); replace HO854 := Aside0.mk (Kd.R_below (Kd.R_x HO854.out) hb); replace HO857 := Aside0.mk (Kd.R_below (Kd.R_x HO857.out) hb); replace HO860 := Aside0.mk (Kd.S_below (Kd.S_x HO860.out) hb); replace HO866 := Aside0.mk (Kd.R_below (Kd.R_x HO866.out) hb); replace BK829 := Aside0.mk (blk_below (blk_x BK829.out) hb); replace BK839 := Aside0.mk (blk_below (blk_x BK839.out) hb); replace BK840 := Aside0.mk (blk_below (blk_x BK840.out) hb); replace BK845 := Aside0.mk (blk_below (blk_x BK845.out) hb); replace HI809 := Aside0.mk (IsS90.below (by exact IsS90.up HI809.out) hb); replace HB := bl_x HB hb; (try clear hb); (try clear hk); (try clear hi); have hnb174 := NB840_829.out; have hnc174 := NB829_840.out; have hnb175 := NB840_845.out; have hnc175 := NB845_840.out; have hnb176 := NB840_809.out; have hnc176 := NB809_840.out; obtain ⟨_, _⟩ := cz2 BK840; have hfz177_0 := blk_frozen BK840.out) | (go_at_call 44; (with_reducible refine (swarfkit_Inside.calls t836 t837 t863 true _ A67.out).mono ?_); rintro e w178 ⟨rfl, hb⟩; replace HO_5 := Aside0.mk (Kd.R_below (Kd.R_x HO_5.out) hb); replace HO_13 := Aside0.mk (Kd.R_below (Kd.R_x HO_13.out) hb); replace HO_830003 := Aside0.mk (Kd.R_below (Kd.R_x HO_830003.out) hb); replace HO_830005 := Aside0.mk (Kd.S_below (Kd.S_x HO_830005.out) hb); replace HO_830006 := Aside0.mk (Kd.R_below (Kd.R_x HO_830006.out) hb); replace HO854 := Aside0.mk (Kd.R_below (Kd.R_x HO854.out) hb); replace HO857 := Aside0.mk (Kd.R_below (Kd.R_x HO857.out) hb); replace HO860 := Aside0.mk (Kd.S_below (Kd.S_x HO860.out) hb); replace HO866 := Aside0.mk (Kd.R_below (Kd.R_x HO866.out) hb); replace BK829 := Aside0.mk (blk_below (blk_x BK829.out) hb); replace BK839 := Aside0.mk (blk_below (blk_x BK839.out) hb); replace BK840 := Aside0.mk (blk_below (blk_x BK840.out) hb); replace BK845 := Aside0.mk (blk_below (blk_x BK845.out) hb); replace HI809 := Aside0.mk (IsS90.below (by exact IsS90.up HI809.out) hb); replace HB := bl_x HB hb; (try clear hb); (try clear hk); (try clear hi); have hnb179 := NB845_829.out; have hnc179 := NB829_845.out; have hnb180 := NB845_809.out; have hnc180 := NB809_845.out; obtain ⟨_, _⟩ := cz2 BK845; have hfz181_0 := blk_frozen BK845.out) | (go_at_call 44; (with_reducible refine (swarfkit_Inside.calls t842 t843 (wrap64 (t862 - t863)) true _ A69.out).mono ?_); rintro e w182 ⟨rfl, hb⟩; replace HO_5 := Aside0.mk (Kd.R_below (Kd.R_x HO_5.out) hb); replace HO_13 := Aside0.mk (Kd.R_below (Kd.R_x HO_13.out) hb); replace HO_830003 := Aside0.mk (Kd.R_below (Kd.R_x HO_830003.out) hb); replace HO_830005 := Aside0.mk (Kd.S_below (Kd.S_x HO_830005.out) hb); replace HO_830006 := Aside0.mk (Kd.R_below (Kd.R_x HO_830006.out) hb); replace HO854 := Aside0.mk (Kd.R_below (Kd.R_x HO854.out) hb); replace HO857 := Aside0.mk (Kd.R_below (Kd.R_x HO857.out) hb); replace HO860 := Aside0.mk (Kd.S_below (Kd.S_x HO860.out) hb); replace HO866 := Aside0.mk (Kd.R_below (Kd.R_x HO866.out) hb); replace BK829 := Aside0.mk (blk_below (blk_x BK829.out) hb); replace BK839 := Aside0.mk (blk_below (blk_x BK839.out) hb); replace BK840 := Aside0.mk (blk_below (blk_x BK840.out) hb); replace BK845 := Aside0.mk (blk_below (blk_x BK845.out) hb); replace HI809 := Aside0.mk (IsS90.below (by exact IsS90.up HI809.out) hb); replace HB := bl_x HB hb; (try clear hb); (try clear hk); (try clear hi); obtain ⟨Ao183, co183, eo183⟩ := Kd.R_slice HO866.out; subst eo183; have hnb184 := NB829_809.out; have hnc184 := NB809_829.out; obtain ⟨_, _, _, _, _, _, _⟩ := cz7 BK829; have hfz185_0 := blk_frozen BK829.out) | (go_at_call 45; (with_reducible refine (swarflaw07_fits.calls t846 ((t864.length : Int) == (t822.length : Int)) false _ A147.out).mono ?_); rintro e w' ⟨rfl, ⟨nd, rfl⟩⟩))
             go_meet
             case rel => exact ⟨_, (true), (by first | rfl | (simp; done) | (simp [*]; done)), H', ⟨by have := HJ8.out; have := HK2.out; first | omega | exact Nat.le_refl _⟩, ⟨by (with_reducible repeat (first | apply Kd.R_alloc | apply Kd.R_drewN | apply Kd.R_drew)); exact Kd.R_mono HO_5.out (fun _ hk => hk.2)⟩, ⟨by (with_reducible repeat (first | apply Kd.R_alloc | apply Kd.R_drewN | apply Kd.R_drew)); exact HO_13.out⟩, ⟨by (with_reducible repeat (first | apply Kd.R_alloc | apply Kd.R_drewN | apply Kd.R_drew)); exact Kd.R_mono HO866.out (fun _ hk => hk.1.1.2)⟩, ⟨by (with_reducible repeat (first | apply Kd.R_alloc | apply Kd.R_drewN | apply Kd.R_drew)); exact HO_830003.out⟩, ⟨by (with_reducible repeat (first | apply Kd.S_alloc | apply Kd.S_drewN | apply Kd.S_drew)); exact HO_830005.out⟩, ⟨by (with_reducible repeat (first | apply Kd.R_alloc | apply Kd.R_drewN | apply Kd.R_drew)); exact HO_830006.out⟩, ⟨blk_x BK829.out⟩, ⟨blk_x BK839.out⟩, ⟨blk_x BK840.out⟩, ⟨blk_x BK845.out⟩, ⟨by exact IsS90.up HI809.out⟩, ⟨by exact below_y HB.out⟩⟩
          ·
           replace c70 := Bool.eq_false_iff.mpr c70
           subst c70
           have H1 : (swarflaw07_ShipTrue.j2 k2 t830 t841 t846 t847 x15_2 t864 true t861 t815 t816 t817 t818 t821 t822 t825 t834 t835 t836 t837 t842 t843) = some r := by rw [if_neg (show ¬ (false = true) by decide)] at H; exact H
           clear H
           have H := H1
           clear H1
           have H' := Aside0.mk H
           clear H
           have hnb186 := NB839_829.out
           have hnc186 := NB829_839.out
           have hnb187 := NB839_840.out
           have hnc187 := NB840_839.out
           have hnb188 := NB839_845.out
           have hnc188 := NB845_839.out
           have hnb189 := NB839_809.out
           have hnc189 := NB809_839.out
           obtain ⟨_, _⟩ := cz2 BK839
           have hfz190_0 := blk_frozen BK839.out
           go_wp2_with (first | ((with_reducible refine gate_callee (f := 44) rfl ?_); refine goesL_ (some 89) rfl rfl Try.func44 (by kernel_rfl) rfl #[.agg #[.int .i64 t834, .int .i64 t835], .int .i64 t862] rfl (by (try simp only [List.map_toArray, List.map_cons, List.map_nil]); first | done | rfl | (simp only [List.length_drop, List.length_take]; rfl)) ?_; (with_reducible refine (swarfkit_Inside.calls t834 t835 t862 true _ A65.out).mono ?_); rintro e w191 ⟨rfl, hb⟩; refine ⟨_, rfl, ?_⟩; replace HO_5 := Aside0.mk (Kd.R_below (Kd.R_x HO_5.out) hb); replace HO_13 := Aside0.mk (Kd.R_below (Kd.R_x HO_13.out) hb); replace HO_830003 := Aside0.mk (Kd.R_below (Kd.R_x HO_830003.out) hb); replace HO_830005 := Aside0.mk (Kd.S_below (Kd.S_x HO_830005.out) hb); replace HO_830006 := Aside0.mk (Kd.R_below (Kd.R_x HO_830006.out) hb); replace HO854 := Aside0.mk (Kd.R_below (Kd.R_x HO854.out) hb); replace HO857 := Aside0.mk (Kd.R_below (Kd.R_x HO857.out) hb); replace HO860 := Aside0.mk (Kd.S_below (Kd.S_x HO860.out) hb); replace HO866 := Aside0.mk (Kd.R_below (Kd.R_x HO866.out) hb); replace BK829 := Aside0.mk (blk_below (blk_x BK829.out) hb); replace BK839 := Aside0.mk (blk_below (blk_x BK839.out) hb); replace BK840 := Aside0.mk (blk_below (blk_x BK840.out) hb); replace BK845 := Aside0.mk (blk_below (blk_x BK845.out) hb); replace HI809 := Aside0.mk (IsS90.below (by exact IsS90.up HI809.out) hb); replace HB := bl_x HB hb; (try clear hb); (try clear hk); (try clear hi); have hnb192 := NB840_829.out; have hnc192 := NB829_840.out; have hnb193 := NB840_845.out; have hnc193 := NB845_840.out; have hnb194 := NB840_809.out; have hnc194 := NB809_840.out; obtain ⟨_, _⟩ := cz2 BK840; have hfz195_0 := blk_frozen BK840.out) | (go_at_call 44; (with_reducible refine (swarfkit_Inside.calls t836 t837 t863 true _ A67.out).mono ?_); rintro e w196 ⟨rfl, hb⟩; replace HO_5 := Aside0.mk (Kd.R_below (Kd.R_x HO_5.out) hb); replace HO_13 := Aside0.mk (Kd.R_below (Kd.R_x HO_13.out) hb); replace HO_830003 := Aside0.mk (Kd.R_below (Kd.R_x HO_830003.out) hb); replace HO_830005 := Aside0.mk (Kd.S_below (Kd.S_x HO_830005.out) hb); replace HO_830006 := Aside0.mk (Kd.R_below (Kd.R_x HO_830006.out) hb); replace HO854 := Aside0.mk (Kd.R_below (Kd.R_x HO854.out) hb); replace HO857 := Aside0.mk (Kd.R_below (Kd.R_x HO857.out) hb); replace HO860 := Aside0.mk (Kd.S_below (Kd.S_x HO860.out) hb); replace HO866 := Aside0.mk (Kd.R_below (Kd.R_x HO866.out) hb); replace BK829 := Aside0.mk (blk_below (blk_x BK829.out) hb); replace BK839 := Aside0.mk (blk_below (blk_x BK839.out) hb); replace BK840 := Aside0.mk (blk_below (blk_x BK840.out) hb); replace BK845 := Aside0.mk (blk_below (blk_x BK845.out) hb); replace HI809 := Aside0.mk (IsS90.below (by exact IsS90.up HI809.out) hb); replace HB := bl_x HB hb; (try clear hb); (try clear hk); (try clear hi); have hnb197 := NB845_829.out; have hnc197 := NB829_845.out; have hnb198 := NB845_809.out; have hnc198 := NB809_845.out; obtain ⟨_, _⟩ := cz2 BK845; have hfz199_0 := blk_frozen BK845.out) | (go_at_call 44; (with_reducible refine (swarfkit_Inside.calls t842 t843 (wrap64 (t862 - t863)) false _ A69.out).mono ?_); rintro e w200 ⟨rfl, hb⟩; replace HO_5 := Aside0.mk (Kd.R_below (Kd.R_x HO_5.out) hb); replace HO_13 := Aside0.mk (Kd.R_below (Kd.R_x HO_13.out) hb); replace HO_830003 := Aside0.mk (Kd.R_below (Kd.R_x HO_830003.out) hb); replace HO_830005 := Aside0.mk (Kd.S_below (Kd.S_x HO_830005.out) hb); replace HO_830006 := Aside0.mk (Kd.R_below (Kd.R_x HO_830006.out) hb); replace HO854 := Aside0.mk (Kd.R_below (Kd.R_x HO854.out) hb); replace HO857 := Aside0.mk (Kd.R_below (Kd.R_x HO857.out) hb); replace HO860 := Aside0.mk (Kd.S_below (Kd.S_x HO860.out) hb); replace HO866 := Aside0.mk (Kd.R_below (Kd.R_x HO866.out) hb); replace BK829 := Aside0.mk (blk_below (blk_x BK829.out) hb); replace BK839 := Aside0.mk (blk_below (blk_x BK839.out) hb); replace BK840 := Aside0.mk (blk_below (blk_x BK840.out) hb); replace BK845 := Aside0.mk (blk_below (blk_x BK845.out) hb); replace HI809 := Aside0.mk (IsS90.below (by exact IsS90.up HI809.out) hb); replace HB := bl_x HB hb; (try clear hb); (try clear hk); (try clear hi)))
           go_meet
           case rel => exact ⟨_, (true), (by first | rfl | (simp; done) | (simp [*]; done)), H', ⟨by have := HJ8.out; have := HK2.out; first | omega | exact Nat.le_refl _⟩, ⟨by (with_reducible repeat (first | apply Kd.R_alloc | apply Kd.R_drewN | apply Kd.R_drew)); exact Kd.R_mono HO_5.out (fun _ hk => hk.2)⟩, ⟨by (with_reducible repeat (first | apply Kd.R_alloc | apply Kd.R_drewN | apply Kd.R_drew)); exact HO_13.out⟩, ⟨by (with_reducible repeat (first | apply Kd.R_alloc | apply Kd.R_drewN | apply Kd.R_drew)); exact Kd.R_mono HO866.out (fun _ hk => hk.1.1.2)⟩, ⟨by (with_reducible repeat (first | apply Kd.R_alloc | apply Kd.R_drewN | apply Kd.R_drew)); exact HO_830003.out⟩, ⟨by (with_reducible repeat (first | apply Kd.S_alloc | apply Kd.S_drewN | apply Kd.S_drew)); exact HO_830005.out⟩, ⟨by (with_reducible repeat (first | apply Kd.R_alloc | apply Kd.R_drewN | apply Kd.R_drew)); exact HO_830006.out⟩, ⟨blk_x BK829.out⟩, ⟨blk_x BK839.out⟩, ⟨blk_x BK840.out⟩, ⟨blk_x BK845.out⟩, ⟨by exact IsS90.up HI809.out⟩, ⟨by exact below_y HB.out⟩⟩
         ·
          replace c68 := Bool.eq_false_iff.mpr c68
          subst c68
          have H1 : (swarflaw07_ShipTrue.j2 k2 t830 t841 t846 t847 x15_2 t864 true t861 t815 t816 t817 t818 t821 t822 t825 t834 t835 t836 t837 t842 t843) = some r := by rw [if_neg (show ¬ (false = true) by decide)] at H; exact H
          clear H
          have H := H1
          clear H1
          have H' := Aside0.mk H
          clear H
          have hnb201 := NB839_829.out
          have hnc201 := NB829_839.out
          have hnb202 := NB839_840.out
          have hnc202 := NB840_839.out
          have hnb203 := NB839_845.out
          have hnc203 := NB845_839.out
          have hnb204 := NB839_809.out
          have hnc204 := NB809_839.out
          obtain ⟨_, _⟩ := cz2 BK839
          have hfz205_0 := blk_frozen BK839.out
          go_wp2_with (first | ((with_reducible refine gate_callee (f := 44) rfl ?_); refine goesL_ (some 89) rfl rfl Try.func44 (by kernel_rfl) rfl #[.agg #[.int .i64 t834, .int .i64 t835], .int .i64 t862] rfl (by (try simp only [List.map_toArray, List.map_cons, List.map_nil]); first | done | rfl | (simp only [List.length_drop, List.length_take]; rfl)) ?_; (with_reducible refine (swarfkit_Inside.calls t834 t835 t862 true _ A65.out).mono ?_); rintro e w206 ⟨rfl, hb⟩; refine ⟨_, rfl, ?_⟩; replace HO_5 := Aside0.mk (Kd.R_below (Kd.R_x HO_5.out) hb); replace HO_13 := Aside0.mk (Kd.R_below (Kd.R_x HO_13.out) hb); replace HO_830003 := Aside0.mk (Kd.R_below (Kd.R_x HO_830003.out) hb); replace HO_830005 := Aside0.mk (Kd.S_below (Kd.S_x HO_830005.out) hb); replace HO_830006 := Aside0.mk (Kd.R_below (Kd.R_x HO_830006.out) hb); replace HO854 := Aside0.mk (Kd.R_below (Kd.R_x HO854.out) hb); replace HO857 := Aside0.mk (Kd.R_below (Kd.R_x HO857.out) hb); replace HO860 := Aside0.mk (Kd.S_below (Kd.S_x HO860.out) hb); replace HO866 := Aside0.mk (Kd.R_below (Kd.R_x HO866.out) hb); replace BK829 := Aside0.mk (blk_below (blk_x BK829.out) hb); replace BK839 := Aside0.mk (blk_below (blk_x BK839.out) hb); replace BK840 := Aside0.mk (blk_below (blk_x BK840.out) hb); replace BK845 := Aside0.mk (blk_below (blk_x BK845.out) hb); replace HI809 := Aside0.mk (IsS90.below (by exact IsS90.up HI809.out) hb); replace HB := bl_x HB hb; (try clear hb); (try clear hk); (try clear hi); have hnb207 := NB840_829.out; have hnc207 := NB829_840.out; have hnb208 := NB840_845.out; have hnc208 := NB845_840.out; have hnb209 := NB840_809.out; have hnc209 := NB809_840.out; obtain ⟨_, _⟩ := cz2 BK840; have hfz210_0 := blk_frozen BK840.out) | (go_at_call 44; (with_reducible refine (swarfkit_Inside.calls t836 t837 t863 false _ A67.out).mono ?_); rintro e w211 ⟨rfl, hb⟩; replace HO_5 := Aside0.mk (Kd.R_below (Kd.R_x HO_5.out) hb); replace HO_13 := Aside0.mk (Kd.R_below (Kd.R_x HO_13.out) hb); replace HO_830003 := Aside0.mk (Kd.R_below (Kd.R_x HO_830003.out) hb); replace HO_830005 := Aside0.mk (Kd.S_below (Kd.S_x HO_830005.out) hb); replace HO_830006 := Aside0.mk (Kd.R_below (Kd.R_x HO_830006.out) hb); replace HO854 := Aside0.mk (Kd.R_below (Kd.R_x HO854.out) hb); replace HO857 := Aside0.mk (Kd.R_below (Kd.R_x HO857.out) hb); replace HO860 := Aside0.mk (Kd.S_below (Kd.S_x HO860.out) hb); replace HO866 := Aside0.mk (Kd.R_below (Kd.R_x HO866.out) hb); replace BK829 := Aside0.mk (blk_below (blk_x BK829.out) hb); replace BK839 := Aside0.mk (blk_below (blk_x BK839.out) hb); replace BK840 := Aside0.mk (blk_below (blk_x BK840.out) hb); replace BK845 := Aside0.mk (blk_below (blk_x BK845.out) hb); replace HI809 := Aside0.mk (IsS90.below (by exact IsS90.up HI809.out) hb); replace HB := bl_x HB hb; (try clear hb); (try clear hk); (try clear hi)))
          go_meet
          case rel => exact ⟨_, (true), (by first | rfl | (simp; done) | (simp [*]; done)), H', ⟨by have := HJ8.out; have := HK2.out; first | omega | exact Nat.le_refl _⟩, ⟨by (with_reducible repeat (first | apply Kd.R_alloc | apply Kd.R_drewN | apply Kd.R_drew)); exact Kd.R_mono HO_5.out (fun _ hk => hk.2)⟩, ⟨by (with_reducible repeat (first | apply Kd.R_alloc | apply Kd.R_drewN | apply Kd.R_drew)); exact HO_13.out⟩, ⟨by (with_reducible repeat (first | apply Kd.R_alloc | apply Kd.R_drewN | apply Kd.R_drew)); exact Kd.R_mono HO866.out (fun _ hk => hk.1.1.2)⟩, ⟨by (with_reducible repeat (first | apply Kd.R_alloc | apply Kd.R_drewN | apply Kd.R_drew)); exact HO_830003.out⟩, ⟨by (with_reducible repeat (first | apply Kd.S_alloc | apply Kd.S_drewN | apply Kd.S_drew)); exact HO_830005.out⟩, ⟨by (with_reducible repeat (first | apply Kd.R_alloc | apply Kd.R_drewN | apply Kd.R_drew)); exact HO_830006.out⟩, ⟨blk_x BK829.out⟩, ⟨blk_x BK839.out⟩, ⟨blk_x BK840.out⟩, ⟨blk_x BK845.out⟩, ⟨by exact IsS90.up HI809.out⟩, ⟨by exact below_y HB.out⟩⟩
        ·
         replace c66 := Bool.eq_false_iff.mpr c66
         subst c66
         have H1 : (swarflaw07_ShipTrue.j2 k2 t830 t841 t846 t847 x15_2 t864 true t861 t815 t816 t817 t818 t821 t822 t825 t834 t835 t836 t837 t842 t843) = some r := by rw [if_neg (show ¬ (false = true) by decide)] at H; exact H
         clear H
         have H := H1
         clear H1
         have H' := Aside0.mk H
         clear H
         have hnb212 := NB839_829.out
         have hnc212 := NB829_839.out
         have hnb213 := NB839_840.out
         have hnc213 := NB840_839.out
         have hnb214 := NB839_845.out
         have hnc214 := NB845_839.out
         have hnb215 := NB839_809.out
         have hnc215 := NB809_839.out
         obtain ⟨_, _⟩ := cz2 BK839
         have hfz216_0 := blk_frozen BK839.out
         go_wp2_with (first | ((with_reducible refine gate_callee (f := 44) rfl ?_); refine goesL_ (some 89) rfl rfl Try.func44 (by kernel_rfl) rfl #[.agg #[.int .i64 t834, .int .i64 t835], .int .i64 t862] rfl (by (try simp only [List.map_toArray, List.map_cons, List.map_nil]); first | done | rfl | (simp only [List.length_drop, List.length_take]; rfl)) ?_; (with_reducible refine (swarfkit_Inside.calls t834 t835 t862 false _ A65.out).mono ?_); rintro e w217 ⟨rfl, hb⟩; refine ⟨_, rfl, ?_⟩; replace HO_5 := Aside0.mk (Kd.R_below (Kd.R_x HO_5.out) hb); replace HO_13 := Aside0.mk (Kd.R_below (Kd.R_x HO_13.out) hb); replace HO_830003 := Aside0.mk (Kd.R_below (Kd.R_x HO_830003.out) hb); replace HO_830005 := Aside0.mk (Kd.S_below (Kd.S_x HO_830005.out) hb); replace HO_830006 := Aside0.mk (Kd.R_below (Kd.R_x HO_830006.out) hb); replace HO854 := Aside0.mk (Kd.R_below (Kd.R_x HO854.out) hb); replace HO857 := Aside0.mk (Kd.R_below (Kd.R_x HO857.out) hb); replace HO860 := Aside0.mk (Kd.S_below (Kd.S_x HO860.out) hb); replace HO866 := Aside0.mk (Kd.R_below (Kd.R_x HO866.out) hb); replace BK829 := Aside0.mk (blk_below (blk_x BK829.out) hb); replace BK839 := Aside0.mk (blk_below (blk_x BK839.out) hb); replace BK840 := Aside0.mk (blk_below (blk_x BK840.out) hb); replace BK845 := Aside0.mk (blk_below (blk_x BK845.out) hb); replace HI809 := Aside0.mk (IsS90.below (by exact IsS90.up HI809.out) hb); replace HB := bl_x HB hb; (try clear hb); (try clear hk); (try clear hi)))
         go_meet
         case rel => exact ⟨_, (true), (by first | rfl | (simp; done) | (simp [*]; done)), H', ⟨by have := HJ8.out; have := HK2.out; first | omega | exact Nat.le_refl _⟩, ⟨by (with_reducible repeat (first | apply Kd.R_alloc | apply Kd.R_drewN | apply Kd.R_drew)); exact Kd.R_mono HO_5.out (fun _ hk => hk.2)⟩, ⟨by (with_reducible repeat (first | apply Kd.R_alloc | apply Kd.R_drewN | apply Kd.R_drew)); exact HO_13.out⟩, ⟨by (with_reducible repeat (first | apply Kd.R_alloc | apply Kd.R_drewN | apply Kd.R_drew)); exact Kd.R_mono HO866.out (fun _ hk => hk.1.1.2)⟩, ⟨by (with_reducible repeat (first | apply Kd.R_alloc | apply Kd.R_drewN | apply Kd.R_drew)); exact HO_830003.out⟩, ⟨by (with_reducible repeat (first | apply Kd.S_alloc | apply Kd.S_drewN | apply Kd.S_drew)); exact HO_830005.out⟩, ⟨by (with_reducible repeat (first | apply Kd.R_alloc | apply Kd.R_drewN | apply Kd.R_drew)); exact HO_830006.out⟩, ⟨blk_x BK829.out⟩, ⟨blk_x BK839.out⟩, ⟨blk_x BK840.out⟩, ⟨blk_x BK845.out⟩, ⟨by exact IsS90.up HI809.out⟩, ⟨by exact below_y HB.out⟩⟩
       case rest =>
        clear HC58
        obtain ⟨kq, x137_57, rfl, HA, HJ57, HO_5, HO_13, HO_18, HO_830003, HO_830005, HO_830006, BK829, BK839, BK840, BK845, HI809, HB⟩ := hcut
        cases kq with
        | zero => exact absurd HA.out (by simp [swarflaw07_ShipTrue.j2])
        | succ kj57 =>
         have H := HA.out
         clear HA
         simp only [swarflaw07_ShipTrue.j2] at H
         by_cases c218 : x137_57 = true
         ·
          subst c218
          have H1 : (some false) = some r := by rw [if_pos rfl] at H; exact H
          clear H
          have H := H1
          clear H1
          exact absurd ((Option.some.inj H).trans hrt.out) (by decide)
         ·
          replace c218 := Bool.eq_false_iff.mpr c218
          subst c218
          have H1 : (swarflaw07_ShipTrue.l1 kj57 t830 t841 t846 t847 x15_2 t864 0 t861 t815 t816 t817 t818 t821 t822 t825 t834 t835 t836 t837 t842 t843) = some r := by rw [if_neg (show ¬ (false = true) by decide)] at H; exact H
          clear H
          have H := H1
          clear H1
          have H' := Aside0.mk H
          clear H
          go_wp2
          go_loopg [20] kj57 (fun kq v20 w' => ∃ (x20_4 : Int), v20 = .int .i64 x20_4 ∧ Aside0 (swarflaw07_ShipTrue.l1 kq t830 t841 t846 t847 x15_2 t864 x20_4 t861 t815 t816 t817 t818 t821 t822 t825 t834 t835 t836 t837 t842 t843 = some r) ∧ Aside0 (kq ≤ kj57) ∧ Aside0 (Kd.R (Kd.int .i64) 3 w' w.heap.size (fun k_ => some k_ ≠ (v865 : Value).ownBlock) (.slice Ao24 t830.length co24) t830) ∧ Aside0 (Kd.R k56 56 w' w.heap.size (fun k_ => k_ ≠ gb839 ∧ k_ ≠ gb840 ∧ k_ ≠ gb845) v848 t847) ∧ Aside0 (Kd.R (Kd.int .i64) 3 w' w.heap.size (fun k_ => some k_ ≠ ((.slice Ao24 t830.length co24) : Value).ownBlock) v865 t864) ∧ Aside0 (Kd.R k85 85 w' w.heap.size (fun _ => True) (.slice Ao19 t818.length co19) t818) ∧ Aside0 (Kd.S k59 59 w' w.heap.size (fun _ => True) (.slice Ao20 t822.length co20) t822) ∧ Aside0 (Kd.R k79 79 w' w.heap.size (fun _ => True) (.slice Ao21 t825.length co21) t825) ∧ Aside0 (w'.heap[gb829]? = some (.cells #[.int .i64 t815, .int .i64 t816, .int .i64 t817, (.slice Ao19 t818.length co19), .int .i64 t821, (.slice Ao20 t822.length co20), (.slice Ao21 t825.length co21)] 26 (0, 0))) ∧ Aside0 (w'.heap[gb839]? = some (.cells #[.int .i64 t834, .int .i64 t835] 56 (0, 0))) ∧ Aside0 (w'.heap[gb840]? = some (.cells #[.int .i64 t836, .int .i64 t837] 56 (0, 0))) ∧ Aside0 (w'.heap[gb845]? = some (.cells #[.int .i64 t842, .int .i64 t843] 56 (0, 0))) ∧ Aside0 (IsS90 w w' g809 t861) ∧ Aside0 (Below w.heap.size w w'))
          case atStart => exact ⟨(0), (by first | rfl | (simp; done) | (simp [*]; done)), H', ⟨Nat.le_refl _⟩, ⟨by (with_reducible repeat (first | apply Kd.R_alloc | apply Kd.R_drewN | apply Kd.R_drew)); exact HO_5.out⟩, ⟨by (with_reducible repeat (first | apply Kd.R_alloc | apply Kd.R_drewN | apply Kd.R_drew)); exact HO_13.out⟩, ⟨by (with_reducible repeat (first | apply Kd.R_alloc | apply Kd.R_drewN | apply Kd.R_drew)); exact HO_18.out⟩, ⟨by (with_reducible repeat (first | apply Kd.R_alloc | apply Kd.R_drewN | apply Kd.R_drew)); exact HO_830003.out⟩, ⟨by (with_reducible repeat (first | apply Kd.S_alloc | apply Kd.S_drewN | apply Kd.S_drew)); exact HO_830005.out⟩, ⟨by (with_reducible repeat (first | apply Kd.R_alloc | apply Kd.R_drewN | apply Kd.R_drew)); exact HO_830006.out⟩, ⟨blk_x BK829.out⟩, ⟨blk_x BK839.out⟩, ⟨blk_x BK840.out⟩, ⟨blk_x BK845.out⟩, ⟨by exact IsS90.up HI809.out⟩, ⟨by exact below_y HB.out⟩⟩
          case round =>
           clear H'
           obtain ⟨x20_4, rfl, HA, HK4, HO_5, HO_13, HO_18, HO_830003, HO_830005, HO_830006, BK829, BK839, BK840, BK845, HI809, HB⟩ := hrel
           cases gk with
           | zero => exact absurd HA.out (by simp [swarflaw07_ShipTrue.l1])
           | succ k4 =>
            have H := HA.out
            clear HA
            simp only [swarflaw07_ShipTrue.l1] at H
            by_cases c219 : x20_4 < (t847.length : Int)
            ·
             rw [if_pos c219] at H
             have c219b0 : decide (x20_4 < (t847.length : Int)) = true := decide_eq_true c219
             clear c219
             by_cases c220 : 0 ≤ x20_4
             ·
              rw [if_pos c220] at H
              have c220b0 : decide (0 ≤ x20_4) = true := decide_eq_true c220
              clear c220
              by_cases c221 : x20_4 < (t864.length : Int)
              ·
               rw [if_pos c221] at H
               have c221b0 : decide (x20_4 < (t864.length : Int)) = true := decide_eq_true c221
               clear c221
               replace H := Option.bind_eq_some_iff.mp H
               obtain ⟨t874, A2220, H⟩ := H
               try dsimp only at H
               have A222 := Aside0.mk A2220
               clear A2220
               by_cases c223 : t874 = true
               ·
                subst c223
                have H1 : (swarflaw07_ShipTrue.l1 k4 t830 t841 t846 t847 x15_2 t864 (wrap64 (x20_4 + 1)) t861 t815 t816 t817 t818 t821 t822 t825 t834 t835 t836 t837 t842 t843) = some r := by rw [if_pos rfl] at H; exact H
                clear H
                have H := H1
                clear H1
                have H' := Aside0.mk H
                clear H
                obtain ⟨Ao224, co224, eo224⟩ := Kd.R_slice HO_13.out
                subst eo224
                try go_wp2
                replace HO_5 := Aside0.mk (Kd.R_drew HO_5.out)
                replace HO_13 := Aside0.mk (Kd.R_drew HO_13.out)
                replace HO_18 := Aside0.mk (Kd.R_drew HO_18.out)
                replace HO_830003 := Aside0.mk (Kd.R_drew HO_830003.out)
                replace HO_830005 := Aside0.mk (Kd.S_drew HO_830005.out)
                replace HO_830006 := Aside0.mk (Kd.R_drew HO_830006.out)
                replace BK829 := Aside0.mk (blk_drew BK829.out)
                replace BK839 := Aside0.mk (blk_drew BK839.out)
                replace BK840 := Aside0.mk (blk_drew BK840.out)
                replace BK845 := Aside0.mk (blk_drew BK845.out)
                replace HI809 := Aside0.mk (IsS90.drew HI809.out)
                replace HB := Aside0.mk (below_drew1 HB.out)
                have p872 : 0 ≤ (x20_4 : Int) := of_x
                have q872 : x20_4 < (t847.length : Int) := of_x
                obtain ⟨ad872, e872, hx872_0, hx872_1⟩ := at_T56 (Kd.R_reads' HO_13.out).2.2 x20_4 p872 q872
                cases e872
                replace p872 := eq_true p872
                replace q872 := eq_true q872
                obtain ⟨Ao226, co226, eo226⟩ := Kd.R_slice HO_18.out
                (first | subst eo226 | (injection eo226 with f1_ f2_ f3_; have f4_ := f1_.symm; have f5_ := f3_.symm; clear f1_ f2_ f3_; subst f4_; subst f5_))
                have p873 : 0 ≤ (x20_4 : Int) := of_x
                have q873 : x20_4 < (t864.length : Int) := of_x
                obtain ⟨ad873, e873, hx873_0⟩ := Kd.at_int (Kd.R_reads' HO_18.out).2.2 x20_4 p873 q873
                cases e873
                replace p873 := eq_true p873
                replace q873 := eq_true q873
                refine start_ (n := 10) (S := fun w' => w'.cell? (ad872.add ((x20_4).toNat * 2)) = some (.int .i64 ((rd_T56 t847 x20_4).f0)) ∧ w'.cell? ⟨(ad872.add ((x20_4).toNat * 2)).block, (ad872.add ((x20_4).toNat * 2)).off + 1, none⟩ = some (.int .i64 ((rd_T56 t847 x20_4).f1)) ∧ w'.cell? (ad873.add (x20_4).toNat) = some (.int .i64 (rd t864 x20_4))) (ds := []) #[false, false, false, false, false, false, false, false, false, false] (by kernel_rfl) rfl rfl ⟨hx872_0, hx872_1, hx873_0⟩ (fun hHeld => ?_); refine with_tabW swarflaw07_ShipTrue.tab19 swarflaw07_ShipTrue.bits19 (fun HT_ HW_ => ?_)
                generalize wr.drew = w225 at HO_5 HO_13 HO_18 HO_830003 HO_830005 HO_830006 BK829 BK839 BK840 BK845 HI809 HB hx872_0 hx872_1 hx873_0 hHeld ⊢
                refine pure_t 0 (some 144) (bz 10 1) HT_ ?_
                refine pure_t 1 (some 145) (bz 10 3) HT_ ?_
                refine pure_t 2 (some 146) (bz 10 7) HT_ ?_
                refine pure_t 4 (some 148) (bz 10 23) HT_ ?_
                refine pure_t 5 (some 149) (bz 10 55) HT_ ?_
                refine pure_t 6 (some 150) (bz 10 119) HT_ ?_
                refine take_ (i := 3) (N := some 147) (v := ?_) (a' := ?_) (bz 10 127) rfl rfl (take_ofW HT_.out HW_.out (by kernel_rfl)) (fun _ _ _ h => h) (Or.inl ⟨by rfl, ?_⟩) hHeld ?_ ?_
                rotate_left; (rintro w' ⟨s0, s1, s2⟩; go_simp; with_reducible rfl); rotate_left; (simp only [Act.put, put_x, i64_w, i32_w]; rfl)
                refine take_ (i := 7) (N := some 151) (v := ?_) (a' := ?_) (bz 10 255) rfl rfl (take_ofW HT_.out HW_.out (by kernel_rfl)) (fun _ _ _ h => h) (Or.inl ⟨by rfl, ?_⟩) hHeld ?_ ?_
                rotate_left; (rintro w' ⟨s0, s1, s2⟩; go_simp; with_reducible rfl); rotate_left; (simp only [Act.put, put_x, i64_w, i32_w]; rfl)
                refine one_ (i := 8) (N := some 152) (bz 10 511) rfl rfl (one_of HT_.out (by kernel_rfl)) (by decide) (fun K hK => ?_)
                refine goes_ Try.func44 (by kernel_rfl) rfl #[.agg #[.int .i64 ((rd_T56 t847 x20_4).f0), .int .i64 ((rd_T56 t847 x20_4).f1)], .int .i64 (rd t864 x20_4)] (by rfl) rfl rfl (by (try simp only [List.map_toArray, List.map_cons, List.map_nil]); first | done | rfl | (simp only [List.length_drop, List.length_take]; rfl)) ?_
                with_reducible refine (swarfkit_Inside.calls ((rd_T56 t847 x20_4).f0) ((rd_T56 t847 x20_4).f1) (rd t864 x20_4) true _ A222.out).mono ?_
                rintro e w227 ⟨rfl, hb⟩
                have HS0_ := (hb.cell (World.block_lt_of_cell? _ _ (hHeld.1))).trans (hHeld.1)
                have HS1_ := (hb.cell (World.block_lt_of_cell? _ _ (hHeld.2.1))).trans (hHeld.2.1)
                have HS2_ := (hb.cell (World.block_lt_of_cell? _ _ (hHeld.2.2))).trans (hHeld.2.2)
                refine ⟨_, rfl, ?_⟩
                replace HO_5 := Aside0.mk (Kd.R_below (Kd.R_x HO_5.out) hb)
                replace HO_13 := Aside0.mk (Kd.R_below (Kd.R_x HO_13.out) hb)
                replace HO_18 := Aside0.mk (Kd.R_below (Kd.R_x HO_18.out) hb)
                replace HO_830003 := Aside0.mk (Kd.R_below (Kd.R_x HO_830003.out) hb)
                replace HO_830005 := Aside0.mk (Kd.S_below (Kd.S_x HO_830005.out) hb)
                replace HO_830006 := Aside0.mk (Kd.R_below (Kd.R_x HO_830006.out) hb)
                replace BK829 := Aside0.mk (blk_below (blk_x BK829.out) hb)
                replace BK839 := Aside0.mk (blk_below (blk_x BK839.out) hb)
                replace BK840 := Aside0.mk (blk_below (blk_x BK840.out) hb)
                replace BK845 := Aside0.mk (blk_below (blk_x BK845.out) hb)
                replace HI809 := Aside0.mk (IsS90.below (by exact IsS90.up HI809.out) hb)
                replace HB := bl_x HB hb
                (try clear hb)
                (try clear hb2)
                (try clear hk)
                (try clear hi)
                refine hK.out _ _ ⟨HS0_, HS1_, HS2_⟩ (fun hHeld => ?_)
                clear hK K
                refine norm_ (a' := ?_) ?_ ?_; rotate_left; (show Act.put _ (some 152) _ = _; simp only [Act.put, put_x, i64_w, i32_w]; rfl)
                refine pure_t 9 (some 153) (bz 10 1023) HT_ ?_
                refine done_ (done_of HT_.out (by kernel_rfl)) ?_
                try go_wp2
                go_roundg k4
                case measure => have := HJ8.out; have := HK2.out; have := HJ57.out; have := HK4.out; omega
                case rel => exact ⟨(wrap64 (x20_4 + 1)), (by first | rfl | (simp; done) | (simp [*]; done)), H', ⟨by have := HJ8.out; have := HK2.out; have := HJ57.out; have := HK4.out; omega⟩, ⟨by (with_reducible repeat (first | apply Kd.R_alloc | apply Kd.R_drewN | apply Kd.R_drew)); exact HO_5.out⟩, ⟨by (with_reducible repeat (first | apply Kd.R_alloc | apply Kd.R_drewN | apply Kd.R_drew)); exact HO_13.out⟩, ⟨by (with_reducible repeat (first | apply Kd.R_alloc | apply Kd.R_drewN | apply Kd.R_drew)); exact HO_18.out⟩, ⟨by (with_reducible repeat (first | apply Kd.R_alloc | apply Kd.R_drewN | apply Kd.R_drew)); exact HO_830003.out⟩, ⟨by (with_reducible repeat (first | apply Kd.S_alloc | apply Kd.S_drewN | apply Kd.S_drew)); exact HO_830005.out⟩, ⟨by (with_reducible repeat (first | apply Kd.R_alloc | apply Kd.R_drewN | apply Kd.R_drew)); exact HO_830006.out⟩, ⟨blk_x BK829.out⟩, ⟨blk_x BK839.out⟩, ⟨blk_x BK840.out⟩, ⟨blk_x BK845.out⟩, ⟨by exact IsS90.up HI809.out⟩, ⟨by exact below_y HB.out⟩⟩
               ·
                replace c223 := Bool.eq_false_iff.mpr c223
                subst c223
                have H1 : (some false) = some r := by rw [if_neg (show ¬ (false = true) by decide)] at H; exact H
                clear H
                have H := H1
                clear H1
                exact absurd ((Option.some.inj H).trans hrt.out) (by decide)
              ·
               rw [if_neg c221] at H
               exact absurd H (by simp)
             ·
              rw [if_neg c220] at H
              exact absurd H (by simp)
            ·
             rw [if_neg c219] at H
             have c219b0 : decide (x20_4 < (t847.length : Int)) = false := decide_eq_false c219
             clear c219
             have H' := Aside0.mk H
             clear H
             obtain ⟨Ao232, co232, eo232⟩ := Kd.R_slice HO_13.out
             subst eo232
             go_wp2
             go_roundg k4
             case measure => have := HJ8.out; have := HK2.out; have := HJ57.out; have := HK4.out; omega
             case rel => exact ⟨(wrap64 (x15_2 + 1)), (t861), (by first | rfl | (simp; done) | (simp [*]; done)), H', ⟨by have := HJ8.out; have := HK2.out; have := HJ57.out; have := HK4.out; omega⟩, ⟨by (with_reducible repeat (first | apply Kd.R_alloc | apply Kd.R_drewN | apply Kd.R_drew)); exact Kd.R_mono HO_5.out (fun _ hk => trivial)⟩, ⟨by (with_reducible repeat (first | apply Kd.R_alloc | apply Kd.R_drewN | apply Kd.R_drew)); exact HO_13.out⟩, ⟨by (with_reducible repeat (first | apply Kd.R_alloc | apply Kd.R_drewN | apply Kd.R_drew)); exact HO_830003.out⟩, ⟨by (with_reducible repeat (first | apply Kd.S_alloc | apply Kd.S_drewN | apply Kd.S_drew)); exact HO_830005.out⟩, ⟨by (with_reducible repeat (first | apply Kd.R_alloc | apply Kd.R_drewN | apply Kd.R_drew)); exact HO_830006.out⟩, ⟨blk_x BK829.out⟩, ⟨blk_x BK839.out⟩, ⟨blk_x BK840.out⟩, ⟨blk_x BK845.out⟩, ⟨by exact IsS90.up HI809.out⟩, ⟨by exact below_y HB.out⟩⟩
      ·
       rw [if_neg c55] at H
       have c55b0 : decide (x15_2 < 5) = false := decide_eq_false c55
       clear c55
       replace H := Option.bind_eq_some_iff.mp H
       obtain ⟨t851, A2330, H⟩ := H
       replace H : (some t851) = some r := H
       have A233 := Aside0.mk A2330
       clear A2330
       obtain rfl := Option.some.inj H
       go_wp2_with (first | ((with_reducible refine gate_callee (f := 15) rfl ?_); refine goesL_ (some 154) rfl rfl Try.func15 (by kernel_rfl) rfl #[] rfl (by (try simp only [List.map_toArray, List.map_cons, List.map_nil]); first | done | rfl | (simp only [List.length_drop, List.length_take]; rfl)) ?_; (with_reducible refine (swarflaw07_awake.calls k2  t851 _ A233.out).mono ?_); rintro e w234 ⟨rfl, hb⟩; refine ⟨_, rfl, ?_⟩; replace HO_5 := Aside0.mk (Kd.R_below (Kd.R_x HO_5.out) hb); replace HO_13 := Aside0.mk (Kd.R_below (Kd.R_x HO_13.out) hb); replace HO_830003 := Aside0.mk (Kd.R_below (Kd.R_x HO_830003.out) hb); replace HO_830005 := Aside0.mk (Kd.S_below (Kd.S_x HO_830005.out) hb); replace HO_830006 := Aside0.mk (Kd.R_below (Kd.R_x HO_830006.out) hb); replace BK829 := Aside0.mk (blk_below (blk_x BK829.out) hb); replace BK839 := Aside0.mk (blk_below (blk_x BK839.out) hb); replace BK840 := Aside0.mk (blk_below (blk_x BK840.out) hb); replace BK845 := Aside0.mk (blk_below (blk_x BK845.out) hb); replace HI809 := Aside0.mk (IsS90.below (by exact IsS90.up HI809.out) hb); replace HB := bl_x HB hb; (try clear hb); (try clear hk); (try clear hi)))
       go_ret
       exact ⟨by first | rfl | (simp [errW_none, errW_some] <;> rfl) | (simp [*, errW_none, errW_some] <;> rfl), by exact below_y HB.out⟩
def swarflaw07_ShipTrue.Pure : Prop := ∀ (l0 : List Int), l0.length ≤ maxLen → l0.length * 8 ≤ 140737488351232 → (∀ x ∈ l0, (Lit.int .i64 x).wf = true) → ∃ k, swarflaw07_ShipTrue.f k l0 = some true
theorem swarflaw07_ShipTrue.walk (P : swarflaw07_ShipTrue.Pure) (a0 : Option Addr) (len0 cap0 : Nat) (z0 : List Int) (w : World) (w0 : (a0 = none ∧ len0 = 0 ∧ cap0 = 0 ∧ z0 = []) ∨ ∃ x, a0 = some x ∧ len0 ≤ cap0 ∧ cap0 ≤ maxLen ∧ z0.length = cap0 ∧ (∀ i, i < z0.length → w.cell? (x.add i) = some (.int .i64 (z0.getD i 0))) ∧ ∀ n ∈ z0, (Lit.int .i64 n).wf = true) (y0 : len0 * 8 ≤ 140737488351232) :
  Calls Try.prog 8 #[.slice a0 len0 cap0] w fun e w' => e = .returned (.bool true) ∧ Below w.heap.size w w' := by
 obtain ⟨l0, rfl, hr0, hm0, hw0, hc0⟩ := ReadsInt.ofRowC w0
 obtain ⟨k, h⟩ := P l0 hm0 y0 hw0
 refine (swarflaw07_ShipTrue.calls k _ _ l0 true ⟨rfl⟩ w (Kd.C_of_reads (d := (0 : Int)) (h1 := fun _ => rfl) hr0) hc0 h).mono ?_
 rintro e w' ⟨rfl, hd⟩
 exact ⟨rfl, hd⟩
end Go.Proofs.Ytodmemndaaiolaa.PC7
namespace Go.Proofs.Ytodmemndaaiolaa.PC7
set_option linter.unusedVariables false
set_option linter.unusedSimpArgs false
open Go.RowKit Go.Proofs.YtodmemndaaiolaaW.PrintWords Go.Proofs.YtodmemndaaiolaaW.PrintLast Go.Proofs.YtodmemndaaiolaaW.PrintMore
theorem sailO_eq {H S L' : Nat} {T L U R V : Int} {holds : List S85} {sills : List S59} {lots : List S79} (h : VoyOK H S L' T L U R holds V sills lots) (hT : T ≤ 1000) (q : Q4) (soon : Bool) : sailO U V sills q soon = sailL (sills.map (plainS soon)) V (needsW U q soon) :=
  sailW_eq hT soon _ sills h.si V h.leaves.1 (by have := h.leaves; omega)
theorem rd56 (l : List S56) (k : Nat) : rd_T56 l (k : Int) = l.getD k z56 := by simp [rd_T56]
theorem over_getD (so la : List Int) (i : Nat) (h : i < la.length) : (overE so la).getD i z56 = ⟨so.getD i 0, la.getD i 0⟩ := by
  have hl : i < (overE so la).length := by simp [overE]; exact h
  rw [getD_get _ _ _ hl]
  simp [overE]
theorem over_len (so la : List Int) : (overE so la).length = la.length := by simp [overE]
end Go.Proofs.Ytodmemndaaiolaa.PC7
namespace Go.Proofs.Ytodmemndaaiolaa.PC7
open Go.RowKit Go.Proofs.YtodmemndaaiolaaW.PrintWords Go.Proofs.YtodmemndaaiolaaW.PrintLast Go.Proofs.YtodmemndaaiolaaW.PrintMore
attribute [local go_sem] max2_int min2_int max_two min_two max_three min_three max_four min_four
set_option linter.unusedVariables false
set_option linter.unusedSimpArgs false
end Go.Proofs.Ytodmemndaaiolaa.PC7
namespace Go.Proofs.Ytodmemndaaiolaa.PC7
set_option linter.unusedVariables false
set_option linter.unusedSimpArgs false
open Go.RowKit Go.Proofs.YtodmemndaaiolaaW.PrintWords Go.Proofs.YtodmemndaaiolaaW.PrintLast Go.Proofs.YtodmemndaaiolaaW.PrintMore
def ldS (h : S85) (t : S56) (q : Q4) : Q4 := ⟨q.b0 + t.f0 * h.f1, q.b1 + t.f0 * h.f2, q.h0 + t.f1 * h.f1, q.h1 + t.f1 * h.f2⟩
def ldL (holds : List S85) (lots : List S79) : Nat → List Int → Q4 → Q4
  | _, [], q => q
  | i, a :: r, q => ldL holds lots (i + 1) r (if a < 0 then q else ldS (holds.getD a.toNat z85) (lots.getD i z79).f0 q)
def apS (h : S85) (t : S56) (x : Int × Int) : Int × Int := (x.1 + min (t.f0 * (h.f1 - h.f2)) (t.f1 * (h.f1 - h.f2)), x.2 + max (t.f0 * (h.f1 - h.f2)) (t.f1 * (h.f1 - h.f2)))
def apL (holds : List S85) (lots : List S79) : Nat → List Int → Int × Int → Int × Int
  | _, [], x => x
  | i, a :: r, x => apL holds lots (i + 1) r (if a < 0 then x else apS (holds.getD a.toNat z85) (lots.getD i z79).f0 x)
def q0 (L : Int) : Q4 := ⟨1000 * L, 1000 * L, 1000 * L, 1000 * L⟩
theorem ladS_eq {T B : Int} {h : S85} {c : S79} {q : Q4} (hT : T ≤ 1000) (hh : HoldV T h) (hc : LotV T c) (hB : 0 ≤ B ∧ B ≤ 1000000000000) (hq : QOK B q) : ladS h c.f0 q = ldS h c.f0 q := by
  obtain ⟨a1, a2, a3, a4, a5, a6⟩ := hh
  obtain ⟨c1, c2, c3, c4, c5⟩ := hc
  obtain ⟨⟨q1, q2⟩, ⟨q3, q4⟩, q5, q6⟩ := hq
  have m1 := mul_bd (A := 1000) (B := 1500) c1 (by omega) a3 (by omega)
  have m2 := mul_bd (A := 1000) (B := 1500) c1 (by omega) a5 (by omega)
  have m3 := mul_bd (A := 1000) (B := 1500) (show 0 ≤ c.f0.f1 by omega) (by omega) a3 (by omega)
  have m4 := mul_bd (A := 1000) (B := 1500) (show 0 ≤ c.f0.f1 by omega) (by omega) a5 (by omega)
  unfold ladS ldS
  rw [wrap64_id (n := c.f0.f0 * h.f1) (by omega) (by omega), wrap64_id (n := c.f0.f0 * h.f2) (by omega) (by omega), wrap64_id (n := c.f0.f1 * h.f1) (by omega) (by omega), wrap64_id (n := c.f0.f1 * h.f2) (by omega) (by omega),
    wrap64_id (by omega) (by omega), wrap64_id (by omega) (by omega), wrap64_id (by omega) (by omega), wrap64_id (by omega) (by omega)]
theorem ladO_eq {T : Int} (hT : T ≤ 1000) (holds : List S85) (lots : List S79) (hho : ∀ h, h ∈ holds → HoldV T h) (hlo : ∀ c, c ∈ lots → LotV T c) (hln : lots.length ≤ 1000) :
    ∀ (s : List Int) (i : Nat) (q : Q4), i + s.length = lots.length → (∀ y, y ∈ s → -1 ≤ y ∧ y < (holds.length : Int)) → QOK (10000000 + 1500000 * (i : Int)) q → ladO holds lots i s q = some (ldL holds lots i s q) ∧ QOK 10000000000 (ldL holds lots i s q)
  | [], i, q, hi, _, hq => ⟨rfl, hq.b0, hq.b1, by have := hq.h0; simp at hi; show q.h0 ≤ _; omega, by have := hq.h1; simp at hi; show q.h1 ≤ _; omega⟩
  | a :: s, i, q, hi, hr, hq => by
    have hil : i < lots.length := by simp at hi; omega
    obtain ⟨r1, r2⟩ := hr a (by simp)
    have hr' : ∀ y, y ∈ s → -1 ≤ y ∧ y < (holds.length : Int) := fun y hy => hr y (List.mem_cons_of_mem _ hy)
    have hcl := hlo _ (getD_mem lots i z79 hil)
    have hi' : i + 1 + s.length = lots.length := by simp at hi; omega
    by_cases ha : a < 0
    · simp only [ladO, ldL, if_pos ha]
      exact ladO_eq hT holds lots hho hlo hln s (i + 1) q hi' hr' ⟨hq.b0, hq.b1, by have := hq.h0; omega, by have := hq.h1; omega⟩
    · obtain ⟨g, rfl⟩ := Int.eq_ofNat_of_zero_le (show 0 ≤ a by omega)
      have hho' := hho _ (getD_mem holds g z85 (by omega))
      have e := ladS_eq hT hho' hcl (B := 10000000 + 1500000 * (i : Int)) ⟨by omega, by omega⟩ hq
      obtain ⟨k1, _, _⟩ := ladS_ok hT hho' hcl (B := 10000000 + 1500000 * (i : Int)) ⟨by omega, by omega⟩ hq
      rw [e] at k1
      simp only [ladO, ldL, if_neg ha, if_pos r2, if_pos hil, rd85, rd79, e, Int.toNat_natCast]
      exact ladO_eq hT holds lots hho hlo hln s (i + 1) _ hi' hr' (by rw [show 10000000 + 1500000 * ((i + 1 : Nat) : Int) = 10000000 + 1500000 * (i : Int) + 1500000 by omega]; exact k1)
theorem mn_min (a b : Int) : mn a b = min a b := by
  unfold mn
  by_cases h : b < a
  · rw [if_pos h]; omega
  · rw [if_neg h]; omega
theorem mul_bd2 {a b A B : Int} (h0 : 0 ≤ a) (h1 : a ≤ A) (h2 : -B ≤ b) (h3 : b ≤ B) (hB : 0 ≤ B) : -(A * B) ≤ a * b ∧ a * b ≤ A * B := by
  have k1 := Int.mul_le_mul_of_nonneg_left h3 h0
  have k2 := Int.mul_le_mul_of_nonneg_left h2 h0
  have k3 := Int.mul_le_mul_of_nonneg_right h1 hB
  rw [Int.mul_neg] at k2
  exact ⟨by omega, by omega⟩
theorem apart_eq {T : Int} (hT : T ≤ 1000) (L U R V : Int) (holds : List S85) (sills : List S59) (lots : List S79) (hho : ∀ h, h ∈ holds → HoldV T h) (hlo : ∀ c, c ∈ lots → LotV T c) (s : List Int) (hs : s.length = lots.length) (hsl : s.length ≤ 1000) (hr : ∀ y, y ∈ s → -1 ≤ y ∧ y < (holds.length : Int)) (d : Nat) :
    ∀ (i : Nat) (a b : Int), i + d = s.length → -(1500000 * (i : Int)) ≤ a → a ≤ 1500000 * (i : Int) → -(1500000 * (i : Int)) ≤ b → b ≤ 1500000 * (i : Int) → Ev (fun k => ship_apart.l0 k s (s.length : Int) (i : Int) L U R holds V sills lots a b) (apL holds lots i (s.drop i) (a, b)) := by
  induction d with
  | zero =>
    intro i a b hi _ _ _ _
    refine Ev.succ ?_
    rw [List.drop_of_length_le (by omega)]
    simp (disch := omega) only [ship_apart.l0, if_neg]
    exact Ev.now _
  | succ d ih =>
    intro i a b hi ha1 ha2 hb1 hb2
    have hlt : i < s.length := by omega
    obtain ⟨b1, b2⟩ := hr _ (getD_mem s i 0 hlt)
    have hcl := hlo _ (getD_mem lots i z79 (by omega))
    rw [List.drop_eq_getElem_cons hlt, ← getD_get s i 0 hlt]
    simp only [apL]
    refine Ev.succ ?_
    simp (disch := omega) only [ship_apart.l0, if_pos, rdI, rd79]
    rw [wrapS (by omega)]
    by_cases e : s.getD i 0 < 0
    · simp only [if_pos e]; exact ih (i + 1) _ _ (by omega) (by omega) (by omega) (by omega) (by omega)
    · obtain ⟨g, hg⟩ := Int.eq_ofNat_of_zero_le (show 0 ≤ s.getD i 0 by omega)
      rw [hg] at e b2 ⊢
      have hho' := hho _ (getD_mem holds g z85 (by omega))
      obtain ⟨h1, h2, h3, h4, h5, h6⟩ := hho'
      obtain ⟨c1, c2, c3, c4, c5⟩ := hcl
      have m1 := mul_bd2 (A := 1000) (B := 1500) c1 (by omega) (show -1500 ≤ (holds.getD g z85).f1 - (holds.getD g z85).f2 by omega) (by omega) (by decide)
      have m2 := mul_bd2 (A := 1000) (B := 1500) (show 0 ≤ (lots.getD i z79).f0.f1 by omega) (by omega) (show -1500 ≤ (holds.getD g z85).f1 - (holds.getD g z85).f2 by omega) (by omega) (by decide)
      simp (disch := omega) only [if_neg e, if_pos, rd85, Int.toNat_natCast, apS]
      rw [wrap64_id (n := (holds.getD g z85).f1 - (holds.getD g z85).f2) (by omega) (by omega)]
      generalize (holds.getD g z85).f1 - (holds.getD g z85).f2 = u at *
      generalize (lots.getD i z79).f0.f0 * u = p at *
      generalize (lots.getD i z79).f0.f1 * u = q at *
      rw [wrap64_id (n := p) (by omega) (by omega), wrap64_id (n := q) (by omega) (by omega), mn_min, mx_max, wrap64_id (n := a + min p q) (by omega) (by omega), wrap64_id (n := b + max p q) (by omega) (by omega)]
      exact ih (i + 1) _ _ (by omega) (by omega) (by omega) (by omega) (by omega)
theorem apL_bd {T : Int} (hT : T ≤ 1000) (holds : List S85) (lots : List S79) (hho : ∀ h, h ∈ holds → HoldV T h) (hlo : ∀ c, c ∈ lots → LotV T c) (hln : lots.length ≤ 1000) :
    ∀ (s : List Int) (i : Nat) (x : Int × Int), i + s.length = lots.length → (∀ y, y ∈ s → -1 ≤ y ∧ y < (holds.length : Int)) → -(1500000 * (i : Int)) ≤ x.1 → x.1 ≤ x.2 → x.2 ≤ 1500000 * (i : Int) →
      -1500000000 ≤ (apL holds lots i s x).1 ∧ (apL holds lots i s x).1 ≤ (apL holds lots i s x).2 ∧ (apL holds lots i s x).2 ≤ 1500000000
  | [], i, x, hi, _, h1, h2, h3 => by simp at hi; exact ⟨by show _ ≤ x.1; omega, h2, by show x.2 ≤ _; omega⟩
  | a :: s, i, x, hi, hr, h1, h2, h3 => by
    have hil : i < lots.length := by simp at hi; omega
    obtain ⟨r1, r2⟩ := hr a (by simp)
    have hr' : ∀ y, y ∈ s → -1 ≤ y ∧ y < (holds.length : Int) := fun y hy => hr y (List.mem_cons_of_mem _ hy)
    have hcl := hlo _ (getD_mem lots i z79 hil)
    have hi' : i + 1 + s.length = lots.length := by simp at hi; omega
    simp only [apL]
    by_cases ha : a < 0
    · simp only [if_pos ha]
      exact apL_bd hT holds lots hho hlo hln s (i + 1) x hi' hr' (by omega) h2 (by omega)
    · obtain ⟨g, rfl⟩ := Int.eq_ofNat_of_zero_le (show 0 ≤ a by omega)
      have hho' := hho _ (getD_mem holds g z85 (by omega))
      obtain ⟨k1, k2, k3, k4, k5, k6⟩ := hho'
      obtain ⟨c1, c2, c3, c4, c5⟩ := hcl
      have m1 := mul_bd2 (A := 1000) (B := 1500) c1 (by omega) (show -1500 ≤ (holds.getD g z85).f1 - (holds.getD g z85).f2 by omega) (by omega) (by decide)
      have m2 := mul_bd2 (A := 1000) (B := 1500) (show 0 ≤ (lots.getD i z79).f0.f1 by omega) (by omega) (show -1500 ≤ (holds.getD g z85).f1 - (holds.getD g z85).f2 by omega) (by omega) (by decide)
      simp only [if_neg ha, Int.toNat_natCast]
      refine apL_bd hT holds lots hho hlo hln s (i + 1) _ hi' hr' ?_ ?_ ?_ <;> simp only [apS] <;> omega
def roomOK (holds : List S85) (lots : List S79) (s : List Int) : Prop := ∀ h : Nat, h < holds.length → used lots h 0 s ≤ (holds.getD h z85).f0
theorem room_l2 (L U R V : Int) (holds : List S85) (sills : List S59) (lots : List S79) {T : Int} (ho : ∀ c, c ∈ lots → LotV T c) (hT : T ≤ 1000) (P : Int → Prop) (s : List Int) (hs : s.length = lots.length) (hsl : s.length ≤ 1000) (h : Nat) (c0 : Int) (hn : Int) (hP : ¬ used lots h 0 s ≤ c0 → P 13)
    (hk : used lots h 0 s ≤ c0 → Res (fun k => ship_checkStowage.l1 k s holds hn (wrap64 ((h : Int) + 1)) L U R holds V sills lots) P) (d : Nat) :
    ∀ (i : Nat) (c : Int), i + d = s.length → c - used lots h i (s.drop i) = c0 - used lots h 0 s → -5000000 - 1000 * (i : Int) ≤ c ∧ c ≤ 5000000 → Res (fun k => ship_checkStowage.l2 k s (h : Int) c holds hn (h : Int) s (s.length : Int) (i : Int) L U R holds V sills lots) P := by
  induction d with
  | zero =>
    intro i c hi he hb
    refine Res.succ ?_
    rw [List.drop_of_length_le (by omega)] at he
    simp only [used] at he
    simp (disch := omega) only [ship_checkStowage.l2, if_neg]
    by_cases hc : c < 0
    · simp only [if_pos hc]; exact Res.now (hP (by omega))
    · simp only [if_neg hc]; exact hk (by omega)
  | succ d ih =>
    intro i c hi he hb
    have hlt : i < s.length := by omega
    obtain ⟨b1, b2, b3, b4, b5⟩ := ho _ (getD_mem lots i z79 (by omega))
    rw [List.drop_eq_getElem_cons hlt, ← getD_get s i 0 hlt] at he
    simp only [used] at he
    refine Res.succ ?_
    simp (disch := omega) only [ship_checkStowage.l2, if_pos, rdI, rd79]
    rw [wrapS (by omega)]
    by_cases e : s.getD i 0 = (h : Int)
    · simp only [if_pos e] at he ⊢
      rw [wrap64_id (by omega) (by omega)]
      exact ih (i + 1) _ (by omega) (by omega) (by omega)
    · simp only [if_neg e] at he ⊢
      exact ih (i + 1) _ (by omega) (by omega) (by omega)
theorem room_l1 (L U R V : Int) (holds : List S85) (sills : List S59) (lots : List S79) {T : Int} (ho : ∀ c, c ∈ lots → LotV T c) (hT : T ≤ 1000) (hd : ∀ h, h ∈ holds → HoldV T h) (hh : holds.length ≤ 1000) (s : List Int) (hs : s.length = lots.length) (hsl : s.length ≤ 1000) (d : Nat) :
    ∀ i : Nat, i + d = holds.length → (∀ h : Nat, h < i → used lots h 0 s ≤ (holds.getD h z85).f0) → Res (fun k => ship_checkStowage.l1 k s holds (holds.length : Int) (i : Int) L U R holds V sills lots) (fun e => e = 0 ↔ roomOK holds lots s) := by
  induction d with
  | zero =>
    intro i hi hr
    refine Res.succ ?_
    simp (disch := omega) only [ship_checkStowage.l1, if_neg]
    exact Res.now (show (0 : Int) = 0 ↔ _ from ⟨fun _ h hh => hr h (by omega), fun _ => rfl⟩)
  | succ d ih =>
    intro i hi hr
    obtain ⟨b1, b2, _⟩ := hd _ (getD_mem holds i z85 (by omega))
    refine Res.succ ?_
    simp (disch := omega) only [ship_checkStowage.l1, if_pos, rd85]
    refine room_l2 L U R V holds sills lots ho hT _ s hs hsl i _ _ (fun hne => ?_) (fun hle => ?_) s.length 0 _ (by omega) (by rw [List.drop_zero]) (by omega)
    · exact ⟨fun h => absurd h (by decide), fun h => absurd (h i (by omega)) hne⟩
    · rw [wrapS (by omega)]
      refine ih (i + 1) (by omega) (fun h hh => ?_)
      by_cases e : h = i
      · subst e; exact hle
      · exact hr h (by omega)
theorem room_l0 (L U R V : Int) (holds : List S85) (sills : List S59) (lots : List S79) {T : Int} (ho : ∀ c, c ∈ lots → LotV T c) (hT : T ≤ 1000) (hd : ∀ h, h ∈ holds → HoldV T h) (hh : holds.length ≤ 1000) (s : List Int) (hs : s.length = lots.length) (hsl : s.length ≤ 1000) (hr : ∀ y, y ∈ s → -1 ≤ y ∧ y < (holds.length : Int)) (d : Nat) :
    ∀ i : Nat, i + d = s.length → Res (fun k => ship_checkStowage.l0 k s s (s.length : Int) (i : Int) L U R holds V sills lots) (fun e => e = 0 ↔ roomOK holds lots s) := by
  induction d with
  | zero =>
    intro i hi
    refine Res.succ ?_
    simp (disch := omega) only [ship_checkStowage.l0, if_neg]
    exact room_l1 L U R V holds sills lots ho hT hd hh s hs hsl holds.length 0 (by omega) (fun h hh => by omega)
  | succ d ih =>
    intro i hi
    obtain ⟨b1, b2⟩ := hr _ (getD_mem s i 0 (by omega))
    refine Res.succ ?_
    simp (disch := omega) only [ship_checkStowage.l0, if_pos, rdI]
    refine Res.take (in_t b1 (by rw [wrap64_id (by omega) (by omega)]; omega)) ?_
    simp only [if_true]
    rw [wrapS (by omega)]
    exact ih (i + 1) (by omega)
theorem level_ev (L U R V : Int) (holds : List S85) (sills : List S59) (lots : List S79) (y z : Int) (hy : -1500000000 ≤ y ∧ y ≤ 1500000000) (hR : 0 ≤ R ∧ R ≤ 40) : Ev (fun k => ship_level.f k L U R holds V sills lots y z) (decide (max z (-y) ≤ 1000 * R)) := by
  have hg : Ev (fun k => ship_greatest.f k z [wrap64 (-y)]) (max z (-y)) := by
    unfold ship_greatest.f
    refine Ev.succ ?_
    simp (disch := decide) only [ship_greatest.l0, List.length_singleton, if_pos]
    rw [show wrap64 (0 + 1) = 1 from wrap64_id (n := 0 + 1) (by decide) (by decide)]
    refine Ev.succ ?_
    simp (disch := decide) only [ship_greatest.l0, if_neg]
    rw [wrap64_id (n := -y) (by omega) (by omega)]
    have : rd [-y] 0 = -y := rfl
    rw [this, mx_max]
    exact Ev.now _
  unfold ship_level.f
  refine Ev.bind hg ?_
  rw [wrap64_id (n := 1000 * R) (by omega) (by omega)]
  exact Ev.now _
def wayL (U V : Int) (sills : List S59) (q : Q4) (soon : Bool) : List Int := sailL (sills.map (plainS soon)) V (max (if soon then q.b0 else q.h0) (if soon then q.b1 else q.h1) + 1000 * U)
structure Told (L U R : Int) (holds : List S85) (V : Int) (sills : List S59) (lots : List S79) (s : List Int) (q : Q4) (x : Int × Int) : Prop where
  qe : q = ldL holds lots 0 s (q0 L)
  xe : x = apL holds lots 0 s (0, 0)
  qok : QOK 10000000000 q
  xok : -1500000000 ≤ x.1 ∧ x.1 ≤ x.2 ∧ x.2 ≤ 1500000000
  le : (wayL U V sills q false).length ≤ (wayL U V sills q true).length
  top : (wayL U V sills q true).length ≤ sills.length
  good : goodB L U R holds V sills lots s = true ↔ (roomOK holds lots s ∧ max x.2 (-x.1) ≤ 1000 * R ∧ (wayL U V sills q false).length = sills.length)
  drafts : roomOK holds lots s → ship_Drafts.f L U R holds V sills lots s = some (q.b0, q.h0, q.b1, q.h1, 0)
  level : roomOK holds lots s → Ev (fun k => ship_Level.f k L U R holds V sills lots s) (decide (max x.2 (-x.1) ≤ 1000 * R), x.1, x.2, 0)
  sail : roomOK holds lots s → ship_Sail.f L U R holds V sills lots s = some (verdictE sills.length (wayL U V sills q true) (wayL U V sills q false), overE (wayL U V sills q true) (wayL U V sills q false), 0)
theorem told {H S L' : Nat} {T L U R V : Int} {holds : List S85} {sills : List S59} {lots : List S79} (h : VoyOK H S L' T L U R holds V sills lots) (hH : H ≤ 3) (hS : S ≤ 4) (hL : L' ≤ 6) (hT : T ≤ 1000) {s : List Int} (hs : s.length = lots.length) (hr : ∀ y, y ∈ s → -1 ≤ y ∧ y < (holds.length : Int)) :
    ∃ q x, Told L U R holds V sills lots s q x := by
  have hln := h.ln; have hhn := h.hn; have h1 := h.light; have h3 := h.trim
  have hw : wrap64 (1000 * L) = 1000 * L := wrap64_id (by omega) (by omega)
  have hq0 : QOK (10000000 + 1500000 * ((0 : Nat) : Int)) (q0 L) := ⟨⟨by show 0 ≤ 1000 * L; omega, Int.le_refl _⟩, ⟨by show 0 ≤ 1000 * L; omega, Int.le_refl _⟩, by show 1000 * L ≤ _; omega, by show 1000 * L ≤ _; omega⟩
  obtain ⟨hQ, oQ⟩ := ladO_eq hT holds lots h.ho h.lo (by omega) s 0 (q0 L) (by omega) hr hq0
  have hX := apart_eq hT L U R V holds sills lots h.ho h.lo s hs (by omega) hr s.length 0 0 0 (by omega) (by omega) (by omega) (by omega) (by omega)
  rw [List.drop_zero] at hX
  have oX := apL_bd hT holds lots h.ho h.lo (by omega) s 0 (0, 0) (by omega) hr (by omega) (by omega) (by omega)
  obtain ⟨q, hq⟩ : ∃ q, q = ldL holds lots 0 s (q0 L) := ⟨_, rfl⟩
  obtain ⟨x, hx⟩ : ∃ x, x = apL holds lots 0 s (0, 0) := ⟨_, rfl⟩
  rw [← hq] at hQ oQ
  rw [← hx] at hX oX
  have hQ' : ladenO L holds lots s = some q := by
    unfold ladenO; rw [hw]; exact hQ
  have hlv := level_ev L U R V holds sills lots x.1 x.2 ⟨oX.1, by omega⟩ ⟨h3.1, h3.2⟩
  have hu : 0 ≤ U ∧ U ≤ 5000 := by have := h.under; omega
  have hv := h.leaves
  have hno : lensOK sills := ⟨by have := h.sn; omega, fun x hx => by obtain ⟨_, _, _, _, a5, _⟩ := h.si x hx; omega⟩
  have hwy : ∀ soon, sailO U V sills q soon = wayL U V sills q soon := fun soon => by rw [sailO_eq h hT, needsW_eq oQ hu]; rfl
  have b0 := oQ.b0; have b1 := oQ.b1
  have hle : (wayL U V sills q false).length ≤ (wayL U V sills q true).length := by
    refine (sailL_le _ _ V V _ _ (better_soon sills h.si) (sillsOK_of h.si false) (sillsOK_of h.si true) hv.1 (Int.le_refl _) ?_).1
    simp only [if_true, Bool.false_eq_true, if_false]
    omega
  have htop : (wayL U V sills q true).length ≤ sills.length := by rw [← hwy]; exact sailW_len _ _ _ _
  obtain ⟨e, he, hroom⟩ : Res (fun k => ship_checkStowage.f k L U R holds V sills lots s) (fun e => e = 0 ↔ roomOK holds lots s) := by
    unfold ship_checkStowage.f
    simp (disch := omega) only [if_pos]
    exact room_l0 L U R V holds sills lots h.lo hT h.ho (by omega) s hs (by omega) hr s.length 0 (by omega)
  have hC : Ev (fun k => ship_CheckStowage.f k L U R holds V sills lots s) e := by
    unfold ship_CheckStowage.f
    refine Ev.bind (check_ev h hH hS hL hT) ?_
    simp only [if_true]
    exact Ev.tail he
  have hcs : chkS L U R holds V sills lots s = some e := limO_of he
  refine ⟨q, x, hq, hx, oQ, oX, hle, htop, ?_, fun hrm => ?_, fun hrm => ?_, fun hrm => ?_⟩
  · by_cases e0 : e = 0
    · subst e0
      have hg : goodO L U R holds V sills lots s = some (decide (max x.2 (-x.1) ≤ 1000 * R) && decide ((wayL U V sills q false).length = sills.length)) := by
        unfold goodO
        refine Option.bind_eq_some_iff.2 ⟨0, hcs, ?_⟩
        rw [if_pos rfl]
        refine Option.bind_eq_some_iff.2 ⟨x, limO_of hX, ?_⟩
        refine Option.bind_eq_some_iff.2 ⟨_, limO_of hlv, ?_⟩
        by_cases hlev : max x.2 (-x.1) ≤ 1000 * R
        · rw [decide_eq_true hlev, if_pos rfl]
          refine Option.bind_eq_some_iff.2 ⟨q, hQ', ?_⟩
          rw [hwy]
          by_cases c : (wayL U V sills q false).length = sills.length
          · rw [decide_eq_true c, decide_eq_false (by omega)]; rfl
          · rw [decide_eq_false c, decide_eq_true (by omega)]; rfl
        · rw [decide_eq_false hlev, if_neg (by simp)]; rfl
      unfold goodB
      rw [hg]
      simp only [Option.getD_some, Bool.and_eq_true, decide_eq_true_eq]
      exact ⟨fun ⟨a, b⟩ => ⟨hroom.1 rfl, a, b⟩, fun ⟨_, a, b⟩ => ⟨a, b⟩⟩
    · have hg : goodO L U R holds V sills lots s = some false := by
        unfold goodO
        refine Option.bind_eq_some_iff.2 ⟨e, hcs, ?_⟩
        rw [if_neg e0]
      unfold goodB
      rw [hg]
      exact ⟨fun h => absurd h (by decide), fun ⟨a, _⟩ => absurd (hroom.2 a) e0⟩
  · obtain rfl := hroom.2 hrm
    unfold ship_Drafts.f
    refine Option.bind_eq_some_iff.2 ⟨_, limO_of hC, ?_⟩
    rw [if_pos rfl, if_pos (by omega)]
    exact Option.bind_eq_some_iff.2 ⟨_, hQ', rfl⟩
  · obtain rfl := hroom.2 hrm
    unfold ship_Level.f
    refine Ev.bind hC ?_
    simp only [if_true]
    refine Ev.bind hX (Ev.bind hlv ?_)
    exact Ev.now _
  · obtain rfl := hroom.2 hrm
    unfold ship_Sail.f
    refine Option.bind_eq_some_iff.2 ⟨_, limO_of hC, ?_⟩
    rw [if_pos rfl, if_pos ⟨by omega, hno⟩]
    refine Option.bind_eq_some_iff.2 ⟨_, hQ', ?_⟩
    unfold sailR
    rw [hwy, hwy, if_pos hle]
end Go.Proofs.Ytodmemndaaiolaa.PC7
namespace Go.Proofs.Ytodmemndaaiolaa.PC7
open Go.RowKit Go.Proofs.YtodmemndaaiolaaW.PrintWords Go.Proofs.YtodmemndaaiolaaW.PrintLast Go.Proofs.YtodmemndaaiolaaW.PrintMore
attribute [local go_sem] max2_int min2_int max_two min_two max_three min_three max_four min_four
set_option linter.unusedVariables false
set_option linter.unusedSimpArgs false
end Go.Proofs.Ytodmemndaaiolaa.PC7
namespace Go.Proofs.Ytodmemndaaiolaa.PC7
set_option linter.unusedVariables false
set_option linter.unusedSimpArgs false
open Go.RowKit Go.Proofs.YtodmemndaaiolaaW.PrintWords Go.Proofs.YtodmemndaaiolaaW.PrintLast Go.Proofs.YtodmemndaaiolaaW.PrintMore
theorem VoyOK.mono {H S L' H' S' L2 : Nat} {T T' L U R V : Int} {holds : List S85} {sills : List S59} {lots : List S79} (h : VoyOK H S L' T L U R holds V sills lots) (h1 : H ≤ H') (h2 : S ≤ S') (h3 : L' ≤ L2) (h4 : T ≤ T') : VoyOK H' S' L2 T' L U R holds V sills lots :=
  ⟨h.light, h.under, h.trim, h.leaves, ⟨h.hn.1, Nat.le_trans h.hn.2 h1⟩, fun x hx => by obtain ⟨a, b, c⟩ := h.ho x hx; exact ⟨a, by omega, c⟩, Nat.le_trans h.sn h2,
    fun x hx => by
      obtain ⟨a, b, c, d, e, fr, hl⟩ := h.si x hx
      exact ⟨a, b, c, d, e, fr, fun i hi => by obtain ⟨p, q, r, s, t⟩ := hl.bd i hi; exact ⟨p, q, r, s, by omega⟩, hl.up, hl.zero, hl.first, hl.lim⟩,
    Nat.le_trans h.ln h3, fun x hx => by obtain ⟨a, b, c, d⟩ := h.lo x hx; exact ⟨a, b, by omega, d⟩⟩
structure HoldsLE (a b : List S85) : Prop where
  len : a.length ≤ b.length
  eq : ∀ g : Nat, g < a.length → (b.getD g z85).f1 = (a.getD g z85).f1 ∧ (b.getD g z85).f2 = (a.getD g z85).f2 ∧ (a.getD g z85).f0 ≤ (b.getD g z85).f0
  more : ∀ g : Nat, a.length ≤ g → g < b.length → 0 ≤ (b.getD g z85).f0
theorem rdL7' (l : List (List Int)) (k : Nat) : rd_L7 l (k : Int) = l.getD k [] := by simp [rd_L7]
def TrueD : List S62 → List Int → Prop
  | [], [] => True
  | l :: ls, d :: ds => (l.f1.f0 ≤ d ∧ d ≤ l.f1.f1) ∧ TrueD ls ds
  | _, _ => False
def TrueS : List S59 → List Int → List (List Int) → Prop
  | [], [], [] => True
  | s :: ss, w :: ws, d :: ds => (s.f0.f0 ≤ w ∧ w ≤ s.f0.f1 ∧ TrueD s.f1 d) ∧ TrueS ss ws ds
  | _, _, _ => False
def levT : List S62 → List Int → List (Int × Int)
  | l :: ls, d :: ds => (l.f0, d) :: levT ls ds
  | _, _ => []
def plainT : List S59 → List Int → List (List Int) → List (Int × List (Int × Int))
  | s :: ss, w :: ws, d :: ds => (w, levT s.f1 d) :: plainT ss ws ds
  | _, _, _ => []
theorem trueD_len : ∀ {l : List S62} {d : List Int}, TrueD l d → d.length = l.length
  | [], [], _ => rfl
  | _ :: ls, _ :: ds, h => by simp [trueD_len h.2]
  | [], _ :: _, h => h.elim
  | _ :: _, [], h => h.elim
theorem trueS_len : ∀ {s : List S59} {w : List Int} {d : List (List Int)}, TrueS s w d → w.length = s.length ∧ d.length = s.length
  | [], [], [], _ => ⟨rfl, rfl⟩
  | _ :: ss, _ :: ws, _ :: ds, h => by obtain ⟨a, b⟩ := trueS_len h.2; exact ⟨by simp [a], by simp [b]⟩
  | [], _ :: _, _, h => h.elim
  | [], [], _ :: _, h => h.elim
  | _ :: _, [], _, h => h.elim
  | _ :: _, _ :: _, [], h => h.elim
theorem levT_ne {l : List S62} {d : List Int} (h : TrueD l d) (hl : 1 ≤ l.length) : levT l d ≠ [] := by
  cases l with
  | nil => simp at hl
  | cons a l => cases d with
    | nil => exact h.elim
    | cons b d => simp [levT]
theorem levT_rises : ∀ {l : List S62} {d : List Int}, TrueD l d → (∀ i, i + 1 < l.length → (l.getD i z62).f0 < (l.getD (i + 1) z62).f0) → rises (levT l d)
  | [], [], _, _ => trivial
  | [a], [b], _, _ => trivial
  | a :: a2 :: l, b :: b2 :: d, h, hu => by
    refine ⟨by simpa using hu 0 (by simp), ?_⟩
    have := levT_rises (l := a2 :: l) (d := b2 :: d) h.2 (fun i hi => by simpa using hu (i + 1) (by simpa using hi))
    simpa [levT] using this
  | [a], b :: b2 :: d, h, _ => h.2.elim
  | a :: a2 :: l, [b], h, _ => h.2.elim
  | [], _ :: _, h, _ => h.elim
  | _ :: _, [], h, _ => h.elim
theorem levT_le {f : S62 → Int} (t : Int) : ∀ (l : List S62) (d : List Int), TrueD l d → (∀ x, x ∈ l → f x = x.f1.f1 ∨ f x = x.f1.f0) →
    ((∀ x, x ∈ l → f x = x.f1.f1) → dep (levT l d) t ≤ dep (l.map fun x => (x.f0, f x)) t) ∧ ((∀ x, x ∈ l → f x = x.f1.f0) → dep (l.map fun x => (x.f0, f x)) t ≤ dep (levT l d) t)
  | [], [], _, _ => ⟨fun _ => Int.le_refl _, fun _ => Int.le_refl _⟩
  | [a], [b], h, _ => ⟨fun e => by have hq := h.1; have := e a (by simp); simp [levT, dep]; omega, fun e => by have hq := h.1; have := e a (by simp); simp [levT, dep]; omega⟩
  | a :: a2 :: l, b :: b2 :: d, h, hf => by
    obtain ⟨ih1, ih2⟩ := levT_le (f := f) t (a2 :: l) (b2 :: d) h.2 (fun x hx => hf x (List.mem_cons_of_mem _ hx))
    have hq := h.1
    simp only [levT, List.map_cons, dep] at ih1 ih2 ⊢
    refine ⟨fun e => ?_, fun e => ?_⟩
    · by_cases c : a2.f0 ≤ t
      · simp only [if_pos c]; exact ih1 (fun x hx => e x (List.mem_cons_of_mem _ hx))
      · simp only [if_neg c]; have := e a (by simp); omega
    · by_cases c : a2.f0 ≤ t
      · simp only [if_pos c]; exact ih2 (fun x hx => e x (List.mem_cons_of_mem _ hx))
      · simp only [if_neg c]; have := e a (by simp); omega
  | [a], b :: b2 :: d, h, _ => h.2.elim
  | a :: a2 :: l, [b], h, _ => h.2.elim
  | [], _ :: _, h, _ => h.elim
  | _ :: _, [], h, _ => h.elim
theorem better_truth : ∀ (ss : List S59) (w : List Int) (d : List (List Int)), TrueS ss w d → Better (plainT ss w d) (ss.map (plainS true)) ∧ Better (ss.map (plainS false)) (plainT ss w d)
  | [], [], [], _ => ⟨trivial, trivial⟩
  | s :: ss, w :: ws, d :: ds, h => by
    obtain ⟨⟨h1, h2, h3⟩, h4⟩ := h
    obtain ⟨i1, i2⟩ := better_truth ss ws ds h4
    exact ⟨⟨⟨by simpa [travelOf] using h1, fun t => (levT_le (f := waterOf true) t s.f1 d h3 (fun _ _ => .inl rfl)).1 (fun _ _ => rfl)⟩, i1⟩,
      ⟨⟨by simpa [travelOf] using h2, fun t => (levT_le (f := waterOf false) t s.f1 d h3 (fun _ _ => .inr rfl)).2 (fun _ _ => rfl)⟩, i2⟩⟩
  | [], _ :: _, _, h => h.elim
  | [], [], _ :: _, h => h.elim
  | _ :: _, [], _, h => h.elim
  | _ :: _, _ :: _, [], h => h.elim
theorem levT_from0 {T fr : Int} {l : List S62} {d : List Int} (hl : LevsOK T fr l) (h : TrueD l d) : from0 (levT l d) = 0 := by
  cases l with
  | nil => cases d with
    | nil => rfl
    | cons _ _ => exact h.elim
  | cons a l => cases d with
    | nil => exact h.elim
    | cons b d => simpa [levT, from0] using hl.zero (by simp)
theorem truthOK {T : Int} : ∀ (ss : List S59) (w : List Int) (d : List (List Int)), TrueS ss w d → (∀ s, s ∈ ss → SillV T s) → ∀ p, p ∈ plainT ss w d → SillOK p
  | [], [], [], _, _, p, hp => by simp [plainT] at hp
  | s :: ss, w :: ws, d :: ds, h, hs, p, hp => by
    obtain ⟨⟨h1, h2, h3⟩, h4⟩ := h
    rcases List.mem_cons.1 hp with rfl | hp
    · obtain ⟨a1, a2, a3, a4, a5, fr, hl⟩ := hs s (by simp)
      exact ⟨levT_ne h3 a4, levT_rises h3 hl.up, levT_from0 hl h3, by show 0 ≤ w; omega⟩
    · exact truthOK ss ws ds h4 (fun x hx => hs x (List.mem_cons_of_mem _ hx)) p hp
  | [], _ :: _, _, h, _, _, _ => h.elim
  | [], [], _ :: _, h, _, _, _ => h.elim
  | _ :: _, [], _, h, _, _, _ => h.elim
  | _ :: _, _ :: _, [], h, _, _, _ => h.elim
def trL (holds : List S85) (tn : List Int) : Nat → List Int → Int × Int → Int × Int
  | _, [], p => p
  | i, a :: r, p => trL holds tn (i + 1) r (if a < 0 then p else (p.1 + tn.getD i 0 * (holds.getD a.toNat z85).f1, p.2 + tn.getD i 0 * (holds.getD a.toNat z85).f2))
def TrueT (lots : List S79) (tn : List Int) : Prop := tn.length = lots.length ∧ ∀ i, i < lots.length → (lots.getD i z79).f0.f0 ≤ tn.getD i 0 ∧ tn.getD i 0 ≤ (lots.getD i z79).f0.f1
theorem mul_sandwich {a b c h : Int} (h1 : a ≤ b) (h2 : b ≤ c) (h0 : 0 ≤ h) : a * h ≤ b * h ∧ b * h ≤ c * h := ⟨Int.mul_le_mul_of_nonneg_right h1 h0, Int.mul_le_mul_of_nonneg_right h2 h0⟩
theorem mul_between {a b c u : Int} (h1 : a ≤ b) (h2 : b ≤ c) : min (a * u) (c * u) ≤ b * u ∧ b * u ≤ max (a * u) (c * u) := by
  rcases Int.le_total 0 u with h | h
  · have := mul_sandwich h1 h2 h; omega
  · have k1 := Int.mul_le_mul_of_nonpos_right h1 h
    have k2 := Int.mul_le_mul_of_nonpos_right h2 h
    omega
theorem trL_in {T : Int} (hT : T ≤ 1000) (holds : List S85) (lots : List S79) (tn : List Int) (hho : ∀ h, h ∈ holds → HoldV T h) (ht : TrueT lots tn) :
    ∀ (s : List Int) (i : Nat) (p : Int × Int) (q : Q4) (x : Int × Int), i + s.length = lots.length → (∀ y, y ∈ s → -1 ≤ y ∧ y < (holds.length : Int)) → q.b0 ≤ p.1 → p.1 ≤ q.h0 → q.b1 ≤ p.2 → p.2 ≤ q.h1 → x.1 ≤ p.1 - p.2 → p.1 - p.2 ≤ x.2 →
      (ldL holds lots i s q).b0 ≤ (trL holds tn i s p).1 ∧ (trL holds tn i s p).1 ≤ (ldL holds lots i s q).h0 ∧ (ldL holds lots i s q).b1 ≤ (trL holds tn i s p).2 ∧ (trL holds tn i s p).2 ≤ (ldL holds lots i s q).h1 ∧
        (apL holds lots i s x).1 ≤ (trL holds tn i s p).1 - (trL holds tn i s p).2 ∧ (trL holds tn i s p).1 - (trL holds tn i s p).2 ≤ (apL holds lots i s x).2
  | [], i, p, q, x, _, _, a, b, c, d, e, f => ⟨a, b, c, d, e, f⟩
  | y :: s, i, p, q, x, hi, hr, a, b, c, d, e, f => by
    have hil : i < lots.length := by simp at hi; omega
    obtain ⟨r1, r2⟩ := hr y (by simp)
    have hr' : ∀ z, z ∈ s → -1 ≤ z ∧ z < (holds.length : Int) := fun z hz => hr z (List.mem_cons_of_mem _ hz)
    have hi' : i + 1 + s.length = lots.length := by simp at hi; omega
    simp only [trL, ldL, apL]
    by_cases hy : y < 0
    · simp only [if_pos hy]
      exact trL_in hT holds lots tn hho ht s (i + 1) p q x hi' hr' a b c d e f
    · obtain ⟨g, rfl⟩ := Int.eq_ofNat_of_zero_le (show 0 ≤ y by omega)
      obtain ⟨_, _, h1, _, h2, _⟩ := hho _ (getD_mem holds g z85 (by omega))
      obtain ⟨t1, t2⟩ := ht.2 i hil
      simp only [if_neg hy, Int.toNat_natCast]
      have m1 := mul_sandwich t1 t2 h1
      have m2 := mul_sandwich t1 t2 h2
      have m3 := mul_between (u := (holds.getD g z85).f1 - (holds.getD g z85).f2) t1 t2
      have e3 : tn.getD i 0 * ((holds.getD g z85).f1 - (holds.getD g z85).f2) = tn.getD i 0 * (holds.getD g z85).f1 - tn.getD i 0 * (holds.getD g z85).f2 := Int.mul_sub ..
      rw [e3] at m3
      refine trL_in hT holds lots tn hho ht s (i + 1) _ _ _ hi' hr' ?_ ?_ ?_ ?_ ?_ ?_ <;> simp only [ldS, apS] <;> omega
def dl (acc : Int) : List (Int × Int) → Int → Int
  | [], _ => acc
  | (f, d) :: r, t => dl (if f ≤ t then d else acc) r t
theorem dl_none : ∀ (l : List (Int × Int)) (acc t : Int), rises l → (∀ p, l.head? = some p → t < p.1) → dl acc l t = acc
  | [], _, _, _, _ => rfl
  | [(f, d)], acc, t, _, h => by have := h (f, d) rfl; simp only [dl]; rw [if_neg (by simp at this; omega)]
  | (f, d) :: (f2, d2) :: r, acc, t, hr, h => by
    have h0 := h (f, d) rfl
    simp only at h0
    rw [dl, if_neg (by omega)]
    exact dl_none ((f2, d2) :: r) acc t hr.2 (fun p hp => by simp at hp; subst hp; have := hr.1; simp only; omega)
theorem dl_dep : ∀ (l : List (Int × Int)) (acc t : Int), rises l → (∀ p, l.head? = some p → p.1 ≤ t) → l ≠ [] → dl acc l t = dep l t
  | [], _, _, _, _, h => absurd rfl h
  | [(f, d)], acc, t, _, h, _ => by have := h (f, d) rfl; simp only [dl, dep]; rw [if_pos (by simpa using this)]
  | (f, d) :: (f2, d2) :: r, acc, t, hr, h, _ => by
    have h0 := h (f, d) rfl
    simp only at h0
    rw [dl, if_pos h0]
    simp only [dep]
    by_cases c : f2 ≤ t
    · rw [if_pos c]; exact dl_dep ((f2, d2) :: r) d t hr.2 (fun p hp => by simp at hp; subst hp; exact c) (by simp)
    · rw [if_neg c]; exact dl_none ((f2, d2) :: r) d t hr.2 (fun p hp => by simp at hp; subst hp; simp only; omega)
theorem trueS_at : ∀ (ss : List S59) (w : List Int) (d : List (List Int)), TrueS ss w d → ∀ i, i < ss.length → (ss.getD i z59).f0.f0 ≤ w.getD i 0 ∧ w.getD i 0 ≤ (ss.getD i z59).f0.f1 ∧ TrueD (ss.getD i z59).f1 (d.getD i [])
  | [], [], [], _, i, hi => by simp at hi
  | s :: ss, w :: ws, d :: ds, h, 0, _ => h.1
  | s :: ss, w :: ws, d :: ds, h, i + 1, hi => by simpa using trueS_at ss ws ds h.2 i (by simpa using hi)
  | [], _ :: _, _, h, _, _ => h.elim
  | [], [], _ :: _, h, _, _ => h.elim
  | _ :: _, [], _, h, _, _ => h.elim
  | _ :: _, _ :: _, [], h, _, _ => h.elim
theorem dep_mem : ∀ (l : List (Int × Int)) (t : Int), l ≠ [] → ∃ p, p ∈ l ∧ dep l t = p.2
  | [], _, h => absurd rfl h
  | [(f, d)], _, _ => ⟨(f, d), by simp, rfl⟩
  | (f, d) :: (f2, d2) :: r, t, _ => by
    simp only [dep]
    by_cases c : f2 ≤ t
    · rw [if_pos c]
      obtain ⟨p, hp, e⟩ := dep_mem ((f2, d2) :: r) t (by simp)
      exact ⟨p, List.mem_cons_of_mem _ hp, e⟩
    · rw [if_neg c]; exact ⟨(f, d), by simp, rfl⟩
theorem levT_mem : ∀ (l : List S62) (d : List Int), TrueD l d → ∀ p, p ∈ levT l d → ∃ x, x ∈ l ∧ x.f1.f0 ≤ p.2 ∧ p.2 ≤ x.f1.f1
  | [], [], _, p, hp => by simp [levT] at hp
  | a :: l, b :: d, h, p, hp => by
    rcases List.mem_cons.1 hp with rfl | hp
    · exact ⟨a, by simp, h.1.1, h.1.2⟩
    · obtain ⟨x, hx, h2⟩ := levT_mem l d h.2 p hp
      exact ⟨x, List.mem_cons_of_mem _ hx, h2⟩
  | [], _ :: _, h, _, _ => h.elim
  | _ :: _, [], h, _, _ => h.elim
theorem dep_bd (T : Int) (hT : T ≤ 1000) {fr : Int} {l : List S62} {d : List Int} (hl : LevsOK T fr l) (h : TrueD l d) (t : Int) : 0 ≤ dep (levT l d) t ∧ dep (levT l d) t ≤ 10000 := by
  cases l with
  | nil => cases d with
    | nil => simp [levT, dep]
    | cons _ _ => exact h.elim
  | cons a l =>
    obtain ⟨p, hp, e⟩ := dep_mem (levT (a :: l) d) t (levT_ne h (by simp))
    obtain ⟨x, hx, h1, h2⟩ := levT_mem _ _ h p hp
    obtain ⟨i, hi, rfl⟩ := List.getElem_of_mem hx
    have := hl.bd i hi
    rw [getD_get _ _ _ hi] at this
    rw [e]; omega
section
variable (tn wy : List Int) (dp : List (List Int)) (L U R V : Int) (holds : List S85) (sills : List S59) (lots : List S79)
theorem depth_l0 (i : Nat) (hi : i < sills.length) (hd : i < dp.length) (hl : (dp.getD i []).length = (sills.getD i z59).f1.length) (hn : (sills.getD i z59).f1.length ≤ 1000) (t : Int) (d : Nat) :
    ∀ (j : Nat) (acc : Int), j + d = (sills.getD i z59).f1.length → Ev (fun k => swarflaw07_fact_depth.l0 k (i : Int) t acc (j : Int) tn wy dp L U R holds V sills lots) (dl acc (levT ((sills.getD i z59).f1.drop j) ((dp.getD i []).drop j)) t) := by
  induction d with
  | zero =>
    intro j acc hj
    refine Ev.succ ?_
    rw [List.drop_of_length_le (by omega), List.drop_of_length_le (by omega)]
    simp (disch := omega) only [swarflaw07_fact_depth.l0, if_pos, if_neg, rd59]
    exact Ev.now _
  | succ d ih =>
    intro j acc hj
    have h1 : j < (sills.getD i z59).f1.length := by omega
    have h2 : j < (dp.getD i []).length := by omega
    rw [List.drop_eq_getElem_cons h1, ← getD_get _ j z62 h1, List.drop_eq_getElem_cons h2, ← getD_get _ j 0 h2]
    simp only [levT, dl]
    refine Ev.succ ?_
    simp (disch := omega) only [swarflaw07_fact_depth.l0, if_pos, rd59, rd62, rdL7', rdI]
    rw [wrapS (by omega)]
    by_cases c : ((sills.getD i z59).f1.getD j z62).f0 ≤ t
    · simp only [if_pos c]; exact ih (j + 1) _ (by omega)
    · simp only [if_neg c]; exact ih (j + 1) _ (by omega)
theorem depth_ev {T : Int} (hs : ∀ s, s ∈ sills → SillV T s) (hd : TrueS sills wy dp) (hn : sills.length ≤ 1000) (i : Nat) (hi : i < sills.length) (t : Int) (ht : 0 ≤ t) :
    Ev (fun k => swarflaw07_fact_depth.f k tn wy dp L U R holds V sills lots (i : Int) t) (dep (levT (sills.getD i z59).f1 (dp.getD i [])) t) := by
  obtain ⟨_, hdl⟩ := trueS_len hd
  obtain ⟨h1, h2, h3, h4, h5, fr, hl⟩ := hs _ (getD_mem sills i z59 hi)
  have hD := trueS_at sills wy dp hd i hi
  have hlen := trueD_len hD.2.2
  have e := depth_l0 tn wy dp L U R V holds sills lots i hi (by omega) hlen (by omega) t (sills.getD i z59).f1.length 0 0 (by omega)
  rw [List.drop_zero, List.drop_zero, dl_dep _ 0 t (levT_rises hD.2.2 hl.up) (fun p hp => by
    have h0 := levT_from0 hl hD.2.2
    cases hc : levT (sills.getD i z59).f1 (dp.getD i []) with
    | nil => rw [hc] at hp; cases hp
    | cons a r => rw [hc] at hp h0; simp at hp; subst hp; simp only [from0] at h0; omega) (levT_ne hD.2.2 h4)] at e
  exact e
theorem sailed_l2 {T : Int} (hs : ∀ s, s ∈ sills → SillV T s) (hT : T ≤ 1000) (hd : TrueS sills wy dp) (hn : sills.length ≤ 1000) (b s needs : Int) (acc : List Int) (hacc : acc.length ≤ 1000) (i : Nat) (hi : i < sills.length) (o : Option Int) (P : Int × Int × List Int → Prop)
    (hnone : o = none → P (b, s, acc)) (hsome : ∀ t, o = some t → 0 ≤ t → t ≤ 2880 → Res (fun k => swarflaw07_fact_sailed.l1 k b s needs (acc ++ [t]) t (wrap64 ((i : Int) + 1)) tn wy dp L U R holds V sills lots) P) :
    ∀ (n : Nat) (a : Int), 0 ≤ a → a ≤ 100000 → 2881 - a ≤ n → First (levT (sills.getD i z59).f1 (dp.getD i [])) needs a o → Res (fun k => swarflaw07_fact_sailed.l2 k b s needs acc a (i : Int) tn wy dp L U R holds V sills lots) P := by
  obtain ⟨h1, h2, h3, h4, h5, fr, hl⟩ := hs _ (getD_mem sills i z59 hi)
  have hD := trueS_at sills wy dp hd i hi
  have hup := hl.up
  intro n
  induction n with
  | zero =>
    intro a h0 h1 h2 hF
    have : o = none := by
      cases o with
      | none => rfl
      | some t => have := hF.1; have := hF.2.1; omega
    refine Res.succ ?_
    simp (disch := omega) only [swarflaw07_fact_sailed.l2, if_neg, if_pos]
    exact Res.now (hnone this)
  | succ n ih =>
    intro a h0 h1 h2 hF
    refine Res.succ ?_
    by_cases ha : a ≤ 2880
    · have hdb := dep_bd T hT hl hD.2.2 a
      simp only [swarflaw07_fact_sailed.l2, if_pos ha]
      refine Res.bind (depth_ev tn wy dp L U R V holds sills lots hs hd hn i hi a h0) ?_
      rw [wrap64_id (n := 1000 * _) (by omega) (by omega)]
      by_cases c : 1000 * dep (levT (sills.getD i z59).f1 (dp.getD i [])) a < needs
      · simp only [if_pos c]
        rw [wrap64_id (by omega) (by omega)]
        refine ih (a + 1) (by omega) (by omega) (by omega) ?_
        cases o with
        | none => exact fun u h1 h2 => hF u (by omega) h2
        | some t =>
          obtain ⟨f1, f2, f3, f4⟩ := hF
          have : a ≠ t := fun e => by subst e; omega
          exact ⟨by omega, f2, f3, fun u h1 h2 => f4 u (by omega) h2⟩
      · have ho : o = some a := by
          cases o with
          | none => exact absurd (by omega) (hF a (Int.le_refl _) ha)
          | some t =>
            obtain ⟨f1, f2, f3, f4⟩ := hF
            by_cases e : a = t
            · rw [e]
            · exact absurd (by omega) (f4 a (Int.le_refl _) (by omega))
        simp (disch := omega) only [if_neg c, if_neg, if_pos]
        exact hsome a ho h0 ha
    · have : o = none := by
        cases o with
        | none => rfl
        | some t => have := hF.1; have := hF.2.1; omega
      simp (disch := omega) only [swarflaw07_fact_sailed.l2, if_neg, if_pos]
      exact Res.now (hnone this)
theorem sailed_l1 {T : Int} (hs : ∀ s, s ∈ sills → SillV T s) (hT : T ≤ 1000) (hd : TrueS sills wy dp) (hn : sills.length ≤ 1000) (b s needs : Int) (Z : List Int) (d : Nat) :
    ∀ (i : Nat) (acc : List Int) (now : Int), i + d = sills.length → acc.length = i → 0 ≤ now → now ≤ 2880 → acc ++ sailL (plainT (sills.drop i) (wy.drop i) (dp.drop i)) now needs = Z →
      Res (fun k => swarflaw07_fact_sailed.l1 k b s needs acc now (i : Int) tn wy dp L U R holds V sills lots) (fun r => r = (b, s, Z)) := by
  obtain ⟨hwl, hdl⟩ := trueS_len hd
  induction d with
  | zero =>
    intro i acc now hi ha h0 h1 hZ
    refine Res.succ ?_
    rw [List.drop_of_length_le (by omega), List.drop_of_length_le (by omega), List.drop_of_length_le (by omega)] at hZ
    simp only [plainT, sailL, List.append_nil] at hZ
    simp (disch := omega) only [swarflaw07_fact_sailed.l1, if_neg]
    exact Res.now (by rw [hZ])
  | succ d ih =>
    intro i acc now hi ha h0 h1 hZ
    have hlt : i < sills.length := by omega
    have hD := trueS_at sills wy dp hd i hlt
    obtain ⟨k1, k2, k3, k4, k5, fr, hl⟩ := hs _ (getD_mem sills i z59 hlt)
    rw [List.drop_eq_getElem_cons hlt, ← getD_get _ i z59 hlt, List.drop_eq_getElem_cons (show i < wy.length by omega), ← getD_get _ i 0 (show i < wy.length by omega), List.drop_eq_getElem_cons (show i < dp.length by omega), ← getD_get _ i [] (show i < dp.length by omega)] at hZ
    simp only [plainT, sailL] at hZ
    have hpf := pass_first (levT (sills.getD i z59).f1 (dp.getD i [])) (now + wy.getD i 0) needs (levT_ne hD.2.2 k4) (levT_rises hD.2.2 hl.up)
    rw [levT_from0 hl hD.2.2] at hpf
    have hw := hD.1; have hw2 := hD.2.1
    rw [show max (now + wy.getD i 0) 0 = now + wy.getD i 0 by omega] at hpf
    refine Res.succ ?_
    simp (disch := omega) only [swarflaw07_fact_sailed.l1, if_pos, rdI]
    rw [wrap64_id (n := now + wy.getD i 0) (by omega) (by omega)]
    refine sailed_l2 tn wy dp L U R V holds sills lots hs hT hd hn b s needs acc (by omega) i hlt (pass (levT (sills.getD i z59).f1 (dp.getD i [])) (now + wy.getD i 0) needs) _ (fun e => ?_) (fun t e t0 t1 => ?_) 10000 _ (by omega) (by omega) (by omega) hpf
    · rw [e] at hZ
      simp only [List.append_nil] at hZ
      rw [hZ]
    · rw [e] at hZ
      rw [wrapS (by omega)]
      refine ih (i + 1) _ t (by omega) (by simp [ha]) t0 t1 ?_
      rw [← hZ]; simp
theorem sailed_l0 {T : Int} (hs : ∀ s, s ∈ sills → SillV T s) (hT : T ≤ 1000) (hd : TrueS sills wy dp) (hn : sills.length ≤ 1000) (hho : ∀ h, h ∈ holds → HoldV T h) (hlo : ∀ c, c ∈ lots → LotV T c) (hln : lots.length ≤ 1000) (ht : TrueT lots tn) (st : List Int) (hst : st.length = lots.length) (hr : ∀ y, y ∈ st → -1 ≤ y ∧ y < (holds.length : Int))
    (hU : 0 ≤ U ∧ U ≤ 1000) (hV : 0 ≤ V ∧ V ≤ 2880) (Q : Int × Int) (d : Nat) :
    ∀ (i : Nat) (p : Int × Int), i + d = st.length → trL holds tn i (st.drop i) p = Q → 0 ≤ p.1 → p.1 ≤ 10000000 + 1500000 * (i : Int) → 0 ≤ p.2 → p.2 ≤ 10000000 + 1500000 * (i : Int) →
      Res (fun k => swarflaw07_fact_sailed.l0 k st p.1 p.2 (i : Int) tn wy dp L U R holds V sills lots) (fun r => r = (Q.1, Q.2, sailL (plainT sills wy dp) V (max Q.1 Q.2 + 1000 * U))) := by
  induction d with
  | zero =>
    intro i p hi hQ a b c e
    refine Res.succ ?_
    rw [List.drop_of_length_le (by omega)] at hQ
    simp only [trL] at hQ
    subst hQ
    simp (disch := omega) only [swarflaw07_fact_sailed.l0, if_neg]
    rw [wrap64_id (n := 1000 * U) (by omega) (by omega), mx_max, wrap64_id (n := max p.1 p.2 + 1000 * U) (by omega) (by omega)]
    have := sailed_l1 tn wy dp L U R V holds sills lots hs hT hd hn p.1 p.2 (max p.1 p.2 + 1000 * U) _ sills.length 0 [] V (by omega) rfl hV.1 hV.2 rfl
    simpa using this
  | succ d ih =>
    intro i p hi hQ a b c e
    have hlt : i < st.length := by omega
    obtain ⟨r1, r2⟩ := hr _ (getD_mem st i 0 hlt)
    rw [List.drop_eq_getElem_cons hlt, ← getD_get st i 0 hlt] at hQ
    simp only [trL] at hQ
    obtain ⟨ht1, ht2⟩ := ht
    refine Res.succ ?_
    simp (disch := omega) only [swarflaw07_fact_sailed.l0, if_pos, rdI]
    rw [wrapS (by omega)]
    by_cases hy : st.getD i 0 < 0
    · rw [if_pos hy] at hQ
      simp (disch := omega) only [if_neg]
      exact ih (i + 1) p (by omega) hQ a (by omega) c (by omega)
    · rw [if_neg hy] at hQ
      obtain ⟨g, hg⟩ := Int.eq_ofNat_of_zero_le (show 0 ≤ st.getD i 0 by omega)
      rw [hg, Int.toNat_natCast] at hQ
      rw [hg] at r2 ⊢
      obtain ⟨_, _, h1, h1b, h2, h2b⟩ := hho _ (getD_mem holds g z85 (by omega))
      obtain ⟨c1, c2, c3, c4, c5⟩ := hlo _ (getD_mem lots i z79 (by omega))
      obtain ⟨t1, t2⟩ := ht2 i (by omega)
      have m1 := mul_bd (A := 1000) (B := 1500) (show 0 ≤ tn.getD i 0 by omega) (by omega) h1 (by omega)
      have m2 := mul_bd (A := 1000) (B := 1500) (show 0 ≤ tn.getD i 0 by omega) (by omega) h2 (by omega)
      simp (disch := omega) only [if_pos, rd85]
      rw [wrap64_id (n := tn.getD i 0 * (holds.getD g z85).f1) (by omega) (by omega), wrap64_id (n := tn.getD i 0 * (holds.getD g z85).f2) (by omega) (by omega), wrap64_id (n := p.1 + _) (by omega) (by omega), wrap64_id (n := p.2 + _) (by omega) (by omega)]
      exact ih (i + 1) (p.1 + tn.getD i 0 * (holds.getD g z85).f1, p.2 + tn.getD i 0 * (holds.getD g z85).f2) (by omega) hQ (by simp only; omega) (by simp only; omega) (by simp only; omega) (by simp only; omega)
end
structure TrueOf (L U R : Int) (holds : List S85) (V : Int) (sills : List S59) (lots : List S79) (st : List Int) (q : Q4) (x : Int × Int) (b s : Int) (l : List Int) : Prop where
  bw : q.b0 ≤ b ∧ b ≤ q.h0
  sn : q.b1 ≤ s ∧ s ≤ q.h1
  ap : x.1 ≤ b - s ∧ b - s ≤ x.2
  lo : (wayL U V sills q false).length ≤ l.length
  hi : l.length ≤ (wayL U V sills q true).length
  at_ : ∀ i, i < (wayL U V sills q false).length → (wayL U V sills q true).getD i 0 ≤ l.getD i 0 ∧ l.getD i 0 ≤ (wayL U V sills q false).getD i 0
theorem sailed_ev {H S L' : Nat} {T L U R V : Int} {holds : List S85} {sills : List S59} {lots : List S79} (h : VoyOK H S L' T L U R holds V sills lots) (hS : S ≤ 4) (hL : L' ≤ 6) (hT : T ≤ 1000) {st : List Int} (hst : st.length = lots.length) (hr : ∀ y, y ∈ st → -1 ≤ y ∧ y < (holds.length : Int))
    {tn wy : List Int} {dp : List (List Int)} (ht : TrueT lots tn) (hd : TrueS sills wy dp) {q : Q4} {x : Int × Int} (hq : Told L U R holds V sills lots st q x) :
    Ev (fun k => swarflaw07_fact_sailed.f k tn wy dp L U R holds V sills lots st) ((trL holds tn 0 st (1000 * L, 1000 * L)).1, (trL holds tn 0 st (1000 * L, 1000 * L)).2, sailL (plainT sills wy dp) V (max (trL holds tn 0 st (1000 * L, 1000 * L)).1 (trL holds tn 0 st (1000 * L, 1000 * L)).2 + 1000 * U)) ∧
      TrueOf L U R holds V sills lots st q x (trL holds tn 0 st (1000 * L, 1000 * L)).1 (trL holds tn 0 st (1000 * L, 1000 * L)).2 (sailL (plainT sills wy dp) V (max (trL holds tn 0 st (1000 * L, 1000 * L)).1 (trL holds tn 0 st (1000 * L, 1000 * L)).2 + 1000 * U)) := by
  have h1 := h.light; have h2 := h.under; have h4 := h.leaves; have h6 := h.sn; have h7 := h.ln
  have hw : wrap64 (1000 * L) = 1000 * L := wrap64_id (by omega) (by omega)
  obtain ⟨r, hr1, hr2⟩ := sailed_l0 tn wy dp L U R V holds sills lots h.si hT hd (by omega) h.ho h.lo (by omega) ht st hst hr ⟨h2.1, by omega⟩ ⟨h4.1, by omega⟩ _ st.length 0 (1000 * L, 1000 * L) (by omega) rfl (by simp only; omega) (by simp only; omega) (by simp only; omega) (by simp only; omega)
  subst hr2
  rw [List.drop_zero] at hr1
  obtain ⟨k1, k2, k3, k4, k5, k6⟩ := trL_in hT holds lots tn h.ho ht st 0 (1000 * L, 1000 * L) (q0 L) (0, 0) (by omega) hr (Int.le_refl _) (Int.le_refl _) (Int.le_refl _) (Int.le_refl _) (by simp only; omega) (by simp only; omega)
  rw [← hq.qe] at k1 k2 k3 k4
  rw [← hq.xe] at k5 k6
  obtain ⟨B1, B2⟩ := better_truth sills wy dp hd
  have ok := truthOK sills wy dp hd h.si
  have c1 := sailL_le _ _ V V (max (if false = true then q.b0 else q.h0) (if false = true then q.b1 else q.h1) + 1000 * U) (max (trL holds tn 0 st (1000 * L, 1000 * L)).1 (trL holds tn 0 st (1000 * L, 1000 * L)).2 + 1000 * U) B2 (sillsOK_of h.si false) ok h4.1 (Int.le_refl _) (by simp only [Bool.false_eq_true, if_false]; omega)
  have c2 := sailL_le _ _ V V (max (trL holds tn 0 st (1000 * L, 1000 * L)).1 (trL holds tn 0 st (1000 * L, 1000 * L)).2 + 1000 * U) (max (if true = true then q.b0 else q.h0) (if true = true then q.b1 else q.h1) + 1000 * U) B1 ok (sillsOK_of h.si true) h4.1 (Int.le_refl _) (by simp only [if_true]; omega)
  refine ⟨?_, ⟨k1, k2⟩, ⟨k3, k4⟩, ⟨k5, k6⟩, c1.1, c2.1, fun i hi => ⟨c2.2 i (Nat.lt_of_lt_of_le hi c1.1), c1.2 i hi⟩⟩
  unfold swarflaw07_fact_sailed.f
  rw [hw]
  exact hr1
theorem in_ok (s lo hi : Int) (h : lo ≤ hi) (h0 : 0 ≤ lo) (h1 : hi ≤ 1000000) : ∃ r s', swarfkit_Feed_In.f s lo hi = some (r, s') ∧ lo ≤ r ∧ r ≤ hi := by
  obtain ⟨x, s1, e1, x1, x2⟩ := between_ok s lo hi h (by omega) h1
  obtain ⟨y, s2, e2, y1, y2⟩ := between_ok s1 lo hi h (by omega) h1
  obtain ⟨z, s3, e3, hz⟩ := either_ok s2 [lo, hi, x, y] (by simp) (show 4 ≤ 1000 by decide)
  refine ⟨z, s3, ?_, ?_⟩
  · unfold swarfkit_Feed_In.f
    refine Option.bind_eq_some_iff.2 ⟨_, e1, ?_⟩
    refine Option.bind_eq_some_iff.2 ⟨_, e2, ?_⟩
    exact Option.bind_eq_some_iff.2 ⟨_, e3, rfl⟩
  · simp only [List.mem_cons, List.not_mem_nil, or_false] at hz
    rcases hz with rfl | rfl | rfl | rfl <;> omega
theorem feedL_ok : ∀ (l : List S56) (s : Int), (∀ x, x ∈ l → 0 ≤ x.f0 ∧ x.f0 ≤ x.f1 ∧ x.f1 ≤ 1000000) → ∃ r s', feedL s l = some (r, s') ∧ r.length = l.length ∧ ∀ i, i < l.length → (l.getD i z56).f0 ≤ r.getD i 0 ∧ r.getD i 0 ≤ (l.getD i z56).f1
  | [], s, _ => ⟨[], s, rfl, rfl, fun i hi => by simp at hi⟩
  | x :: l, s, h => by
    obtain ⟨h0, h1, h2⟩ := h x (by simp)
    obtain ⟨r, s1, e1, r1, r2⟩ := in_ok s x.f0 x.f1 h1 h0 h2
    obtain ⟨rs, s2, e2, l2, hr⟩ := feedL_ok l s1 (fun y hy => h y (List.mem_cons_of_mem _ hy))
    refine ⟨r :: rs, s2, ?_, by simp [l2], fun i hi => ?_⟩
    · simp only [feedL]
      refine Option.bind_eq_some_iff.2 ⟨_, e1, ?_⟩
      exact Option.bind_eq_some_iff.2 ⟨_, e2, rfl⟩
    · cases i with
      | zero => exact ⟨r1, r2⟩
      | succ i => simpa using hr i (by simpa using hi)
theorem trueD_of : ∀ (l : List S62) (d : List Int), d.length = (l.map (·.f1)).length → (∀ i, i < (l.map (·.f1)).length → ((l.map (·.f1)).getD i z56).f0 ≤ d.getD i 0 ∧ d.getD i 0 ≤ ((l.map (·.f1)).getD i z56).f1) → TrueD l d
  | [], [], _, _ => trivial
  | a :: l, b :: d, hl, h => ⟨by simpa using h 0 (by simp), trueD_of l d (by simpa using hl) (fun i hi => by simpa using h (i + 1) (by simpa using hi))⟩
  | [], b :: d, hl, _ => by simp at hl
  | a :: l, [], hl, _ => by simp at hl
theorem factS_ok {T : Int} (hT : T ≤ 1000) : ∀ (ss : List S59) (s : Int), (∀ x, x ∈ ss → SillV T x) → ∃ w d s', factS s ss = some (w, d, s') ∧ TrueS ss w d
  | [], s, _ => ⟨[], [], s, rfl, trivial⟩
  | x :: ss, s, h => by
    obtain ⟨h1, h2, h3, h4, h5, fr, hl⟩ := h x (by simp)
    obtain ⟨r, s1, e1, r1, r2⟩ := in_ok s x.f0.f0 x.f0.f1 h2 h1 (by omega)
    obtain ⟨lv, s2, e2, l2, hv⟩ := feedL_ok (x.f1.map (·.f1)) s1 (fun y hy => by
      obtain ⟨z, hz, rfl⟩ := List.mem_map.1 hy
      have := levs_mem hl hT z hz
      exact ⟨this.1, this.2.1, by omega⟩)
    obtain ⟨w, d, s3, e3, hs⟩ := factS_ok hT ss s2 (fun y hy => h y (List.mem_cons_of_mem _ hy))
    refine ⟨r :: w, lv :: d, s3, ?_, ⟨r1, r2, trueD_of _ _ l2 hv⟩, hs⟩
    simp only [factS]
    refine Option.bind_eq_some_iff.2 ⟨_, e1, ?_⟩
    refine Option.bind_eq_some_iff.2 ⟨_, e2, ?_⟩
    exact Option.bind_eq_some_iff.2 ⟨_, e3, rfl⟩
theorem factOf_ok {H S L' : Nat} {T L U R V : Int} {holds : List S85} {sills : List S59} {lots : List S79} (h : VoyOK H S L' T L U R holds V sills lots) (hH : H ≤ 100) (hS : S ≤ 100) (hL : L' ≤ 100) (hT : T ≤ 1000) (s : Int) :
    ∃ tn wy dp s', swarflaw07_factOf.f s L U R holds V sills lots = some (tn, wy, dp, s') ∧ TrueT lots tn ∧ TrueS sills wy dp := by
  obtain ⟨tn, s1, e1, l1, h1⟩ := feedL_ok (lots.map (·.f0)) s (fun y hy => by
    obtain ⟨z, hz, rfl⟩ := List.mem_map.1 hy
    obtain ⟨a, b, c, _⟩ := h.lo z hz
    exact ⟨a, b, by omega⟩)
  obtain ⟨wy, dp, s2, e2, h2⟩ := factS_ok hT sills s1 h.si
  refine ⟨tn, wy, dp, s2, ?_, ⟨by simpa using l1, fun i hi => ?_⟩, h2⟩
  · unfold swarflaw07_factOf.f
    have k1 := h.hn; have k2 := h.sn; have k3 := h.ln
    rw [if_pos ⟨by omega, by omega, by omega, fun x hx => by obtain ⟨_, _, _, _, a5, _⟩ := h.si x hx; omega⟩]
    refine Option.bind_eq_some_iff.2 ⟨_, e1, ?_⟩
    exact Option.bind_eq_some_iff.2 ⟨_, e2, rfl⟩
  · have := h1 i (by simpa using hi)
    have e : (lots.map (·.f0)).getD i z56 = (lots.getD i z79).f0 := by simp [List.getD, hi]
    rw [e] at this
    exact this
theorem inside_t {a b n : Int} (h1 : a ≤ n) (h2 : n ≤ b) : swarfkit_Inside.f a b n = some true := by
  unfold swarfkit_Inside.f; rw [if_pos (by omega), decide_eq_true h2]
theorem fits_t {n : Nat} {so la l : List Int} (h1 : la.length ≤ l.length) (h2 : l.length ≤ so.length) (h3 : so.length ≤ n) : swarflaw07_fits.f (verdictE n so la) ((l.length : Int) == (n : Int)) = some true := by
  unfold swarflaw07_fits.f verdictE
  by_cases c1 : la.length = n
  · simp only [if_pos c1, if_true]
    have e : ((l.length : Int) == (n : Int)) = true := beq_iff_eq.2 (by omega)
    rw [e]; rfl
  · by_cases c2 : so.length < n
    · simp only [if_neg c1, if_pos c2]
      have e : ((l.length : Int) == (n : Int)) = false := beq_eq_false_iff_ne.2 (by omega)
      rw [e]; rfl
    · simp only [if_neg c1, if_neg c2]; rfl
structure StowTo (holds : List S85) (lots : List S79) (s room : List Int) : Prop where
  rl : room.length = holds.length
  rg : ∀ y, y ∈ s → -1 ≤ y ∧ y < (holds.length : Int)
  ro : ∀ h : Nat, h < holds.length → room.getD h 0 = used lots h 0 s ∧ used lots h 0 s ≤ (holds.getD h z85).f0 ∧ 0 ≤ used lots h 0 s
theorem StowTo.skip {holds : List S85} {lots : List S79} {s room : List Int} (h : StowTo holds lots s room) : StowTo holds lots (s ++ [-1]) room :=
  ⟨h.rl, mem_snoc h.rg ⟨by omega, by omega⟩, fun k hk => by
    have := h.ro k hk
    rw [used_snoc, if_neg (by omega)]
    simpa using this⟩
theorem StowTo.put {holds : List S85} {lots : List S79} {s room : List Int} (h : StowTo holds lots s room) (g : Nat) (hg : g < holds.length) (h0 : 0 ≤ (lots.getD s.length z79).f0.f1) (hle : room.getD g 0 + (lots.getD s.length z79).f0.f1 ≤ (holds.getD g z85).f0) :
    StowTo holds lots (s ++ [(g : Int)]) (room.set g (room.getD g 0 + (lots.getD s.length z79).f0.f1)) := by
  refine ⟨by rw [List.length_set]; exact h.rl, mem_snoc h.rg ⟨by omega, by omega⟩, fun k hk => ?_⟩
  have hk1 := h.ro k hk
  have hl : k < room.length := by rw [h.rl]; exact hk
  rw [used_snoc, Nat.zero_add]
  by_cases e : k = g
  · subst e
    rw [if_pos rfl, List.getD, List.getElem?_set_self hl]
    refine ⟨?_, ?_, ?_⟩
    · show room.getD k 0 + _ = _; rw [hk1.1]
    · rw [← hk1.1]; exact hle
    · omega
  · rw [if_neg (by omega), List.getD, List.getElem?_set_ne (by omega)]
    simpa using hk1
theorem stow_l0 (L U R V : Int) (holds : List S85) (sills : List S59) (lots : List S79) {T : Int} (hT : T ≤ 1000) (hho : ∀ h, h ∈ holds → HoldV T h) (hlo : ∀ c, c ∈ lots → LotV T c) (hh : 1 ≤ holds.length ∧ holds.length ≤ 1000) (hl : lots.length ≤ 1000) (d : Nat) :
    ∀ (l room : List Int) (s : Int), l.length + d = lots.length → StowTo holds lots l room → Res (fun k => swarfkit_StowageOf.l0 k l room (l.length : Int) s L U R holds V sills lots) (fun r => StowOK holds lots r.1) := by
  induction d with
  | zero =>
    intro l room s hd hs
    refine Res.succ ?_
    simp (disch := omega) only [swarfkit_StowageOf.l0, if_neg]
    exact Res.now ⟨by show l.length = lots.length; omega, hs.rg, fun h hh => (hs.ro h hh).2.1⟩
  | succ d ih =>
    intro l room s hd hs
    have hrl := hs.rl
    obtain ⟨c1, c2, c3, c4, c5⟩ := hlo _ (getD_mem lots l.length z79 (by omega))
    have hskip : ∀ s2 : Int, Res (fun k => swarfkit_StowageOf.l0 k (l ++ [-1]) room (wrap64 ((l.length : Int) + 1)) s2 L U R holds V sills lots) (fun r => StowOK holds lots r.1) := fun s2 => by
      have := ih (l ++ [-1]) room s2 (by simp; omega) hs.skip
      rw [wrapS (by omega)]
      simpa using this
    refine Res.succ ?_
    have hw : wrap64 ((holds.length : Int) - 1) = (holds.length : Int) - 1 := wrap64_id (by omega) (by omega)
    obtain ⟨r, s1, e1, r1, r2⟩ := between_ok s (-1) ((holds.length : Int) - 1) (by omega) (by decide) (by omega)
    simp (disch := omega) only [swarfkit_StowageOf.l0, if_pos, hw]
    refine Res.take e1 ?_
    by_cases hr : r ≥ 0
    · obtain ⟨g, rfl⟩ := Int.eq_ofNat_of_zero_le hr
      have hg : g < holds.length := by omega
      obtain ⟨b1, b2, _⟩ := hho _ (getD_mem holds g z85 hg)
      obtain ⟨q1, q2, q3⟩ := hs.ro g hg
      have hwr : wrap64 (room.getD g 0 + (lots.getD l.length z79).f0.f1) = room.getD g 0 + (lots.getD l.length z79).f0.f1 := wrap64_id (by omega) (by omega)
      simp (disch := omega) only [if_pos, rdI, rd79, rd85, hwr]
      refine Res.succ ?_
      by_cases hgt : room.getD g 0 + (lots.getD l.length z79).f0.f1 > (holds.getD g z85).f0
      · rw [decide_eq_true hgt]
        simp (disch := omega) only [swarfkit_StowageOf.j1, if_true, if_pos, if_neg]
        exact hskip s1
      · rw [decide_eq_false hgt]
        simp (disch := omega) only [swarfkit_StowageOf.j1, Bool.false_eq_true, if_false, if_pos, rdI, rd79, hwr, Int.toNat_natCast]
        have := ih (l ++ [(g : Int)]) (room.set g (room.getD g 0 + (lots.getD l.length z79).f0.f1)) s1 (by simp; omega) (hs.put g hg (by omega) (by omega))
        rw [wrapS (by omega)]
        simpa using this
    · have : r = -1 := by omega
      subst this
      simp (disch := omega) only [if_neg]
      refine Res.succ ?_
      simp (disch := omega) only [swarfkit_StowageOf.j1, Bool.false_eq_true, if_false, if_pos, if_neg]
      exact hskip s1
theorem stowageOf_res {H S L' : Nat} {T L U R V : Int} {holds : List S85} {sills : List S59} {lots : List S79} (h : VoyOK H S L' T L U R holds V sills lots) (hH : H ≤ 100) (hL : L' ≤ 100) (hT : T ≤ 1000) (s : Int) :
    Res (fun k => swarfkit_StowageOf.f k s L U R holds V sills lots) (fun r => StowOK holds lots r.1) := by
  have h5 := h.hn; have h7 := h.ln
  unfold swarfkit_StowageOf.f
  simp (disch := omega) only [if_pos, Int.toNat_natCast]
  refine stow_l0 L U R V holds sills lots hT h.ho h.lo ⟨h5.1, by omega⟩ (by omega) lots.length [] _ s (by simp) ⟨by simp, fun y hy => by (cases hy), fun k hk => ?_⟩
  obtain ⟨b1, _⟩ := h.ho _ (getD_mem holds k z85 hk)
  refine ⟨?_, b1, Int.le_refl _⟩
  rw [List.getD, List.getElem?_replicate, if_pos hk]; rfl
end Go.Proofs.Ytodmemndaaiolaa.PC7
namespace Go.Proofs.Ytodmemndaaiolaa.Pure
set_option linter.unusedVariables false
set_option linter.unusedSimpArgs false
open Go.RowKit Go.Proofs.Ytodmemndaaiolaa.PC7 Go.Proofs.YtodmemndaaiolaaW.PrintWords Go.Proofs.YtodmemndaaiolaaW.PrintLast Go.Proofs.YtodmemndaaiolaaW.PrintMore
section
variable {T L U R V : Int} {holds : List S85} {sills : List S59} {lots : List S79} {st : List Int} {q : Q4} {x : Int × Int}
theorem true_l1 (h : VoyOK 3 4 6 T L U R holds V sills lots) (hq : PC7.Told L U R holds V sills lots st q x) (al : Bool) (vd : Int) (f : Int) (rd_ : Nat) (b s : Int) (l : List Int) (ht : TrueOf L U R holds V sills lots st q x b s l)
    (hk : Ev (fun k => swarflaw07_ShipTrue.l0 k st al vd (overE (wayL U V sills q true) (wayL U V sills q false)) (wrap64 ((rd_ : Int) + 1)) f L U R holds V sills lots q.b0 q.h0 q.b1 q.h1 x.1 x.2) true) (d : Nat) :
    ∀ i : Nat, i + d = (wayL U V sills q false).length → Ev (fun k => swarflaw07_ShipTrue.l1 k st al vd (overE (wayL U V sills q true) (wayL U V sills q false)) (rd_ : Int) l (i : Int) f L U R holds V sills lots q.b0 q.h0 q.b1 q.h1 x.1 x.2) true := by
  have e1 := over_len (wayL U V sills q true) (wayL U V sills q false)
  have hlo := ht.lo
  have hle := hq.le; have htop := hq.top; have hsn := h.sn
  induction d with
  | zero =>
    intro i hi
    refine Ev.succ ?_
    simp (disch := omega) only [swarflaw07_ShipTrue.l1, if_neg]
    exact hk
  | succ d ih =>
    intro i hi
    obtain ⟨a, b⟩ := ht.at_ i (by omega)
    refine Ev.succ ?_
    simp (disch := omega) only [swarflaw07_ShipTrue.l1, if_pos, rd56, over_getD, rdI]
    refine Ev.take (inside_t a b) ?_
    simp only [if_true]
    rw [wrapS (by omega)]
    exact ih (i + 1) (by omega)
theorem true_l0 (h : VoyOK 3 4 6 T L U R holds V sills lots) (hT : T ≤ 1000) (hst : StowOK holds lots st) (hq : PC7.Told L U R holds V sills lots st q x) (d : Nat) :
    ∀ (i : Nat) (f : Int), i + d = 5 → Ev (fun k => swarflaw07_ShipTrue.l0 k st (decide (max x.2 (-x.1) ≤ 1000 * R)) (verdictE sills.length (wayL U V sills q true) (wayL U V sills q false)) (overE (wayL U V sills q true) (wayL U V sills q false)) (i : Int) f L U R holds V sills lots q.b0 q.h0 q.b1 q.h1 x.1 x.2) true := by
  induction d with
  | zero =>
    intro i f hi
    refine Ev.succ ?_
    simp (disch := omega) only [swarflaw07_ShipTrue.l0, if_neg]
    exact Ev.tail awake_ev
  | succ d ih =>
    intro i f hi
    obtain ⟨tn, wy, dp, f2, e1, htt, hts⟩ := factOf_ok h (by decide) (by decide) (by decide) hT f
    obtain ⟨e2, hto⟩ := sailed_ev h (by decide) (by decide) hT hst.len hst.rg htt hts hq
    generalize (trL holds tn 0 st (1000 * L, 1000 * L)).1 = b at *
    generalize (trL holds tn 0 st (1000 * L, 1000 * L)).2 = s at *
    generalize sailL (plainT sills wy dp) V (max b s + 1000 * U) = l at *
    have hR := h.trim
    have xo := hq.xok
    have ap := hto.ap
    have e1l := over_len (wayL U V sills q true) (wayL U V sills q false)
    have hlo := hto.lo
    have key : ∀ {c : Bool}, c = false → Ev (fun k => swarflaw07_ShipTrue.j2 k st (decide (max x.2 (-x.1) ≤ 1000 * R)) (verdictE sills.length (wayL U V sills q true) (wayL U V sills q false)) (overE (wayL U V sills q true) (wayL U V sills q false)) (i : Int) l c f2 L U R holds V sills lots q.b0 q.h0 q.b1 q.h1 x.1 x.2) true := by
      rintro c rfl
      refine Ev.succ ?_
      simp only [swarflaw07_ShipTrue.j2, Bool.false_eq_true, if_false]
      refine true_l1 h hq _ _ f2 i b s l hto ?_ (wayL U V sills q false).length 0 (by omega)
      rw [wrapS (by omega)]
      exact ih (i + 1) f2 (by omega)
    refine Ev.succ ?_
    simp (disch := omega) only [swarflaw07_ShipTrue.l0, if_pos]
    refine Ev.take e1 (Ev.bind e2 ?_)
    dsimp only
    refine Ev.take (inside_t hto.bw.1 hto.bw.2) ?_
    simp only [if_true]
    refine Ev.take (inside_t hto.sn.1 hto.sn.2) ?_
    simp only [if_true]
    have hbw := hto.bw; have hsn := hto.sn; have qo := hq.qok
    have q1 := qo.b0; have q2 := qo.b1; have q3 := qo.h0; have q4 := qo.h1
    rw [wrap64_id (n := b - s) (by omega) (by omega), wrap64_id (n := 1000 * R) (by omega) (by omega), wrap64_id (n := (-1000) * R) (by omega) (by omega)]
    refine Ev.take (inside_t ap.1 ap.2) ?_
    simp only [if_true]
    have hf := fits_t (n := sills.length) (so := wayL U V sills q true) (la := wayL U V sills q false) hto.lo hto.hi hq.top
    by_cases hal : max x.2 (-x.1) ≤ 1000 * R
    · simp (disch := omega) only [decide_eq_true hal, if_true, if_neg]
      refine Ev.take hf ?_
      simp only [if_true]
      rw [decide_eq_true hal] at key
      exact key (decide_eq_false (by omega))
    · simp only [decide_eq_false hal, Bool.false_eq_true, if_false]
      refine Ev.take hf ?_
      simp only [if_true]
      rw [decide_eq_false hal] at key
      exact key (decide_eq_false (by omega))
end
theorem ShipTrue : swarflaw07_ShipTrue.Pure := by
  intro l0 _ hb8 _
  refine Ev.rounds (g := fun k => swarflaw07_ShipTrue.f k l0) ?_
  unfold swarflaw07_ShipTrue.f
  refine Ev.take (a := feedAll l0) (by unfold swarfkit_FeedOf.f; rw [if_pos (by omega)]) ?_
  obtain ⟨T, f1, e1, hT⟩ := either_ok (feedAll l0) [4, 30] (by simp) (show 2 ≤ 1000 by decide)
  have hTb : 1 ≤ T ∧ T ≤ 1000 := by
    rcases List.mem_cons.1 hT with rfl | hT
    · omega
    · rw [List.mem_singleton.1 hT]; omega
  refine Ev.take e1 ?_
  obtain ⟨⟨L, U, R, holds, V, sills, lots, f2⟩, e2, hv⟩ := voyageOf_res f1 3 4 6 T (by decide) (by decide) (by decide) (by decide) hTb.1 hTb.2
  refine Ev.bind (a := (L, U, R, holds, V, sills, lots, f2)) e2 ?_
  obtain ⟨⟨s, f3⟩, e3, hs⟩ := stowageOf_res hv (by decide) (by decide) hTb.2 f2
  refine Ev.bind (a := (s, f3)) e3 ?_
  replace hs : StowOK holds lots s := hs
  replace hv : VoyOK 3 4 6 T L U R holds V sills lots := hv
  obtain ⟨q, x, hq⟩ := told hv (by decide) (by decide) (by decide) hTb.2 hs.len hs.rg
  refine Ev.take (hq.drafts hs.room) (Ev.bind (hq.level hs.room) (Ev.take (hq.sail hs.room) ?_))
  have hle := hq.le; have htop := hq.top
  have e1l := over_len (wayL U V sills q true) (wayL U V sills q false)
  simp only [if_true]
  rw [show decide (((overE (wayL U V sills q true) (wayL U V sills q false)).length : Int) > (sills.length : Int)) = false from decide_eq_false (by omega)]
  refine Ev.succ ?_
  simp only [swarflaw07_ShipTrue.j0, Bool.false_eq_true, if_false]
  exact true_l0 hv hTb.2 hs hq 5 0 f3 (by decide)
end Go.Proofs.Ytodmemndaaiolaa.Pure
namespace Go.Proofs.YtodmemndaaiolaaW.PrintWords
open Go.ChangeShapes Go.WideShapes
theorem sized_ints {H : Type} {enc : TypeId × Value → H} {P : Program} {W : World} {base : Nat} {spare : Nat → Bool} {held : Bool} {t e : TypeId} {k : IntKind} {a : Option Addr} {len cap : Nat} {d : DataW H} {ps : List MemPlace} {ts : List TypeId} {ds : List (DataW H)} {j : Nat}
    (hsz : (DataW.weightsEach P ts ds).all (· ≤ reachBytes) = true) (ht : ts[j]? = some t) (hd : ds[j]? = some d) (hu : P.underlying t = some (.slice e)) (he : P.underlying e = some (.int k)) (hc : P.cellsOf e = 1) {B : Nat} (hB : P.bytesOf e = B)
    (h : DataW.Trod enc P W base spare held t (.slice a len cap) d ps) : len * B ≤ 140737488351232 := by
  obtain ⟨fuel, hf⟩ := h
  rcases open_ints hu he hc hf with ⟨hcs, _⟩ | ⟨x, l, c, zs, hcs, _, hl, _, hz, hx, _, _⟩
  · simp [Value.cells] at hcs
    obtain ⟨rfl, rfl, rfl⟩ := hcs
    simp
  · simp [Value.cells] at hcs
    obtain ⟨rfl, rfl, rfl⟩ := hcs
    obtain ⟨hx, _⟩ := Prod.mk.inj hx
    subst hx
    have z := sized_slice hsz ht hd hu
    rw [hB] at z
    have hl2 : len ≤ zs.length := by
      rw [hz]
      split
      · exact hl
      · exact Nat.le_refl _
    have h1 : (lits (H := H) k (zs.take len)).length + (lits (H := H) k (zs.drop len)).length = zs.length := by
      simp [lits]
      omega
    rw [h1] at z
    exact Nat.le_trans (Nat.mul_le_mul_right _ hl2) z
end Go.Proofs.YtodmemndaaiolaaW.PrintWords
namespace Go.Proofs.Ytodmemndaaiolaa.shipTrue
open Go.ChangeShapes Go.WideShapes Go.ChangeAt Go.RowKit
open Go.ChangeMaps (open_string shut_string)
set_option linter.unusedVariables false
theorem own : ownKnob Try.prog.godebug = none := by kernel_rfl
theorem laidOut : laidOutB Try.prog = true := by kernel_rfl
def IsRow (k : IntKind) (w : World) (a : Option Addr) (len cap : Nat) (zs : List Int) : Prop :=
  (a = none ∧ len = 0 ∧ cap = 0 ∧ zs = []) ∨
  ∃ x, a = some x ∧ len ≤ cap ∧ cap ≤ maxLen ∧ zs.length = cap ∧ (∀ i, i < zs.length → w.cell? (x.add i) = some (.int k (zs.getD i 0))) ∧ ∀ n ∈ zs, (Lit.int k n).wf = true
set_option maxRecDepth 100000 in
theorem lifted (os : Os) (started : os.Started) (H : Type) (enc : TypeId × Value → H) :
    ReturnsInHanded {} Try.checked os 8 .any (Rows.shipTrueSpec.pre6 enc Try.prog Try.f8 Rows.shipTrueRow.domain false) (Rows.shipTrueSpec.post enc Try.prog Try.f8 false true false false) := by
  refine returnsInHanded_of_change_sized (C := Try.checked) own started (by kernel_rfl) Try.func8
    (ChangeSpec.witness6 (enc := enc) (C := Try.checked) false ⟨#[], #[.slice none 0 0], []⟩ 8 (by kernel_rfl) (by kernel_rfl) (by kernel_rfl) (by kernel_rfl)) ?_
  intro W base args ds gs before hval0 hW hcnd hsz0 _
  have hsz : (DataW.weightsEach Try.prog (Try.f8.params.toList ++ Rows.shipTrueSpec.plain.varTypes Try.prog) (ds ++ gs)).all (· ≤ reachBytes) = true := hsz0
  have hval : ∀ (j : Nat) t v, Try.f8.params[j]? = some t → args[j]? = some v → Value.okWide Try.prog W .any base t v := hval0
  have hW' := hW
  obtain ⟨p, q, hA0, hV, rfl, hfz, hnd⟩ := hW
  have hA : DataW.TrodAll enc Try.prog W 0 (fun _ => true) true Try.f8.params.toList args.toList ds p := hA0
  rw [Try.params8] at hA hval hsz
  obtain ⟨v0, vs0, d0, ds0, p0, q0, hargs, rfl, rfl, h0, r0⟩ := trodAll_cons hA
  obtain ⟨rfl, rfl, rfl⟩ := trodAll_nil r0
  obtain rfl : args = #[v0] := by cases args; simp_all
  obtain ⟨rfl, rfl⟩ := trodVars_none hV
  obtain ⟨a0, len0, cap0, rfl⟩ := okWide_slice Try.underlying27 (hval 0 27 v0 rfl rfl)
  have k0 := h0
  have lt0 : ∀ x ∈ p0, x.block < W.heap.size := by obtain ⟨m, hm⟩ := k0; exact DataW.trod_lt m _ _ _ hm
  obtain ⟨z0, w0⟩ : ∃ zs, IsRow .i64 W a0 len0 cap0 zs := by
    obtain ⟨fuel, hf⟩ := h0
    rcases open_ints Try.underlying27 Try.underlying3 (by kernel_rfl) hf with ⟨hcs, _⟩ | ⟨x, l, c, zs, hcs, _, hl, hm, hz, _, hcell, hwz⟩
    · simp [Value.cells] at hcs
      obtain ⟨rfl, rfl, rfl⟩ := hcs
      exact ⟨[], .inl ⟨rfl, rfl, rfl, rfl⟩⟩
    · simp [Value.cells] at hcs
      obtain ⟨rfl, rfl, rfl⟩ := hcs
      exact ⟨zs, .inr ⟨_, rfl, hl, hm, by simpa using hz, hcell, hwz⟩⟩
  have y0 : len0 * 8 ≤ 140737488351232 := Go.Proofs.YtodmemndaaiolaaW.PrintWords.sized_ints hsz (j := 0) (t := 27) rfl rfl Try.underlying27 Try.underlying3 (by kernel_rfl) (by kernel_rfl) h0
  clear hA0 hval0 hsz0 hsz
  refine (PC7.swarflaw07_ShipTrue.walk Pure.ShipTrue a0 len0 cap0 z0 W w0 y0).mono fun e W' ⟨he, bel⟩ => ?_
  subst he
  exact ⟨_, rfl, _, _, _, [], _, [], hW', trodAll_mk1 (shut_bool Try.underlying4 _), (trodAll_cons_mk (Below.trod laidOut (by kernel_rfl) (of_decide_eq_true (by kernel_rfl)) k0 bel lt0) trodAll_mk0), rfl, bel.frame _, fun h => by cases h⟩
theorem over : Rows.shipTrueRow.holds Try.pinned (OpenSpec.ofChange Rows.shipTrueSpec) :=
  OpenClaim.holds_of_wide 8 Try.f8 rfl rfl rfl rfl rfl rfl rfl ⟨rfl, rfl, rfl, rfl, rfl⟩ rfl rfl rfl rfl rfl (by kernel_rfl) Try.func8 (by kernel_rfl)
    (of_decide_eq_true (by kernel_rfl)) (by unfold Func.isWrapper; first | (rw [if_pos (by decide +kernel)]; kernel_rfl) | (rw [if_neg (by decide +kernel)]; exact ⟨rfl, rfl⟩))
    (fun os started H enc _ => lifted os started H enc)
theorem proved : Rows.ShipTrueSaid := over
#print axioms proved
end Go.Proofs.Ytodmemndaaiolaa.shipTrue
namespace Go.Proofs.Ytodmemndaaiolaa
theorem shipTrue_holds : Rows.ShipTrueSaid := shipTrue.proved
end Go.Proofs.Ytodmemndaaiolaa
