/- Which voyages and stowages are valid, how deep bow and stern may lie and whether the barge is level enough is said alike by the program and by the reference, and nothing is changed. -/
import Derived.Test.YtodmemndaaiolaaCShipDrafts2
import Derived.Test.YtodmemndaaiolaaCShipDrafts5
import Derived.Test.YtodmemndaaiolaaCShipDrafts1
import Derived.Test.YtodmemndaaiolaaCShipDrafts4
import Derived.Test.YtodmemndaaiolaaCShipDrafts3
import Derived.Outline
import Derived.RegionTactic
import Derived.BigRegion
import Derived.ChangeAlike
import Derived.Deep.DeepCutAuto
import Derived.Deep.CutRange
import Derived.Test.YtodmemndaaiolaaRows
import Derived.WalkKit
import Derived.ProofKit
import Derived.OpenShut
import Derived.ShutString
import Derived.ChangeOld
import Derived.Below
import Derived.SizedLaws
namespace Go.Proofs.Ytodmemndaaiolaa.PC7
set_option linter.unusedVariables false
set_option linter.unusedSimpArgs false
open Go.RowKit Go.Proofs.YtodmemndaaiolaaW.PrintWords Go.Proofs.YtodmemndaaiolaaW.PrintLast Go.Proofs.YtodmemndaaiolaaW.PrintMore
structure DraftQ (L U R : Int) (holds : List S85) (V : Int) (sills : List S59) (lots : List S79) (l : List Int) : Prop where
 c : swarfkit_CopyVoyage.f L U R holds V sills lots = some (L, U, R, holds, V, sills, lots)
 i : swarfkit_Ints.f l = some l
 dr : ∃ (a b c d e : Int) (k : Nat), ship_Drafts.f L U R holds V sills lots l = some (a, b, c, d, e) ∧ swarfref07_Drafts.f k L U R holds V sills lots l = some (a, b, c, d, e)
 lv : ∃ (p : Bool) (y z e : Int) (k j : Nat), ship_Level.f k L U R holds V sills lots l = some (p, y, z, e) ∧ swarfref07_Level.f j L U R holds V sills lots l = some (p, y, z, e)
 ck : ∃ (e : Int) (k j : Nat), ship_Check.f k L U R holds V sills lots = some e ∧ swarfref07_Check.f j L U R holds V sills lots = some e
 st : ∃ (e : Int) (k j : Nat), ship_CheckStowage.f k L U R holds V sills lots l = some e ∧ swarfref07_CheckStowage.f j L U R holds V sills lots l = some e
 v : holds.length ≤ 100000 ∧ lots.length ≤ 100000 ∧ lensOK sills
 n : ∃ k, swarfkit_EqualInts.f k l l = some true
theorem cells_at7 {w : World} {g t : Nat} {cs : Array Value} (h : w.heap[g]? = some (.cells cs t (0, 0))) (ys : Array Value) (b : Nat) (hh : ∀ j v, ys[j]? = some v → cs[b + j]? = some v) : ∀ j v, ys[j]? = some v → w.cell? ⟨g, b + j, none⟩ = some v := fun j v hj => (blk_cell h (b + j)).trans (hh j v hj)
theorem one_box7 {w0 W : World} {g t : Nat} {cs : Array Value} (h : W.heap[g]? = some (.cells cs t (0, 0))) (hb : Below w0.heap.size w0 W) (hg : w0.heap.size ≤ g) (a b : Value) (e : (cs.setIfInBounds 0 a).setIfInBounds 1 b = #[a, b]) : ((W.setCell ⟨g, 0, none⟩ a).setCell ⟨g, 1, none⟩ b).heap[g]? = some (.cells #[a, b] t (0, 0)) ∧ Below w0.heap.size w0 ((W.setCell ⟨g, 0, none⟩ a).setCell ⟨g, 1, none⟩ b) :=
 ⟨blk_put (blk_set h 0 a) 1 b e, below_set (below_set hb hg) hg⟩
theorem far_box7 {W : World} {g i t : Nat} {cs : Array Value} (h : W.heap[i]? = some (.cells cs t (0, 0))) (n : i ≠ g) (a b : Value) : ((W.setCell ⟨g, 0, none⟩ a).setCell ⟨g, 1, none⟩ b).heap[i]? = some (.cells cs t (0, 0)) := blk_far (p := ⟨g, 1, none⟩) (blk_far (p := ⟨g, 0, none⟩) h n a) n b
theorem facts7 {wj w' : World} {ga gl k c : Nat} {y : VoyV} {B : Option Addr} {l : List Int} (hc : ∀ j v, (#[.int .i64 y.light, .int .i64 y.under, .int .i64 y.trim, .slice y.A3 y.holds.length y.c3, .int .i64 y.leaves, .slice y.A5 y.sills.length y.c5, .slice y.A6 y.lots.length y.c6] : Array Value)[j]? = some v → wj.cell? ⟨ga, k * 7 + j, none⟩ = some v) (hl : wj.cell? ⟨gl, k, none⟩ = some (.slice B l.length c)) (hb : Below wj.heap.size wj w') : w'.cell? ⟨ga, k * 7, none⟩ = some (.int .i64 y.light) ∧ w'.cell? ⟨ga, k * 7 + 1, none⟩ = some (.int .i64 y.under) ∧ w'.cell? ⟨ga, k * 7 + 2, none⟩ = some (.int .i64 y.trim) ∧ w'.cell? ⟨ga, k * 7 + 3, none⟩ = some (.slice y.A3 y.holds.length y.c3) ∧ w'.cell? ⟨ga, k * 7 + 4, none⟩ = some (.int .i64 y.leaves) ∧ w'.cell? ⟨ga, k * 7 + 5, none⟩ = some (.slice y.A5 y.sills.length y.c5) ∧ w'.cell? ⟨ga, k * 7 + 6, none⟩ = some (.slice y.A6 y.lots.length y.c6) ∧ w'.cell? ⟨gl, k, none⟩ = some (.slice B l.length c) := ⟨(hb.cell (World.block_lt_of_cell? _ _ (hc 0 _ rfl))).trans (hc 0 _ rfl), (hb.cell (World.block_lt_of_cell? _ _ (hc 1 _ rfl))).trans (hc 1 _ rfl), (hb.cell (World.block_lt_of_cell? _ _ (hc 2 _ rfl))).trans (hc 2 _ rfl), (hb.cell (World.block_lt_of_cell? _ _ (hc 3 _ rfl))).trans (hc 3 _ rfl), (hb.cell (World.block_lt_of_cell? _ _ (hc 4 _ rfl))).trans (hc 4 _ rfl), (hb.cell (World.block_lt_of_cell? _ _ (hc 5 _ rfl))).trans (hc 5 _ rfl), (hb.cell (World.block_lt_of_cell? _ _ (hc 6 _ rfl))).trans (hc 6 _ rfl), cb_y hb hl⟩
theorem pa_nil (a : Act) : putAll a [] = a := rfl
theorem pa_lit (l : List Value) (d : List Deferred) (i : Nat) (v : Value) (r : List (Tmp × Value)) : putAll { tmps := l.toArray, defers := d } ((i, v) :: r) = putAll { tmps := (l.set i v).toArray, defers := d } r := by simp [putAll, Act.put]
theorem act_eq7 {l l' : List Value} {d : List Deferred} (h : l = l') : ({ tmps := l.toArray, defers := d } : Act) = { tmps := l'.toArray, defers := d } := by rw [h]
theorem cons_eq7 {a : Value} {l l' : List Value} (h : l = l') : a :: l = a :: l' := by rw [h]
def drafts7.T13 : Bool × List (List Nat × List Nat) := (true, [([], []), ([], []), ([0, 1], [0, 1]), ([2], [2]), ([3], [3]), ([], []), ([], []), ([5, 6], [5, 6]), ([7], [7]), ([8, 4], [8]), ([], []), ([10, 4, 9, 0, 1, 2, 3, 4, 10], [4, 10]), ([9, 11, 0, 1, 2, 3, 4, 5, 6, 7, 8, 9, 10, 11], [9])])
def drafts7.B13 : List Nat := [0, 0, 3, 7, 15, 0, 0, 96, 224, 511, 0, 2047, 4095]
theorem drafts7.tab13 : rtab .any (opsOf Try.f7 13) = drafts7.T13 := by kernel_rfl
theorem drafts7.bits13 : waitsOk drafts7.T13.2 drafts7.B13 = true := by kernel_rfl
def drafts7.T15 : Bool × List (List Nat × List Nat) := (true, [([], []), ([], []), ([0, 1], [0, 1]), ([2], [2]), ([], []), ([], []), ([4, 5], [4, 5]), ([6], [6]), ([3, 7], [3, 7]), ([8], [8]), ([9], [9]), ([9], [9]), ([9], [9]), ([], []), ([], []), ([13, 10, 8, 0, 1, 2, 3, 4, 5, 6, 7, 8, 9, 10, 13, 14], [10, 13]), ([14, 11, 15, 0, 1, 2, 3, 4, 5, 6, 7, 8, 9, 10, 11, 13, 14, 15], [11, 14]), ([12, 16, 0, 1, 2, 3, 4, 5, 6, 7, 8, 9, 10, 11, 12, 13, 14, 15, 16], [12])])
def drafts7.B15 : List Nat := [0, 0, 3, 7, 0, 0, 48, 112, 255, 511, 1023, 1023, 1023, 0, 0, 26623, 61439, 131071]
theorem drafts7.tab15 : rtab .any (opsOf Try.f7 15) = drafts7.T15 := by kernel_rfl
theorem drafts7.bits15 : waitsOk drafts7.T15.2 drafts7.B15 = true := by kernel_rfl
def drafts7.T17 : Bool × List (List Nat × List Nat) := (true, [([], []), ([], []), ([0, 1], [0, 1]), ([2], [2]), ([], []), ([], []), ([4, 5], [4, 5]), ([6], [6]), ([3, 7], [3, 7]), ([8], [8]), ([9], [9]), ([9], [9]), ([9], [9]), ([], []), ([10, 8, 0, 1, 2, 3, 4, 5, 6, 7, 8, 9, 10, 13], [10]), ([13, 11, 14, 0, 1, 2, 3, 4, 5, 6, 7, 8, 9, 10, 11, 13, 14], [11, 13]), ([12, 15, 0, 1, 2, 3, 4, 5, 6, 7, 8, 9, 10, 11, 12, 13, 14, 15], [12])])
def drafts7.B17 : List Nat := [0, 0, 3, 7, 0, 0, 48, 112, 255, 511, 1023, 1023, 1023, 0, 10239, 28671, 65535]
theorem drafts7.tab17 : rtab .any (opsOf Try.f7 17) = drafts7.T17 := by kernel_rfl
theorem drafts7.bits17 : waitsOk drafts7.T17.2 drafts7.B17 = true := by kernel_rfl
def drafts7.T18 : Bool × List (List Nat × List Nat) := (true, [([], []), ([0], [0]), ([], []), ([], []), ([2, 3], [2, 3]), ([4], [4]), ([5, 1], [5]), ([1, 6], [1, 6]), ([7, 6], [7]), ([8], [8]), ([8], [8]), ([9, 10, 8, 8], [8, 9, 10]), ([8], [8]), ([8], [8]), ([12, 13, 8], [8, 12, 13]), ([14, 8], [8, 14]), ([8], [8]), ([8], [8]), ([16, 17, 8], [8, 16, 17]), ([18, 8], [8, 18]), ([15, 19, 11, 8], [8, 15, 19]), ([11, 20, 8], [8, 11, 20]), ([8, 21], [8, 21]), ([22, 20], [22]), ([23], [23]), ([23], [23]), ([24, 25, 23], [23, 24, 25]), ([23, 26], [23, 26]), ([27, 23], [27]), ([28], [28]), ([28], [28]), ([29, 30, 28], [28, 29, 30]), ([28, 31], [28, 31]), ([32, 28], [32]), ([33], [33]), ([33], [33]), ([34, 35, 33], [33, 34, 35]), ([33, 36], [33, 36]), ([37, 33], [37]), ([38], [38]), ([38], [38]), ([39, 40, 38], [38, 39, 40]), ([38, 41], [38, 41]), ([42, 38], [42]), ([43], [43]), ([43], [43]), ([44, 45, 43], [43, 44, 45]), ([43, 46], [43, 46]), ([47, 43], [47]), ([48], [48]), ([48], [48]), ([49, 50, 48], [48, 49, 50]), ([48, 51], [48, 51])])
def drafts7.B18 : List Nat := [0, 1, 0, 0, 12, 28, 63, 127, 255, 511, 511, 2047, 511, 511, 12799, 29183, 511, 511, 197119, 459263, 1048575, 2097151, 4194303, 8388607, 16777215, 16777215, 67108863, 134217727, 268435455, 536870911, 536870911, 2147483647, 4294967295, 8589934591, 17179869183, 17179869183, 68719476735, 137438953471, 274877906943, 549755813887, 549755813887, 2199023255551, 4398046511103, 8796093022207, 17592186044415, 17592186044415, 70368744177663, 140737488355327, 281474976710655, 562949953421311, 562949953421311, 2251799813685247, 4503599627370495]
theorem drafts7.tab18 : rtab .any (opsOf Try.f7 18) = drafts7.T18 := by kernel_rfl
theorem drafts7.bits18 : waitsOk drafts7.T18.2 drafts7.B18 = true := by kernel_rfl
def drafts7.T20 : Bool × List (List Nat × List Nat) := (true, [([], []), ([], []), ([], []), ([1, 2], [1, 2]), ([3], [3]), ([0, 4], [0, 4]), ([5], [5]), ([6, 5], [6]), ([7], [7]), ([7], [7]), ([7], [7]), ([9, 10, 7], [7, 9, 10]), ([11, 7], [7, 11]), ([8, 12, 7, 7], [7, 8, 12]), ([13, 7], [7, 13]), ([7, 14], [7, 14])])
def drafts7.B20 : List Nat := [0, 0, 0, 6, 14, 31, 63, 127, 255, 255, 255, 1791, 3839, 8191, 16383, 32767]
theorem drafts7.tab20 : rtab .any (opsOf Try.f7 20) = drafts7.T20 := by kernel_rfl
theorem drafts7.bits20 : waitsOk drafts7.T20.2 drafts7.B20 = true := by kernel_rfl
set_option maxHeartbeats 8000000 in
set_option maxRecDepth 100000 in
theorem drafts_wide (x : VoyV) (Ag : Option Addr) (cg : Nat) (sg : List Int) (at_ hold : Int) (A1 : Option Addr) (c1 : Nat) (l1 : List Int) (w : World) (hx : x.Ok w) (hrg : Kd.C (Kd.int .i64) w Ag sg.length sg) (hcg : sg.length ≤ cg) {kw ka : Nat} {wd_ : Bool} (hw : swarflaw07_wide.f kw x.light x.under x.trim x.holds x.leaves x.sills x.lots = some wd_) (hwide : wd_ = true ∨ wd_ = false ∧ (sg.length : Int) > 20) (haw : swarflaw07_awake.f ka = some true) :
  Calls Try.prog 7 #[.agg #[.int .i64 x.light, .int .i64 x.under, .int .i64 x.trim, .slice x.A3 x.holds.length x.c3, .int .i64 x.leaves, .slice x.A5 x.sills.length x.c5, .slice x.A6 x.lots.length x.c6], .slice Ag sg.length cg, .int .i64 at_, .int .i64 hold, .slice A1 l1.length c1] w fun e w' => e = .returned (.bool true) ∧ Below w.heap.size w w' := by
 have hu26 := Try.underlying26
 have hu56 := Try.underlying56
 have HX := Aside0.mk hx
 have HRG := Aside0.mk hrg
 have HWD := Aside0.mk hw
 have HAW := Aside0.mk haw
 clear hx hrg hw haw
 go_enter Try.func7, Try.ntmps7
 go_wp2_with (first | (refine box_r (N := 5) rfl (cs := #[.int .i64 x.light, .int .i64 x.under, .int .i64 x.trim, .slice x.A3 x.holds.length x.c3, .int .i64 x.leaves, .slice x.A5 x.sills.length x.c5, .slice x.A6 x.lots.length x.c6]) (t := 26) ?_; intro gx hg w2 hbox hb2; have BK := Aside0.mk hbox; have HB := Aside0.mk hb2; clear hg hbox hb2; have hz0_ := (blk_cell BK.out 0).trans rfl; have hz1_ := (blk_cell BK.out 1).trans rfl; have hz2_ := (blk_cell BK.out 2).trans rfl; have hz3_ := (blk_cell BK.out 3).trans rfl; have hz4_ := (blk_cell BK.out 4).trans rfl; have hz5_ := (blk_cell BK.out 5).trans rfl; have hz6_ := (blk_cell BK.out 6).trans rfl))
 refine (swarflaw07_wide.calls kw x.light x.under x.trim x.A3 x.c3 x.holds x.leaves x.A5 x.c5 x.sills x.A6 x.c6 x.lots wd_ w2 (HX.out.below HB.out).h (HX.out.below HB.out).hc (HX.out.below HB.out).s (HX.out.below HB.out).sc (HX.out.below HB.out).l (HX.out.below HB.out).lc HWD.out).mono ?_
 rintro e w3 ⟨rfl, hb_⟩
 replace BK := Aside0.mk (blk_below BK.out hb_)
 replace HB := Aside0.mk (below_step HB.out hb_)
 clear hb_ hz0_ hz1_ hz2_ hz3_ hz4_ hz5_ hz6_
 rcases hwide with rfl | ⟨rfl, hlg⟩
 all_goals
  go_wp2_with (fail)
  refine (swarflaw07_awake.calls ka true _ HAW.out).mono ?_; rintro e z4 ⟨rfl, hb_⟩; replace HB := Aside0.mk (below_step HB.out hb_); clear hb_; go_wp2; go_ret; exact ⟨rfl, HB.out⟩
set_option maxHeartbeats 8000000 in
set_option maxRecDepth 100000 in
theorem drafts_walk (x : VoyV) (Ag : Option Addr) (cg : Nat) (sg : List Int) (at_ hold : Int) (A1 : Option Addr) (c1 : Nat) (l1 : List Int) (w : World) (hx : x.Ok w) (hrg : Kd.C (Kd.int .i64) w Ag sg.length sg) (hcg : sg.length ≤ cg) (hr1 : Kd.C (Kd.int .i64) w A1 l1.length l1) (hc1 : l1.length ≤ c1) {fd T s1 s2 s3 mL mU mR mV : Int} {kv ks : Nat} {mh : List S85} {ms : List S59} {ml : List S79} {st : List Int} {ot : List Int} {kw ka : Nat} (hw : swarflaw07_wide.f kw x.light x.under x.trim x.holds x.leaves x.sills x.lots = some false) (hlg : ¬ (sg.length : Int) > 20) (hf : swarfkit_FeedOf.f l1 = some fd) (he : swarfkit_Feed_Either.f fd [4, 30] = some (T, s1)) (hv : swarfkit_VoyageOf.f kv s1 3 2 5 T = some (mL, mU, mR, mh, mV, ms, ml, s2)) (hs : swarfkit_StowageOf.f ks s2 mL mU mR mh mV ms ml = some (st, s3))
  (hi0 : swarfkit_Ints.f st = some st) (hot : ((st.length : Int) = 0 ∧ ot = st) ∨ (∃ r : Nat, r < st.length ∧ swarfkit_Round.f at_ (st.length : Int) = some (r : Int) ∧ ot = st.set r hold))
  (hq1 : DraftQ x.light x.under x.trim x.holds x.leaves x.sills x.lots sg) (hq2 : DraftQ mL mU mR mh mV ms ml st) (hq3 : DraftQ mL mU mR mh mV ms ml ot) (hq4 : DraftQ mL mU mR mh mV ms ml sg) (haw : swarflaw07_awake.f ka = some true) :
  Calls Try.prog 7 #[.agg #[.int .i64 x.light, .int .i64 x.under, .int .i64 x.trim, .slice x.A3 x.holds.length x.c3, .int .i64 x.leaves, .slice x.A5 x.sills.length x.c5, .slice x.A6 x.lots.length x.c6], .slice Ag sg.length cg, .int .i64 at_, .int .i64 hold, .slice A1 l1.length c1] w fun e w' => e = .returned (.bool true) ∧ Below w.heap.size w w' := by
 obtain ⟨wd_, hwd_⟩ : ∃ b : Bool, b = false := ⟨_, rfl⟩
 rw [← hwd_] at hw
 have HR1 := Aside0.mk hr1
 have HF := Aside0.mk hf
 have HE := Aside0.mk he
 have HV := Aside0.mk hv
 have HS := Aside0.mk hs
 have HI0 := Aside0.mk hi0
 have HOT := Aside0.mk hot
 have HQ1 := Aside0.mk hq1
 have HQ2 := Aside0.mk hq2
 have HQ3 := Aside0.mk hq3
 have HQ4 := Aside0.mk hq4
 clear hr1 hf he hv hs hq1 hq2 hq3 hq4 hi0 hot
 have hu26 := Try.underlying26
 have hu56 := Try.underlying56
 have HX := Aside0.mk hx
 have HRG := Aside0.mk hrg
 have HWD := Aside0.mk hw
 have HAW := Aside0.mk haw
 clear hx hrg hw haw
 go_enter Try.func7, Try.ntmps7
 go_wp2_with (first | (refine box_r (N := 5) rfl (cs := #[.int .i64 x.light, .int .i64 x.under, .int .i64 x.trim, .slice x.A3 x.holds.length x.c3, .int .i64 x.leaves, .slice x.A5 x.sills.length x.c5, .slice x.A6 x.lots.length x.c6]) (t := 26) ?_; intro gx hg w2 hbox hb2; have BK := Aside0.mk hbox; have HB := Aside0.mk hb2; clear hg hbox hb2; have hz0_ := (blk_cell BK.out 0).trans rfl; have hz1_ := (blk_cell BK.out 1).trans rfl; have hz2_ := (blk_cell BK.out 2).trans rfl; have hz3_ := (blk_cell BK.out 3).trans rfl; have hz4_ := (blk_cell BK.out 4).trans rfl; have hz5_ := (blk_cell BK.out 5).trans rfl; have hz6_ := (blk_cell BK.out 6).trans rfl))
 refine (swarflaw07_wide.calls kw x.light x.under x.trim x.A3 x.c3 x.holds x.leaves x.A5 x.c5 x.sills x.A6 x.c6 x.lots wd_ w2 (HX.out.below HB.out).h (HX.out.below HB.out).hc (HX.out.below HB.out).s (HX.out.below HB.out).sc (HX.out.below HB.out).l (HX.out.below HB.out).lc HWD.out).mono ?_
 rintro e w3 ⟨rfl, hb_⟩
 replace BK := Aside0.mk (blk_below BK.out hb_)
 replace HB := Aside0.mk (below_step HB.out hb_)
 clear hb_ hz0_ hz1_ hz2_ hz3_ hz4_ hz5_ hz6_
 subst hwd_
 go_wp2_with (fail)
 refine (swarfkit_FeedOf.calls A1 c1 l1 fd w _ HB.out HR1.out hc1 HF.out).mono ?_
 rintro e w4 ⟨g, rfl, hi_, hb_, hk_⟩
 replace BK := Aside0.mk (blk_below BK.out hk_)
 have HI := Aside0.mk hi_
 replace HB := Aside0.mk hb_
 clear hi_ hb_ hk_
 go_wp2_with ((with_reducible refine gate_dst (N := 44) rfl ?_); refine Kd.R_lit (Kd.int .i64) _ 3 ?hg (N := 44) ?hd (xs := ([4, 30] : List Int)) (inner := [.int .i64 4, .int .i64 30]) (ok := fun _ => True) (okp := fun _ => True) ?hr ?hp (fun _ hk => hk) trivial (Below.refl _ _) (Nat.le_refl _) (by simp) ?_; (case hd => rfl); (case hg => rfl); (case hr => first | (go_simp; done) | (go_simp; rfl)); (case hp => exact (Reps.one (show Kd.M (Kd.int .i64) _ _ _ 4 [.int .i64 4] from rfl) (Reps.one (show Kd.M (Kd.int .i64) _ _ _ 30 [.int .i64 30] from rfl) (Reps.none _ _)))); intro vl w5 ho_ hb_ hg_ hnew_; obtain ⟨Al, cl, rfl⟩ := Kd.R_slice ho_; have RL := Aside0.mk ho_; have HFL := Aside0.mk (show ∀ ad, Al = some ad → 0 < [(4 : Int), 30].length → ad.block ≠ g from fun ad ha _ => by subst ha; have h1 := HI.out.lt; have h2 := Kd.R_base ho_ ad.block (by simp [Value.ownBlock]); omega); replace BK := Aside0.mk (blk_below BK.out hb_); replace HI := Aside0.mk (IsS90.below HI.out hb_); replace HB := Aside0.mk (below_step HB.out hb_); clear ho_ hb_ hg_ hnew_)
 refine (swarfkit_Feed_Either.calls g fd Al cl [4, 30] T s1 w w5 HI.out HB.out (Kd.R_reads' RL.out).2.2 (Kd.R_reads' RL.out).2.1 HFL.out HE.out).mono ?_
 rintro e w6 ⟨rfl, hi_, hb_, hk_⟩
 replace BK := Aside0.mk (blk_kb BK.out hk_ (IsS90.ne_blk HI.out BK.out (by decide)).symm)
 replace HI := Aside0.mk hi_
 replace HB := Aside0.mk hb_
 clear hi_ hb_ hk_ RL HFL
 go_wp2_with (fail)
 refine (swarfkit_VoyageOf.calls kv g s1 3 2 5 T mL mU mR mh mV ms ml s2 w w6 HI.out HB.out HV.out).mono ?_
 rintro e w7 ⟨v3, v5, v6, rfl, ho3, ho5, ho6, hi_, hb_, hk_⟩
 obtain ⟨M3, d3, rfl⟩ := Kd.R_slice ho3
 obtain ⟨M5, d5, rfl⟩ := Kd.S_slice ho5
 obtain ⟨M6, d6, rfl⟩ := Kd.R_slice ho6
 obtain ⟨Nv, hNv⟩ : ∃ n, n = w6.heap.size := ⟨_, rfl⟩
 have GNv : Aside0 (g < Nv) := ⟨by rw [hNv]; exact HI.out.lt⟩
 rw [← hNv] at ho3 ho5 ho6
 replace BK := Aside0.mk (blk_kb BK.out hk_ (IsS90.ne_blk HI.out BK.out (by decide)).symm)
 replace HI := Aside0.mk hi_
 replace HB := Aside0.mk hb_
 have R3 := Aside0.mk ho3
 have R5 := Aside0.mk ho5
 have R6 := Aside0.mk ho6
 clear hi_ hb_ hk_ ho3 ho5 ho6 hNv
 go_upto_region 5 with (fail)
 obtain ⟨g8, hg_⟩ : ∃ b, b = w7.heap.size := ⟨_, rfl⟩
 have B8 := Aside0.mk (blk_new w7 (.cells #[.int .i64 mL, .int .i64 mU, .int .i64 mR, .slice M3 mh.length d3, .int .i64 mV, .slice M5 ms.length d5, .slice M6 ml.length d6] 26 (0, 0)))
 have hbw : Below w7.heap.size w7 (w7.alloc (.cells #[.int .i64 mL, .int .i64 mU, .int .i64 mR, .slice M3 mh.length d3, .int .i64 mV, .slice M5 ms.length d5, .slice M6 ml.length d6] 26 (0, 0))) := below_alloc (Below.refl _ _) _
 have hgs_ : w.heap.size ≤ g8 := by rw [hg_]; exact HB.out.size
 generalize hw_ : w7.alloc (.cells #[.int .i64 mL, .int .i64 mU, .int .i64 mR, .slice M3 mh.length d3, .int .i64 mV, .slice M5 ms.length d5, .slice M6 ml.length d6] 26 (0, 0)) = w8 at *
 rw [← hg_] at B8 ⊢
 replace BK := Aside0.mk (blk_below BK.out hbw)
 replace R3 := Aside0.mk (Kd.R_below R3.out hbw)
 replace R6 := Aside0.mk (Kd.R_below R6.out hbw)
 replace R5 := Aside0.mk (Kd.S_below R5.out hbw)
 replace HI := Aside0.mk (IsS90.below HI.out hbw)
 replace HB := Aside0.mk (below_step HB.out hbw)
 have GEg8 : Aside0 (w.heap.size ≤ g8) := ⟨hgs_⟩
 clear hbw hw_ hg_ hgs_
 have hz0_ := (blk_cell B8.out 0).trans rfl
 have hz1_ := (blk_cell B8.out 1).trans rfl
 have hz2_ := (blk_cell B8.out 2).trans rfl
 have hz3_ := (blk_cell B8.out 3).trans rfl
 have hz4_ := (blk_cell B8.out 4).trans rfl
 have hz5_ := (blk_cell B8.out 5).trans rfl
 have hz6_ := (blk_cell B8.out 6).trans rfl
 go_wp2_with (fail)
 refine (swarfkit_StowageOf.calls ks g s2 mL mU mR M3 d3 mh mV M5 d5 ms M6 d6 ml st s3 w w8 HI.out HB.out (fun W_ hk_ => (Kd.R_reads' (R_kb R3.out hk_ GNv.out)).2.2) (Kd.R_reads' R3.out).2.1 (fun W_ hk_ => (Kd.S_reads' (S_kb R5.out hk_ GNv.out)).2.2) (Kd.S_reads' R5.out).2.1 (fun W_ hk_ => (Kd.R_reads' (R_kb R6.out hk_ GNv.out)).2.2) (Kd.R_reads' R6.out).2.1 HS.out).mono ?_
 rintro e w9 ⟨vs, rfl, hos_, hi_, hb_, hk_⟩
 obtain ⟨As, cs, rfl⟩ := Kd.R_slice hos_
 replace BK := Aside0.mk (blk_kb BK.out hk_ (IsS90.ne_blk HI.out BK.out (by decide)).symm)
 replace B8 := Aside0.mk (blk_kb B8.out hk_ (IsS90.ne_blk HI.out B8.out (by decide)).symm)
 replace R3 := Aside0.mk (R_kb R3.out hk_ GNv.out)
 replace R6 := Aside0.mk (R_kb R6.out hk_ GNv.out)
 replace R5 := Aside0.mk (S_kb R5.out hk_ GNv.out)
 replace HI := Aside0.mk hi_
 replace HB := Aside0.mk hb_
 clear hz0_ hz1_ hz2_ hz3_ hz4_ hz5_ hz6_
 have RS := Aside0.mk (Kd.R_reads' hos_).2.2
 have LS := Aside0.mk (Kd.R_reads' hos_).2.1
 clear hos_ hi_ hb_ hk_
 go_wp2_with (fail)
 refine (swarfkit_Ints.calls As cs st st w9 RS.out LS.out HI0.out).mono ?_
 rintro e w10 ⟨vo_, rfl, ho_, hb_⟩
 obtain ⟨Ao, co, rfl⟩ := Kd.R_slice ho_
 have RO := Aside0.mk ho_
 have H9 := Aside0.mk hb_
 clear ho_ hb_
 go_upto_if 54 with (fail)
 go_cut [14] (fun v14 wc => v14 = .slice Ao st.length co ∧ Aside0 (Kd.R (Kd.int .i64) 3 wc w9.heap.size (fun _ => True) (.slice Ao ot.length co) ot) ∧ Aside0 (Below w9.heap.size w9 wc) ∧ Aside0 (ot.length = st.length))
 case first =>
  rcases HOT.out with ⟨h0_, rfl⟩ | ⟨r, hr_, hrd_, rfl⟩
  ·
   have hd_ : decide (0 < ot.length) = false := decide_eq_false (by omega); go_wp2; go_meet
   case rel => exact ⟨rfl, RO, H9, ⟨by simp⟩⟩
  ·
   have hd_ : decide (0 < st.length) = true := decide_eq_true (by omega); have HRD := Aside0.mk hrd_; clear hrd_; obtain ⟨go, co', e_, hgo_, _, _⟩ := Kd.R_form RO.out (by omega); injection e_ with ea_ en_ ec_; subst ea_ ec_; clear en_; obtain ⟨hx_, hf_⟩ := Kd.R_celln 0 RO.out (r : Int) (by omega) (by omega); rw [Int.toNat_natCast] at hx_ hf_
   go_wp2_with (go_at_call 34; refine (swarfkit_Round.calls at_ st.length r _ HRD.out).mono ?_; rintro e w11 ⟨rfl, ⟨nd_, rfl⟩⟩)
   go_meet
   case rel =>
    have HP := Kd.R_putn (Kd.R_drewN RO.out nd_) (r : Int) hold; rw [Int.toNat_natCast] at HP; (have hl_ : (st.set r hold).length = st.length := by simp); rw [← hl_] at HP; exact ⟨rfl, ⟨HP⟩, ⟨below_set (pw_below_drewN H9.out nd_) hgo_⟩, ⟨by simp⟩⟩
 case rest =>
  obtain ⟨rfl, RO, hbc_, LO⟩ := hcut; have hb_ := hbc_.out; clear hbc_; replace BK := Aside0.mk (blk_below BK.out hb_); replace B8 := Aside0.mk (blk_below B8.out hb_); replace R3 := Aside0.mk (Kd.R_below R3.out hb_); replace R6 := Aside0.mk (Kd.R_below R6.out hb_); replace R5 := Aside0.mk (Kd.S_below R5.out hb_); replace RS := Aside0.mk (Kd.C_below RS.out hb_); replace HI := Aside0.mk (IsS90.below HI.out hb_); replace HB := Aside0.mk (below_step HB.out hb_); clear hb_ H9; have LRO := Aside0.mk (Kd.R_reads' RO.out).2.1; replace RO := Aside0.mk (Kd.R_reads' RO.out).2.2; have hz0_ := (blk_cell BK.out 0).trans rfl; have hz1_ := (blk_cell BK.out 1).trans rfl; have hz2_ := (blk_cell BK.out 2).trans rfl; have hz3_ := (blk_cell BK.out 3).trans rfl; have hz4_ := (blk_cell BK.out 4).trans rfl; have hz5_ := (blk_cell BK.out 5).trans rfl; have hz6_ := (blk_cell BK.out 6).trans rfl; have hy0_ := (blk_cell B8.out 0).trans rfl; have hy1_ := (blk_cell B8.out 1).trans rfl; have hy2_ := (blk_cell B8.out 2).trans rfl; have hy3_ := (blk_cell B8.out 3).trans rfl; have hy4_ := (blk_cell B8.out 4).trans rfl; have hy5_ := (blk_cell B8.out 5).trans rfl; have hy6_ := (blk_cell B8.out 6).trans rfl
  go_upto_region 10 with (fail)
  obtain ⟨ga, hg_⟩ : ∃ b, b = wc.heap.size := ⟨_, rfl⟩; obtain ⟨gl, hgq_⟩ : ∃ b, b = wc.heap.size + 1 := ⟨_, rfl⟩; have BA := Aside0.mk (blk_below (blk_new wc (.cells #[.int .i64 x.light, .int .i64 x.under, .int .i64 x.trim, .slice x.A3 x.holds.length x.c3, .int .i64 x.leaves, .slice x.A5 x.sills.length x.c5, .slice x.A6 x.lots.length x.c6, .int .i64 mL, .int .i64 mU, .int .i64 mR, .slice M3 mh.length d3, .int .i64 mV, .slice M5 ms.length d5, .slice M6 ml.length d6, .int .i64 mL, .int .i64 mU, .int .i64 mR, .slice M3 mh.length d3, .int .i64 mV, .slice M5 ms.length d5, .slice M6 ml.length d6, .int .i64 mL, .int .i64 mU, .int .i64 mR, .slice M3 mh.length d3, .int .i64 mV, .slice M5 ms.length d5, .slice M6 ml.length d6] 26 (0, 0))) (below_alloc (Below.refl _ _) (.cells #[.slice Ag sg.length cg, .slice As st.length cs, .slice Ao st.length co, .slice Ag sg.length cg] 27 (0, 0)))); have BL := Aside0.mk (show ((wc.alloc (.cells #[.int .i64 x.light, .int .i64 x.under, .int .i64 x.trim, .slice x.A3 x.holds.length x.c3, .int .i64 x.leaves, .slice x.A5 x.sills.length x.c5, .slice x.A6 x.lots.length x.c6, .int .i64 mL, .int .i64 mU, .int .i64 mR, .slice M3 mh.length d3, .int .i64 mV, .slice M5 ms.length d5, .slice M6 ml.length d6, .int .i64 mL, .int .i64 mU, .int .i64 mR, .slice M3 mh.length d3, .int .i64 mV, .slice M5 ms.length d5, .slice M6 ml.length d6, .int .i64 mL, .int .i64 mU, .int .i64 mR, .slice M3 mh.length d3, .int .i64 mV, .slice M5 ms.length d5, .slice M6 ml.length d6] 26 (0, 0))).alloc (.cells #[.slice Ag sg.length cg, .slice As st.length cs, .slice Ao st.length co, .slice Ag sg.length cg] 27 (0, 0))).heap[wc.heap.size + 1]? = some (.cells #[.slice Ag sg.length cg, .slice As st.length cs, .slice Ao st.length co, .slice Ag sg.length cg] 27 (0, 0)) from by have h_ := blk_new (wc.alloc (.cells #[.int .i64 x.light, .int .i64 x.under, .int .i64 x.trim, .slice x.A3 x.holds.length x.c3, .int .i64 x.leaves, .slice x.A5 x.sills.length x.c5, .slice x.A6 x.lots.length x.c6, .int .i64 mL, .int .i64 mU, .int .i64 mR, .slice M3 mh.length d3, .int .i64 mV, .slice M5 ms.length d5, .slice M6 ml.length d6, .int .i64 mL, .int .i64 mU, .int .i64 mR, .slice M3 mh.length d3, .int .i64 mV, .slice M5 ms.length d5, .slice M6 ml.length d6, .int .i64 mL, .int .i64 mU, .int .i64 mR, .slice M3 mh.length d3, .int .i64 mV, .slice M5 ms.length d5, .slice M6 ml.length d6] 26 (0, 0))) (.cells #[.slice Ag sg.length cg, .slice As st.length cs, .slice Ao st.length co, .slice Ag sg.length cg] 27 (0, 0)); rw [show (wc.alloc (.cells #[.int .i64 x.light, .int .i64 x.under, .int .i64 x.trim, .slice x.A3 x.holds.length x.c3, .int .i64 x.leaves, .slice x.A5 x.sills.length x.c5, .slice x.A6 x.lots.length x.c6, .int .i64 mL, .int .i64 mU, .int .i64 mR, .slice M3 mh.length d3, .int .i64 mV, .slice M5 ms.length d5, .slice M6 ml.length d6, .int .i64 mL, .int .i64 mU, .int .i64 mR, .slice M3 mh.length d3, .int .i64 mV, .slice M5 ms.length d5, .slice M6 ml.length d6, .int .i64 mL, .int .i64 mU, .int .i64 mR, .slice M3 mh.length d3, .int .i64 mV, .slice M5 ms.length d5, .slice M6 ml.length d6] 26 (0, 0))).heap.size = wc.heap.size + 1 by simp] at h_; exact h_); have hbw : Below wc.heap.size wc ((wc.alloc (.cells #[.int .i64 x.light, .int .i64 x.under, .int .i64 x.trim, .slice x.A3 x.holds.length x.c3, .int .i64 x.leaves, .slice x.A5 x.sills.length x.c5, .slice x.A6 x.lots.length x.c6, .int .i64 mL, .int .i64 mU, .int .i64 mR, .slice M3 mh.length d3, .int .i64 mV, .slice M5 ms.length d5, .slice M6 ml.length d6, .int .i64 mL, .int .i64 mU, .int .i64 mR, .slice M3 mh.length d3, .int .i64 mV, .slice M5 ms.length d5, .slice M6 ml.length d6, .int .i64 mL, .int .i64 mU, .int .i64 mR, .slice M3 mh.length d3, .int .i64 mV, .slice M5 ms.length d5, .slice M6 ml.length d6] 26 (0, 0))).alloc (.cells #[.slice Ag sg.length cg, .slice As st.length cs, .slice Ao st.length co, .slice Ag sg.length cg] 27 (0, 0))) := below_alloc (below_alloc (Below.refl _ _) _) _; (have hgs_ : w.heap.size ≤ ga ∧ w.heap.size ≤ gl := by rw [hg_, hgq_]; have := HB.out.size; omega); generalize hw_ : (wc.alloc (.cells #[.int .i64 x.light, .int .i64 x.under, .int .i64 x.trim, .slice x.A3 x.holds.length x.c3, .int .i64 x.leaves, .slice x.A5 x.sills.length x.c5, .slice x.A6 x.lots.length x.c6, .int .i64 mL, .int .i64 mU, .int .i64 mR, .slice M3 mh.length d3, .int .i64 mV, .slice M5 ms.length d5, .slice M6 ml.length d6, .int .i64 mL, .int .i64 mU, .int .i64 mR, .slice M3 mh.length d3, .int .i64 mV, .slice M5 ms.length d5, .slice M6 ml.length d6, .int .i64 mL, .int .i64 mU, .int .i64 mR, .slice M3 mh.length d3, .int .i64 mV, .slice M5 ms.length d5, .slice M6 ml.length d6] 26 (0, 0))).alloc (.cells #[.slice Ag sg.length cg, .slice As st.length cs, .slice Ao st.length co, .slice Ag sg.length cg] 27 (0, 0)) = wj at *; rw [← hgq_, ← hg_]; rw [← hgq_] at BL; rw [← hg_] at BA; replace BK := Aside0.mk (blk_below BK.out hbw); replace B8 := Aside0.mk (blk_below B8.out hbw); replace R3 := Aside0.mk (Kd.R_below R3.out hbw); replace R6 := Aside0.mk (Kd.R_below R6.out hbw); replace R5 := Aside0.mk (Kd.S_below R5.out hbw); replace RS := Aside0.mk (Kd.C_below RS.out hbw); replace RO := Aside0.mk (Kd.C_below RO.out hbw); replace HI := Aside0.mk (IsS90.below HI.out hbw); replace HB := Aside0.mk (below_step HB.out hbw); have GEga : Aside0 (w.heap.size ≤ ga) := ⟨hgs_.1⟩; have GEgl : Aside0 (w.heap.size ≤ gl) := ⟨hgs_.2⟩; clear hbw hw_ hg_ hgq_ hgs_ hz0_ hz1_ hz2_ hz3_ hz4_ hz5_ hz6_ hy0_ hy1_ hy2_ hy3_ hy4_ hy5_ hy6_; go_wp2
  have HEE : Aside0 (∀ k : Nat, k < 4 → ∃ (y : VoyV) (B : Option Addr) (c : Nat) (l : List Int), y.Ok wj ∧ Kd.C (Kd.int .i64) wj B l.length l ∧ l.length ≤ c ∧ DraftQ y.light y.under y.trim y.holds y.leaves y.sills y.lots l ∧ (∀ j v, (#[.int .i64 y.light, .int .i64 y.under, .int .i64 y.trim, .slice y.A3 y.holds.length y.c3, .int .i64 y.leaves, .slice y.A5 y.sills.length y.c5, .slice y.A6 y.lots.length y.c6] : Array Value)[j]? = some v → wj.cell? ⟨ga, k * 7 + j, none⟩ = some v) ∧ wj.cell? ⟨gl, k, none⟩ = some (.slice B l.length c)) := by
   have hr1 := Kd.C_below HRG.out HB.out; have hx1 := HX.out.below HB.out; have hm1 : (⟨mL, mU, mR, M3, d3, mh, mV, M5, d5, ms, M6, d6, ml⟩ : VoyV).Ok wj := ⟨(Kd.R_reads' R3.out).2.2, (Kd.R_reads' R3.out).2.1, (Kd.S_reads' R5.out).2.2, (Kd.S_reads' R5.out).2.1, (Kd.R_reads' R6.out).2.2, (Kd.R_reads' R6.out).2.1⟩; refine ⟨fun k hk => ?_⟩; rcases k with _ | _ | _ | _ | k
   ·
    refine ⟨x, Ag, cg, sg, hx1, hr1, hcg, HQ1.out, cells_at7 BA.out _ _ (fun j v hj => ?_), (blk_cell BL.out 0).trans rfl⟩; rcases j with _ | _ | _ | _ | _ | _ | _ | j <;> first | exact hj | (simp at hj)
   ·
    refine ⟨(⟨mL, mU, mR, M3, d3, mh, mV, M5, d5, ms, M6, d6, ml⟩ : VoyV), As, cs, st, hm1, RS.out, LS.out, HQ2.out, cells_at7 BA.out _ _ (fun j v hj => ?_), (blk_cell BL.out 1).trans rfl⟩; rcases j with _ | _ | _ | _ | _ | _ | _ | j <;> first | exact hj | (simp at hj)
   ·
    refine ⟨(⟨mL, mU, mR, M3, d3, mh, mV, M5, d5, ms, M6, d6, ml⟩ : VoyV), Ao, co, ot, hm1, RO.out, LRO.out, HQ3.out, cells_at7 BA.out _ _ (fun j v hj => ?_), (blk_cell BL.out 2).trans (by rw [LO.out]; rfl)⟩; rcases j with _ | _ | _ | _ | _ | _ | _ | j <;> first | exact hj | (simp at hj)
   ·
    refine ⟨(⟨mL, mU, mR, M3, d3, mh, mV, M5, d5, ms, M6, d6, ml⟩ : VoyV), Ag, cg, sg, hm1, hr1, hcg, HQ4.out, cells_at7 BA.out _ _ (fun j v hj => ?_), (blk_cell BL.out 3).trans rfl⟩; rcases j with _ | _ | _ | _ | _ | _ | _ | j <;> first | exact hj | (simp at hj)
   ·
    omega
  have HBj := HB; clear BA BL B8 BK R3 R5 R6 RO RS LO LS LRO HI HQ1 HQ2 HQ3 HQ4 HB HF HE HV HS HI0 HOT HX HR1
  go_loopg [17] 4 (fun gk v17 wr => ∃ k : Nat, k ≤ 4 ∧ 4 - k ≤ gk ∧ v17 = .int .i64 k ∧ Aside0 (Below wj.heap.size wj wr))
  case atStart => exact ⟨0, by omega, by omega, rfl, ⟨Below.refl _ _⟩⟩
  case round =>
   obtain ⟨k, hk, hgk, rfl, HBr⟩ := hrel; by_cases hlt : k < 4
   ·
    obtain ⟨y, B, c, l, hy, hr, hc, hq, hcells, hcl⟩ := HEE.out k hlt; (have hlz : (k : Int) < 4 := by omega); obtain ⟨qc, qi, ⟨da, db, dc, dd, de, dk, qd1, qd2⟩, ⟨lp, la, lb, le, lk, lj, ql1, ql2⟩, ⟨ce, ck, cj, qk1, qk2⟩, ⟨se, sk, sj, qs1, qs2⟩, qv, kn, qn⟩ := hq; have QC := Aside0.mk qc; have QI := Aside0.mk qi; have QD1 := Aside0.mk qd1; have QD2 := Aside0.mk qd2; have QL1 := Aside0.mk ql1; have QL2 := Aside0.mk ql2; have QK1 := Aside0.mk qk1; have QK2 := Aside0.mk qk2; have QS1 := Aside0.mk qs1; have QS2 := Aside0.mk qs2; have QV := Aside0.mk qv; have QN := Aside0.mk qn; have YO := Aside0.mk hy; have RB := Aside0.mk hr; have CE := Aside0.mk hcells; have CL := Aside0.mk hcl; clear hy hr hcells hcl qc qi qd1 qd2 ql1 ql2 qk1 qk2 qs1 qs2 qv qn
    go_upto_region 13 with (fail)
    have hd_ := below_drew1 (Below.refl wr.heap.size wr); replace HBr := Aside0.mk (below_step HBr.out hd_); clear hd_; have F_ := facts7 (w' := wr.drew) CE.out CL.out HBr.out; refine start_ (n := 13) (S := fun w' => w'.cell? ⟨ga, k * 7, none⟩ = some (.int .i64 y.light) ∧ w'.cell? ⟨ga, k * 7 + 1, none⟩ = some (.int .i64 y.under) ∧ w'.cell? ⟨ga, k * 7 + 2, none⟩ = some (.int .i64 y.trim) ∧ w'.cell? ⟨ga, k * 7 + 3, none⟩ = some (.slice y.A3 y.holds.length y.c3) ∧ w'.cell? ⟨ga, k * 7 + 4, none⟩ = some (.int .i64 y.leaves) ∧ w'.cell? ⟨ga, k * 7 + 5, none⟩ = some (.slice y.A5 y.sills.length y.c5) ∧ w'.cell? ⟨ga, k * 7 + 6, none⟩ = some (.slice y.A6 y.lots.length y.c6) ∧ w'.cell? ⟨gl, k, none⟩ = some (.slice B l.length c)) (ds := [11]) #[false, false, false, false, false, false, false, false, false, false, false, false, false] (by kernel_rfl) rfl rfl ⟨F_.1, F_.2.1, F_.2.2.1, F_.2.2.2.1, F_.2.2.2.2.1, F_.2.2.2.2.2.1, F_.2.2.2.2.2.2.1, F_.2.2.2.2.2.2.2⟩ (fun hHeld => ?_); generalize wr.drew = wd at HBr hHeld ⊢; refine with_tabW drafts7.tab13 drafts7.bits13 (fun HT_ HW_ => ?_); refine pure_p 0 (some 78) (bz 13 1) HT_ ?_; refine pure_p 1 (some 79) (bz 13 3) HT_ ?_; refine pure_p 2 (some 80) (bz 13 7) HT_ ?_; refine pure_p 5 (some 83) (bz 13 39) HT_ ?_; refine pure_p 6 (some 84) (bz 13 103) HT_ ?_; refine pure_p 7 (some 85) (bz 13 231) HT_ ?_; refine take_p 3 (some 81) (bz 13 239) HT_ HW_ hHeld ?_; refine take_p 8 (some 86) (bz 13 495) HT_ HW_ hHeld ?_; refine join_ (σ := Nat × Option Addr × Nat × Option Addr × Nat × Option Addr × Nat × Option Addr × Nat) 2 (bz 13 2047) (fun s_ => [(18, .pointer (some ⟨s_.1, 0, none⟩)), (82, .agg #[.int .i64 y.light, .int .i64 y.under, .int .i64 y.trim, .slice s_.2.1 y.holds.length s_.2.2.1, .int .i64 y.leaves, .slice s_.2.2.2.1 y.sills.length s_.2.2.2.2.1, .slice s_.2.2.2.2.2.1 y.lots.length s_.2.2.2.2.2.2.1]), (87, .slice s_.2.2.2.2.2.2.2.1 l.length s_.2.2.2.2.2.2.2.2)]) (fun s_ w' => (w'.cell? ⟨ga, k * 7, none⟩ = some (.int .i64 y.light) ∧ w'.cell? ⟨ga, k * 7 + 1, none⟩ = some (.int .i64 y.under) ∧ w'.cell? ⟨ga, k * 7 + 2, none⟩ = some (.int .i64 y.trim) ∧ w'.cell? ⟨ga, k * 7 + 3, none⟩ = some (.slice y.A3 y.holds.length y.c3) ∧ w'.cell? ⟨ga, k * 7 + 4, none⟩ = some (.int .i64 y.leaves) ∧ w'.cell? ⟨ga, k * 7 + 5, none⟩ = some (.slice y.A5 y.sills.length y.c5) ∧ w'.cell? ⟨ga, k * 7 + 6, none⟩ = some (.slice y.A6 y.lots.length y.c6) ∧ w'.cell? ⟨gl, k, none⟩ = some (.slice B l.length c)) ∧ Aside0 (w'.heap[s_.1]? = some (.cells #[.int .i64 0, .int .i64 0, .int .i64 0, .slice none 0 0, .int .i64 0, .slice none 0 0, .slice none 0 0] 26 (0, 0))) ∧ wj.heap.size ≤ s_.1 ∧ Aside0 (Below wj.heap.size wj w') ∧ Aside0 (Kd.R k85 85 w' 0 (fun _ => True) (.slice s_.2.1 y.holds.length s_.2.2.1) y.holds) ∧ Aside0 (Kd.S k59 59 w' 0 (fun _ => True) (.slice s_.2.2.2.1 y.sills.length s_.2.2.2.2.1) y.sills) ∧ Aside0 (Kd.R k79 79 w' 0 (fun _ => True) (.slice s_.2.2.2.2.2.1 y.lots.length s_.2.2.2.2.2.2.1) y.lots) ∧ Aside0 (Kd.R (Kd.int .i64) 3 w' 0 (fun _ => True) (.slice s_.2.2.2.2.2.2.2.1 l.length s_.2.2.2.2.2.2.2.2) l)) ?_ ?_; rotate_left
    ·
     intro hCont; refine two_ (i := 4) (j := 10) (Ni := some 82) (Nj := some 18) (bz 13 511) (bz 13 1519) rfl rfl rfl rfl (two_of HT_.out (by kernel_rfl)) (by decide) (by decide) (fun K hK => ?_) (fun K hK => ?_)
     ·
      skip
      refine goes_x Try.func20 #[.agg #[.int .i64 y.light, .int .i64 y.under, .int .i64 y.trim, .slice y.A3 y.holds.length y.c3, .int .i64 y.leaves, .slice y.A5 y.sills.length y.c5, .slice y.A6 y.lots.length y.c6]] ?_
      with_reducible refine (swarfkit_CopyVoyage.calls y.light y.under y.trim y.A3 y.c3 y.holds y.leaves y.A5 y.c5 y.sills y.A6 y.c6 y.lots y.light y.under y.trim y.holds y.leaves y.sills y.lots _ (YO.out.below HBr.out).h (YO.out.below HBr.out).hc (YO.out.below HBr.out).s (YO.out.below HBr.out).sc (YO.out.below HBr.out).l (YO.out.below HBr.out).lc QC.out).mono ?_
      rintro e wp4 ⟨v3, v5, v6, rfl, ho3, ho5, ho6, hb4_⟩; obtain ⟨X3, e3, rfl⟩ := Kd.R_slice ho3; obtain ⟨X5, e5, rfl⟩ := Kd.S_slice ho5; obtain ⟨X6, e6, rfl⟩ := Kd.R_slice ho6; replace HBr := Aside0.mk (below_step HBr.out hb4_); have C3 := Aside0.mk (Kd.R_lower ho3 (Nat.zero_le _)); have C5 := Aside0.mk (Kd.S_lower ho5 (Nat.zero_le _)); have C6 := Aside0.mk (Kd.R_lower ho6 (Nat.zero_le _)); refine ⟨_, rfl, ?_⟩; refine hK.out _ _ (cbs_y hb4_ hHeld) (fun hHeld => ?_); clear hK K; refine norm_p (some 82) ?_; refine two_ (i := 9) (j := 10) (Ni := some 87) (Nj := some 18) (bz 13 1023) (bz 13 1535) rfl rfl rfl rfl (two_of HT_.out (by kernel_rfl)) (by decide) (by decide) (fun K hK => ?_) (fun K hK => ?_)
      ·
       skip
       refine goes_x Try.func21 #[.slice B l.length c] ?_
       with_reducible refine (swarfkit_Ints.calls B c l l _ (Kd.C_below RB.out HBr.out) hc QI.out).mono ?_
       rintro e wp4_9 ⟨vi_, rfl, hoi_, hb9_⟩; obtain ⟨Ai, ci, rfl⟩ := Kd.R_slice hoi_; replace HBr := Aside0.mk (below_step HBr.out hb9_); replace C3 := Aside0.mk (Kd.R_below C3.out hb9_); replace C6 := Aside0.mk (Kd.R_below C6.out hb9_); replace C5 := Aside0.mk (Kd.S_below C5.out hb9_); have RI := Aside0.mk (Kd.R_lower hoi_ (Nat.zero_le _)); refine ⟨_, rfl, ?_⟩; refine hK.out _ _ (cbs_y hb9_ hHeld) (fun hHeld => ?_); clear hK K; refine norm_p (some 87) ?_; (refine one_t 10 (some 18) (bz 13 2047) HT_ fun K hK => ?_); refine value_ (w1 := ?_) (v := ?_) (by rfl) rfl ?_ ?_; rotate_left 2
       ·
        go_simp
        constructor
        ·
         rfl
        ·
         rfl
       obtain ⟨go, hg_⟩ : ∃ b, b = wp4_9.heap.size := ⟨_, rfl⟩; (have hgo_ : wj.heap.size ≤ go := by rw [hg_]; exact HBr.out.size); have BO := Aside0.mk (blk_new wp4_9 (.cells #[.int .i64 0, .int .i64 0, .int .i64 0, .slice none 0 0, .int .i64 0, .slice none 0 0, .slice none 0 0] 26 (0, 0))); have hb10_ : Below wp4_9.heap.size wp4_9 (wp4_9.alloc (.cells #[.int .i64 0, .int .i64 0, .int .i64 0, .slice none 0 0, .int .i64 0, .slice none 0 0, .slice none 0 0] 26 (0, 0))) := below_alloc (Below.refl _ _) _; generalize hw_ : wp4_9.alloc (.cells #[.int .i64 0, .int .i64 0, .int .i64 0, .slice none 0 0, .int .i64 0, .slice none 0 0, .slice none 0 0] 26 (0, 0)) = wp4_9_10 at *; rw [← hg_] at BO ⊢; replace HBr := Aside0.mk (below_step HBr.out hb10_); replace C3 := Aside0.mk (Kd.R_below C3.out hb10_); replace C6 := Aside0.mk (Kd.R_below C6.out hb10_); replace C5 := Aside0.mk (Kd.S_below C5.out hb10_); replace RI := Aside0.mk (Kd.R_below RI.out hb10_); clear hw_ hg_; refine hK.out _ _ (cbs_y hb10_ hHeld) (fun hHeld => ?_); clear hK K; refine norm_p (some 18) ?_; exact norm_ (Eq.symm (by (repeat (refine (pa_lit _ _ _ _ _).trans ?_; dsimp only [List.set_cons_succ, List.set_cons_zero])); exact pa_nil _)) (hCont (go, X3, e3, X5, e5, X6, e6, Ai, ci) _ ⟨hHeld, BO, hgo_, HBr, C3, C5, C6, RI⟩)
      ·
       skip
       refine value_ (w1 := ?_) (v := ?_) (by rfl) rfl ?_ ?_; rotate_left 2
       ·
        go_simp
        constructor
        ·
         rfl
        ·
         rfl
       obtain ⟨go, hg_⟩ : ∃ b, b = wp4.heap.size := ⟨_, rfl⟩; (have hgo_ : wj.heap.size ≤ go := by rw [hg_]; exact HBr.out.size); have BO := Aside0.mk (blk_new wp4 (.cells #[.int .i64 0, .int .i64 0, .int .i64 0, .slice none 0 0, .int .i64 0, .slice none 0 0, .slice none 0 0] 26 (0, 0))); have hb10_ : Below wp4.heap.size wp4 (wp4.alloc (.cells #[.int .i64 0, .int .i64 0, .int .i64 0, .slice none 0 0, .int .i64 0, .slice none 0 0, .slice none 0 0] 26 (0, 0))) := below_alloc (Below.refl _ _) _; generalize hw_ : wp4.alloc (.cells #[.int .i64 0, .int .i64 0, .int .i64 0, .slice none 0 0, .int .i64 0, .slice none 0 0, .slice none 0 0] 26 (0, 0)) = wp4_10 at *; rw [← hg_] at BO ⊢; replace HBr := Aside0.mk (below_step HBr.out hb10_); replace C3 := Aside0.mk (Kd.R_below C3.out hb10_); replace C6 := Aside0.mk (Kd.R_below C6.out hb10_); replace C5 := Aside0.mk (Kd.S_below C5.out hb10_); clear hw_ hg_; refine hK.out _ _ (cbs_y hb10_ hHeld) (fun hHeld => ?_); clear hK K; refine norm_p (some 18) ?_; (refine one_t 9 (some 87) (bz 13 2047) HT_ fun K hK => ?_); refine goes_x Try.func21 #[.slice B l.length c] ?_
       with_reducible refine (swarfkit_Ints.calls B c l l _ (Kd.C_below RB.out HBr.out) hc QI.out).mono ?_
       rintro e wp4_10_9 ⟨vi_, rfl, hoi_, hb9_⟩; obtain ⟨Ai, ci, rfl⟩ := Kd.R_slice hoi_; replace HBr := Aside0.mk (below_step HBr.out hb9_); replace BO := Aside0.mk (blk_below BO.out hb9_); replace C3 := Aside0.mk (Kd.R_below C3.out hb9_); replace C6 := Aside0.mk (Kd.R_below C6.out hb9_); replace C5 := Aside0.mk (Kd.S_below C5.out hb9_); have RI := Aside0.mk (Kd.R_lower hoi_ (Nat.zero_le _)); refine ⟨_, rfl, ?_⟩; refine hK.out _ _ (cbs_y hb9_ hHeld) (fun hHeld => ?_); clear hK K; refine norm_p (some 87) ?_; exact norm_ (Eq.symm (by (repeat (refine (pa_lit _ _ _ _ _).trans ?_; dsimp only [List.set_cons_succ, List.set_cons_zero])); exact pa_nil _)) (hCont (go, X3, e3, X5, e5, X6, e6, Ai, ci) _ ⟨hHeld, BO, hgo_, HBr, C3, C5, C6, RI⟩)
     ·
      skip
      refine value_ (w1 := ?_) (v := ?_) (by rfl) rfl ?_ ?_; rotate_left 2
      ·
       go_simp
       constructor
       ·
        rfl
       ·
        rfl
      obtain ⟨go, hg_⟩ : ∃ b, b = wd.heap.size := ⟨_, rfl⟩; (have hgo_ : wj.heap.size ≤ go := by rw [hg_]; exact HBr.out.size); have BO := Aside0.mk (blk_new wd (.cells #[.int .i64 0, .int .i64 0, .int .i64 0, .slice none 0 0, .int .i64 0, .slice none 0 0, .slice none 0 0] 26 (0, 0))); have hb10_ : Below wd.heap.size wd (wd.alloc (.cells #[.int .i64 0, .int .i64 0, .int .i64 0, .slice none 0 0, .int .i64 0, .slice none 0 0, .slice none 0 0] 26 (0, 0))) := below_alloc (Below.refl _ _) _; generalize hw_ : wd.alloc (.cells #[.int .i64 0, .int .i64 0, .int .i64 0, .slice none 0 0, .int .i64 0, .slice none 0 0, .slice none 0 0] 26 (0, 0)) = wp10 at *; rw [← hg_] at BO ⊢; replace HBr := Aside0.mk (below_step HBr.out hb10_); clear hw_ hg_; refine hK.out _ _ (cbs_y hb10_ hHeld) (fun hHeld => ?_); clear hK K; refine norm_p (some 18) ?_; (refine one_t 4 (some 82) (bz 13 1535) HT_ fun K hK => ?_); refine goes_x Try.func20 #[.agg #[.int .i64 y.light, .int .i64 y.under, .int .i64 y.trim, .slice y.A3 y.holds.length y.c3, .int .i64 y.leaves, .slice y.A5 y.sills.length y.c5, .slice y.A6 y.lots.length y.c6]] ?_
      with_reducible refine (swarfkit_CopyVoyage.calls y.light y.under y.trim y.A3 y.c3 y.holds y.leaves y.A5 y.c5 y.sills y.A6 y.c6 y.lots y.light y.under y.trim y.holds y.leaves y.sills y.lots _ (YO.out.below HBr.out).h (YO.out.below HBr.out).hc (YO.out.below HBr.out).s (YO.out.below HBr.out).sc (YO.out.below HBr.out).l (YO.out.below HBr.out).lc QC.out).mono ?_
      rintro e wp10_4 ⟨v3, v5, v6, rfl, ho3, ho5, ho6, hb4_⟩; obtain ⟨X3, e3, rfl⟩ := Kd.R_slice ho3; obtain ⟨X5, e5, rfl⟩ := Kd.S_slice ho5; obtain ⟨X6, e6, rfl⟩ := Kd.R_slice ho6; replace HBr := Aside0.mk (below_step HBr.out hb4_); replace BO := Aside0.mk (blk_below BO.out hb4_); have C3 := Aside0.mk (Kd.R_lower ho3 (Nat.zero_le _)); have C5 := Aside0.mk (Kd.S_lower ho5 (Nat.zero_le _)); have C6 := Aside0.mk (Kd.R_lower ho6 (Nat.zero_le _)); refine ⟨_, rfl, ?_⟩; refine hK.out _ _ (cbs_y hb4_ hHeld) (fun hHeld => ?_); clear hK K; refine norm_p (some 82) ?_; (refine one_t 9 (some 87) (bz 13 2047) HT_ fun K hK => ?_); refine goes_x Try.func21 #[.slice B l.length c] ?_
      with_reducible refine (swarfkit_Ints.calls B c l l _ (Kd.C_below RB.out HBr.out) hc QI.out).mono ?_
      rintro e wp10_4_9 ⟨vi_, rfl, hoi_, hb9_⟩; obtain ⟨Ai, ci, rfl⟩ := Kd.R_slice hoi_; replace HBr := Aside0.mk (below_step HBr.out hb9_); replace BO := Aside0.mk (blk_below BO.out hb9_); replace C3 := Aside0.mk (Kd.R_below C3.out hb9_); replace C6 := Aside0.mk (Kd.R_below C6.out hb9_); replace C5 := Aside0.mk (Kd.S_below C5.out hb9_); have RI := Aside0.mk (Kd.R_lower hoi_ (Nat.zero_le _)); refine ⟨_, rfl, ?_⟩; refine hK.out _ _ (cbs_y hb9_ hHeld) (fun hHeld => ?_); clear hK K; refine norm_p (some 87) ?_; exact norm_ (Eq.symm (by (repeat (refine (pa_lit _ _ _ _ _).trans ?_; dsimp only [List.set_cons_succ, List.set_cons_zero])); exact pa_nil _)) (hCont (go, X3, e3, X5, e5, X6, e6, Ai, ci) _ ⟨hHeld, BO, hgo_, HBr, C3, C5, C6, RI⟩)
    clear HBr; rintro ⟨go, X3, e3, X5, e5, X6, e6, Ai, ci⟩ wk ⟨hHeld, BO, hgo_, HBr, C3, C5, C6, RI⟩; refine norm_ (a' := ?_) ?_ ?_; rotate_left
    ·
     (repeat (refine (pa_lit _ _ _ _ _).trans ?_; dsimp only [List.set_cons_succ, List.set_cons_zero])); exact pa_nil _
    refine last_ (i := 11) (N := none) (bz 13 4095) rfl rfl (one_of HT_.out (by kernel_rfl)) (by decide) (fun K hK => ?_); have hz0_ := (blk_cell BO.out 0).trans rfl; have hf0_ := blk_frozen BO.out 0; have hz1_ := (blk_cell BO.out 1).trans rfl; have hf1_ := blk_frozen BO.out 1; have hz2_ := (blk_cell BO.out 2).trans rfl; have hf2_ := blk_frozen BO.out 2; have hz3_ := (blk_cell BO.out 3).trans rfl; have hf3_ := blk_frozen BO.out 3; have hz4_ := (blk_cell BO.out 4).trans rfl; have hf4_ := blk_frozen BO.out 4; have hz5_ := (blk_cell BO.out 5).trans rfl; have hf5_ := blk_frozen BO.out 5; have hz6_ := (blk_cell BO.out 6).trans rfl; have hf6_ := blk_frozen BO.out 6; refine skip_ (w1 := ?_) (by rfl) rfl ?_ ?_; rotate_left; (go_simp; rfl); refine hK.out _ _ ?_; clear hK K; refine pure_p 12 (some 19) (bz 13 8191) HT_ ?_; refine done_ (done_of HT_.out (by kernel_rfl)) ?_; clear hHeld hz0_ hf0_ hz1_ hf1_ hz2_ hf2_ hz3_ hf3_ hz4_ hf4_ hz5_ hf5_ hz6_ hf6_ F_; replace C3 := Aside0.mk (Kd.R_set C3.out BO.out (by decide) 0 (.int .i64 y.light)); replace C6 := Aside0.mk (Kd.R_set C6.out BO.out (by decide) 0 (.int .i64 y.light)); replace RI := Aside0.mk (Kd.R_set RI.out BO.out (by decide) 0 (.int .i64 y.light)); replace C5 := Aside0.mk (Kd.S_set C5.out BO.out (by decide) 0 (.int .i64 y.light)); replace HBr := Aside0.mk (below_set (g := go) (j := 0) (v := .int .i64 y.light) HBr.out hgo_); have BOn := Aside0.mk (blk_set BO.out 0 (.int .i64 y.light)); clear BO; have BO := BOn; clear BOn; replace C3 := Aside0.mk (Kd.R_set C3.out BO.out (by decide) 1 (.int .i64 y.under)); replace C6 := Aside0.mk (Kd.R_set C6.out BO.out (by decide) 1 (.int .i64 y.under)); replace RI := Aside0.mk (Kd.R_set RI.out BO.out (by decide) 1 (.int .i64 y.under)); replace C5 := Aside0.mk (Kd.S_set C5.out BO.out (by decide) 1 (.int .i64 y.under)); replace HBr := Aside0.mk (below_set (g := go) (j := 1) (v := .int .i64 y.under) HBr.out hgo_); have BOn := Aside0.mk (blk_set BO.out 1 (.int .i64 y.under)); clear BO; have BO := BOn; clear BOn; replace C3 := Aside0.mk (Kd.R_set C3.out BO.out (by decide) 2 (.int .i64 y.trim)); replace C6 := Aside0.mk (Kd.R_set C6.out BO.out (by decide) 2 (.int .i64 y.trim)); replace RI := Aside0.mk (Kd.R_set RI.out BO.out (by decide) 2 (.int .i64 y.trim)); replace C5 := Aside0.mk (Kd.S_set C5.out BO.out (by decide) 2 (.int .i64 y.trim)); replace HBr := Aside0.mk (below_set (g := go) (j := 2) (v := .int .i64 y.trim) HBr.out hgo_); have BOn := Aside0.mk (blk_set BO.out 2 (.int .i64 y.trim)); clear BO; have BO := BOn; clear BOn; replace C3 := Aside0.mk (Kd.R_set C3.out BO.out (by decide) 3 (.slice X3 y.holds.length e3)); replace C6 := Aside0.mk (Kd.R_set C6.out BO.out (by decide) 3 (.slice X3 y.holds.length e3)); replace RI := Aside0.mk (Kd.R_set RI.out BO.out (by decide) 3 (.slice X3 y.holds.length e3)); replace C5 := Aside0.mk (Kd.S_set C5.out BO.out (by decide) 3 (.slice X3 y.holds.length e3)); replace HBr := Aside0.mk (below_set (g := go) (j := 3) (v := .slice X3 y.holds.length e3) HBr.out hgo_); have BOn := Aside0.mk (blk_set BO.out 3 (.slice X3 y.holds.length e3)); clear BO; have BO := BOn; clear BOn; replace C3 := Aside0.mk (Kd.R_set C3.out BO.out (by decide) 4 (.int .i64 y.leaves)); replace C6 := Aside0.mk (Kd.R_set C6.out BO.out (by decide) 4 (.int .i64 y.leaves)); replace RI := Aside0.mk (Kd.R_set RI.out BO.out (by decide) 4 (.int .i64 y.leaves)); replace C5 := Aside0.mk (Kd.S_set C5.out BO.out (by decide) 4 (.int .i64 y.leaves)); replace HBr := Aside0.mk (below_set (g := go) (j := 4) (v := .int .i64 y.leaves) HBr.out hgo_); have BOn := Aside0.mk (blk_set BO.out 4 (.int .i64 y.leaves)); clear BO; have BO := BOn; clear BOn; replace C3 := Aside0.mk (Kd.R_set C3.out BO.out (by decide) 5 (.slice X5 y.sills.length e5)); replace C6 := Aside0.mk (Kd.R_set C6.out BO.out (by decide) 5 (.slice X5 y.sills.length e5)); replace RI := Aside0.mk (Kd.R_set RI.out BO.out (by decide) 5 (.slice X5 y.sills.length e5)); replace C5 := Aside0.mk (Kd.S_set C5.out BO.out (by decide) 5 (.slice X5 y.sills.length e5)); replace HBr := Aside0.mk (below_set (g := go) (j := 5) (v := .slice X5 y.sills.length e5) HBr.out hgo_); have BOn := Aside0.mk (blk_set BO.out 5 (.slice X5 y.sills.length e5)); clear BO; have BO := BOn; clear BOn; replace C3 := Aside0.mk (Kd.R_set C3.out BO.out (by decide) 6 (.slice X6 y.lots.length e6)); replace C6 := Aside0.mk (Kd.R_set C6.out BO.out (by decide) 6 (.slice X6 y.lots.length e6)); replace RI := Aside0.mk (Kd.R_set RI.out BO.out (by decide) 6 (.slice X6 y.lots.length e6)); replace C5 := Aside0.mk (Kd.S_set C5.out BO.out (by decide) 6 (.slice X6 y.lots.length e6)); replace HBr := Aside0.mk (below_set (g := go) (j := 6) (v := .slice X6 y.lots.length e6) HBr.out hgo_); have BOn := Aside0.mk (blk_put (cs' := #[.int .i64 y.light, .int .i64 y.under, .int .i64 y.trim, .slice X3 y.holds.length e3, .int .i64 y.leaves, .slice X5 y.sills.length e5, .slice X6 y.lots.length e6]) BO.out 6 (.slice X6 y.lots.length e6) rfl); clear BO; have BO := BOn; clear BOn; generalize hW_ : ((((((wk.setCell ⟨go, 0, none⟩ (.int .i64 y.light)).setCell ⟨go, 1, none⟩ (.int .i64 y.under)).setCell ⟨go, 2, none⟩ (.int .i64 y.trim)).setCell ⟨go, 3, none⟩ (.slice X3 y.holds.length e3)).setCell ⟨go, 4, none⟩ (.int .i64 y.leaves)).setCell ⟨go, 5, none⟩ (.slice X5 y.sills.length e5)).setCell ⟨go, 6, none⟩ (.slice X6 y.lots.length e6) = w9 at *; clear hW_; have OX := Aside0.mk (show (⟨y.light, y.under, y.trim, X3, e3, y.holds, y.leaves, X5, e5, y.sills, X6, e6, y.lots⟩ : VoyV).Ok w9 from ⟨(Kd.R_reads' C3.out).2.2, (Kd.R_reads' C3.out).2.1, (Kd.S_reads' C5.out).2.2, (Kd.S_reads' C5.out).2.1, (Kd.R_reads' C6.out).2.2, (Kd.R_reads' C6.out).2.1⟩); have li_ := (Kd.R_reads' RI.out).2.1; replace RI := Aside0.mk (Kd.R_reads' RI.out).2.2; clear C3 C5 C6 hgo_; have hz0_ := (blk_cell BO.out 0).trans rfl; have hz1_ := (blk_cell BO.out 1).trans rfl; have hz2_ := (blk_cell BO.out 2).trans rfl; have hz3_ := (blk_cell BO.out 3).trans rfl; have hz4_ := (blk_cell BO.out 4).trans rfl; have hz5_ := (blk_cell BO.out 5).trans rfl; have hz6_ := (blk_cell BO.out 6).trans rfl
    go_wp2_with (fail)
    refine (ship_Drafts.calls y.light y.under y.trim X3 e3 y.holds y.leaves X5 e5 y.sills X6 e6 y.lots Ai ci l da db dc dd de w9 OX.out.h OX.out.hc OX.out.s OX.out.sc OX.out.l OX.out.lc RI.out li_ QD1.out).mono ?_; rintro e w10 ⟨rfl, hb_⟩; replace HBr := Aside0.mk (below_step HBr.out hb_); replace OX := Aside0.mk (OX.out.below hb_); replace RI := Aside0.mk (Kd.C_below RI.out hb_); replace BO := Aside0.mk (blk_below BO.out hb_); clear hb_ hz0_ hz1_ hz2_ hz3_ hz4_ hz5_ hz6_
    go_upto_region 15 with (fail)
    obtain ⟨g20, hg_⟩ : ∃ b, b = w10.heap.size := ⟨_, rfl⟩; obtain ⟨g21, hgq_⟩ : ∃ b, b = w10.heap.size + 1 := ⟨_, rfl⟩; have B20 := Aside0.mk (blk_below (blk_new w10 (.cells #[.int .i64 da, .int .i64 db] 56 (0, 0))) (below_alloc (Below.refl _ _) (.cells #[.int .i64 dc, .int .i64 dd] 56 (0, 0)))); have B21 := Aside0.mk (show ((w10.alloc (.cells #[.int .i64 da, .int .i64 db] 56 (0, 0))).alloc (.cells #[.int .i64 dc, .int .i64 dd] 56 (0, 0))).heap[w10.heap.size + 1]? = some (.cells #[.int .i64 dc, .int .i64 dd] 56 (0, 0)) from by have h_ := blk_new (w10.alloc (.cells #[.int .i64 da, .int .i64 db] 56 (0, 0))) (.cells #[.int .i64 dc, .int .i64 dd] 56 (0, 0)); rw [show (w10.alloc (.cells #[.int .i64 da, .int .i64 db] 56 (0, 0))).heap.size = w10.heap.size + 1 by simp] at h_; exact h_); have hbw : Below w10.heap.size w10 ((w10.alloc (.cells #[.int .i64 da, .int .i64 db] 56 (0, 0))).alloc (.cells #[.int .i64 dc, .int .i64 dd] 56 (0, 0))) := below_alloc (below_alloc (Below.refl _ _) _) _; generalize hw_ : (w10.alloc (.cells #[.int .i64 da, .int .i64 db] 56 (0, 0))).alloc (.cells #[.int .i64 dc, .int .i64 dd] 56 (0, 0)) = w11 at *; rw [← hgq_, ← hg_]; rw [← hgq_] at B21; rw [← hg_] at B20; replace HBr := Aside0.mk (below_step HBr.out hbw); replace OX := Aside0.mk (OX.out.below hbw); replace RI := Aside0.mk (Kd.C_below RI.out hbw); replace BO := Aside0.mk (blk_below BO.out hbw); clear hbw hw_ hg_ hgq_; have HBq := Aside0.mk (below_drew1 (Below.refl w11.heap.size w11)); have HBs := Aside0.mk (below_step HBr.out HBq.out); have F_ := facts7 (w' := w11.drew) CE.out CL.out HBs.out; clear HBs; refine start_ (n := 18) (S := fun w' => w'.cell? ⟨ga, k * 7, none⟩ = some (.int .i64 y.light) ∧ w'.cell? ⟨ga, k * 7 + 1, none⟩ = some (.int .i64 y.under) ∧ w'.cell? ⟨ga, k * 7 + 2, none⟩ = some (.int .i64 y.trim) ∧ w'.cell? ⟨ga, k * 7 + 3, none⟩ = some (.slice y.A3 y.holds.length y.c3) ∧ w'.cell? ⟨ga, k * 7 + 4, none⟩ = some (.int .i64 y.leaves) ∧ w'.cell? ⟨ga, k * 7 + 5, none⟩ = some (.slice y.A5 y.sills.length y.c5) ∧ w'.cell? ⟨ga, k * 7 + 6, none⟩ = some (.slice y.A6 y.lots.length y.c6) ∧ w'.cell? ⟨gl, k, none⟩ = some (.slice B l.length c)) (ds := [15, 16]) #[false, false, false, false, false, false, false, false, false, false, false, false, false, false, false, false, false, false] (by kernel_rfl) rfl rfl ⟨F_.1, F_.2.1, F_.2.2.1, F_.2.2.2.1, F_.2.2.2.2.1, F_.2.2.2.2.2.1, F_.2.2.2.2.2.2.1, F_.2.2.2.2.2.2.2⟩ (fun hHeld => ?_); generalize w11.drew = wdj at HBq hHeld ⊢; refine with_tabW drafts7.tab15 drafts7.bits15 (fun HT_ HW_ => ?_); refine pure_p 0 (some 96) (bz 18 1) HT_ ?_; refine pure_p 1 (some 97) (bz 18 3) HT_ ?_; refine pure_p 2 (some 98) (bz 18 7) HT_ ?_; refine pure_p 4 (some 100) (bz 18 23) HT_ ?_; refine pure_p 5 (some 101) (bz 18 55) HT_ ?_; refine pure_p 6 (some 102) (bz 18 119) HT_ ?_; refine take_p 3 (some 99) (bz 18 127) HT_ HW_ hHeld ?_; refine take_p 7 (some 103) (bz 18 255) HT_ HW_ hHeld ?_; refine join_ (σ := Nat × Nat) 3 (bz 18 32767) (fun s_ => [(104, .tuple #[.agg #[.int .i64 da, .int .i64 db], .agg #[.int .i64 dc, .int .i64 dd], .int .i64 de]), (95, .tuple #[.agg #[.int .i64 da, .int .i64 db], .agg #[.int .i64 dc, .int .i64 dd], .int .i64 de]), (105, .agg #[.int .i64 da, .int .i64 db]), (106, .agg #[.int .i64 dc, .int .i64 dd]), (107, .int .i64 de), (23, .pointer (some ⟨s_.1, 0, none⟩)), (24, .pointer (some ⟨s_.2, 0, none⟩))]) (fun s_ w' => (w'.cell? ⟨ga, k * 7, none⟩ = some (.int .i64 y.light) ∧ w'.cell? ⟨ga, k * 7 + 1, none⟩ = some (.int .i64 y.under) ∧ w'.cell? ⟨ga, k * 7 + 2, none⟩ = some (.int .i64 y.trim) ∧ w'.cell? ⟨ga, k * 7 + 3, none⟩ = some (.slice y.A3 y.holds.length y.c3) ∧ w'.cell? ⟨ga, k * 7 + 4, none⟩ = some (.int .i64 y.leaves) ∧ w'.cell? ⟨ga, k * 7 + 5, none⟩ = some (.slice y.A5 y.sills.length y.c5) ∧ w'.cell? ⟨ga, k * 7 + 6, none⟩ = some (.slice y.A6 y.lots.length y.c6) ∧ w'.cell? ⟨gl, k, none⟩ = some (.slice B l.length c)) ∧ Aside0 (w'.heap[s_.1]? = some (.cells #[.int .i64 0, .int .i64 0] 56 (0, 0))) ∧ Aside0 (w'.heap[s_.2]? = some (.cells #[.int .i64 0, .int .i64 0] 56 (0, 0))) ∧ w11.heap.size ≤ s_.1 ∧ w11.heap.size ≤ s_.2 ∧ s_.1 ≠ s_.2 ∧ Aside0 (Below w11.heap.size w11 w')) ?_ ?_; rotate_left
    ·
     intro hCont; refine three_ (i := 8) (j := 13) (k := 14) (Ni := some 104) (Nj := some 23) (Nk := some 24) (bz 18 511) (bz 18 8447) (bz 18 16639) rfl rfl rfl rfl rfl rfl (three_of HT_.out (by kernel_rfl)) (by decide) (by decide) (by decide) (fun K hK => ?_) (fun K hK => ?_) (fun K hK => ?_)
     ·
      skip
      refine goes_x Try.func36 #[.agg #[.int .i64 y.light, .int .i64 y.under, .int .i64 y.trim, .slice y.A3 y.holds.length y.c3, .int .i64 y.leaves, .slice y.A5 y.sills.length y.c5, .slice y.A6 y.lots.length y.c6], .slice B l.length c] ?_; have HBs := Aside0.mk (below_step HBr.out HBq.out)
      with_reducible refine (swarfref07_Drafts.calls dk y.light y.under y.trim y.A3 y.c3 y.holds y.leaves y.A5 y.c5 y.sills y.A6 y.c6 y.lots B c l da db dc dd de _ (YO.out.below HBs.out).h (YO.out.below HBs.out).hc (YO.out.below HBs.out).s (YO.out.below HBs.out).sc (YO.out.below HBs.out).l (YO.out.below HBs.out).lc (Kd.C_below RB.out HBs.out) hc QD2.out).mono ?_
      rintro e j8 ⟨rfl, hb8_⟩; clear HBs; replace HBq := Aside0.mk (below_step HBq.out hb8_); refine ⟨_, rfl, ?_⟩; refine hK.out _ _ (cbs_y hb8_ hHeld) (fun hHeld => ?_); clear hK K; refine norm_p (some 104) ?_; refine pure_p 9 (some 95) (bz 18 1023) HT_ ?_; refine pure_p 10 (some 105) (bz 18 2047) HT_ ?_; refine pure_p 11 (some 106) (bz 18 4095) HT_ ?_; refine pure_p 12 (some 107) (bz 18 8191) HT_ ?_; refine two_ (i := 13) (j := 14) (Ni := some 23) (Nj := some 24) (bz 18 16383) (bz 18 24575) rfl rfl rfl rfl (two_of HT_.out (by kernel_rfl)) (by decide) (by decide) (fun K hK => ?_) (fun K hK => ?_)
      ·
       skip
       refine value_ (w1 := ?_) (v := ?_) (by rfl) rfl ?_ ?_; rotate_left 2
       ·
        go_simp
        constructor
        ·
         rfl
        ·
         rfl
       obtain ⟨g23, hg_⟩ : ∃ b, b = j8.heap.size := ⟨_, rfl⟩; (have hg23_ : w11.heap.size ≤ g23 := by rw [hg_]; exact HBq.out.size); have B23 := Aside0.mk (blk_new j8 (.cells #[.int .i64 0, .int .i64 0] 56 (0, 0))); have hb13_ : Below j8.heap.size j8 (j8.alloc (.cells #[.int .i64 0, .int .i64 0] 56 (0, 0))) := below_alloc (Below.refl _ _) _; generalize hw_ : j8.alloc (.cells #[.int .i64 0, .int .i64 0] 56 (0, 0)) = j8_13 at *; rw [← hg_] at B23 ⊢; replace HBq := Aside0.mk (below_step HBq.out hb13_); clear hw_ hg_; refine hK.out _ _ (cbs_y hb13_ hHeld) (fun hHeld => ?_); clear hK K; refine norm_p (some 23) ?_; (refine one_t 14 (some 24) (bz 18 32767) HT_ fun K hK => ?_); refine value_ (w1 := ?_) (v := ?_) (by rfl) rfl ?_ ?_; rotate_left 2
       ·
        go_simp
        constructor
        ·
         rfl
        ·
         rfl
       obtain ⟨g24, hg_⟩ : ∃ b, b = j8_13.heap.size := ⟨_, rfl⟩; (have hg24_ : w11.heap.size ≤ g24 := by rw [hg_]; exact HBq.out.size); (have hne_ : g23 ≠ g24 := by have h_ := blk_lt B23.out; omega); have B24 := Aside0.mk (blk_new j8_13 (.cells #[.int .i64 0, .int .i64 0] 56 (0, 0))); have hb14_ : Below j8_13.heap.size j8_13 (j8_13.alloc (.cells #[.int .i64 0, .int .i64 0] 56 (0, 0))) := below_alloc (Below.refl _ _) _; generalize hw_ : j8_13.alloc (.cells #[.int .i64 0, .int .i64 0] 56 (0, 0)) = j8_13_14 at *; rw [← hg_] at B24 ⊢; replace HBq := Aside0.mk (below_step HBq.out hb14_); replace B23 := Aside0.mk (blk_below B23.out hb14_); clear hw_ hg_; refine hK.out _ _ (cbs_y hb14_ hHeld) (fun hHeld => ?_); clear hK K; refine norm_p (some 24) ?_; exact norm_ (Eq.symm (by (repeat (refine (pa_lit _ _ _ _ _).trans ?_; dsimp only [List.set_cons_succ, List.set_cons_zero])); exact pa_nil _)) (hCont (g23, g24) _ ⟨hHeld, B23, B24, hg23_, hg24_, hne_, HBq⟩)
      ·
       skip
       refine value_ (w1 := ?_) (v := ?_) (by rfl) rfl ?_ ?_; rotate_left 2
       ·
        go_simp
        constructor
        ·
         rfl
        ·
         rfl
       obtain ⟨g24, hg_⟩ : ∃ b, b = j8.heap.size := ⟨_, rfl⟩; (have hg24_ : w11.heap.size ≤ g24 := by rw [hg_]; exact HBq.out.size); have B24 := Aside0.mk (blk_new j8 (.cells #[.int .i64 0, .int .i64 0] 56 (0, 0))); have hb14_ : Below j8.heap.size j8 (j8.alloc (.cells #[.int .i64 0, .int .i64 0] 56 (0, 0))) := below_alloc (Below.refl _ _) _; generalize hw_ : j8.alloc (.cells #[.int .i64 0, .int .i64 0] 56 (0, 0)) = j8_14 at *; rw [← hg_] at B24 ⊢; replace HBq := Aside0.mk (below_step HBq.out hb14_); clear hw_ hg_; refine hK.out _ _ (cbs_y hb14_ hHeld) (fun hHeld => ?_); clear hK K; refine norm_p (some 24) ?_; (refine one_t 13 (some 23) (bz 18 32767) HT_ fun K hK => ?_); refine value_ (w1 := ?_) (v := ?_) (by rfl) rfl ?_ ?_; rotate_left 2
       ·
        go_simp
        constructor
        ·
         rfl
        ·
         rfl
       obtain ⟨g23, hg_⟩ : ∃ b, b = j8_14.heap.size := ⟨_, rfl⟩; (have hg23_ : w11.heap.size ≤ g23 := by rw [hg_]; exact HBq.out.size); (have hne_ : g23 ≠ g24 := by have h_ := blk_lt B24.out; omega); have B23 := Aside0.mk (blk_new j8_14 (.cells #[.int .i64 0, .int .i64 0] 56 (0, 0))); have hb13_ : Below j8_14.heap.size j8_14 (j8_14.alloc (.cells #[.int .i64 0, .int .i64 0] 56 (0, 0))) := below_alloc (Below.refl _ _) _; generalize hw_ : j8_14.alloc (.cells #[.int .i64 0, .int .i64 0] 56 (0, 0)) = j8_14_13 at *; rw [← hg_] at B23 ⊢; replace HBq := Aside0.mk (below_step HBq.out hb13_); replace B24 := Aside0.mk (blk_below B24.out hb13_); clear hw_ hg_; refine hK.out _ _ (cbs_y hb13_ hHeld) (fun hHeld => ?_); clear hK K; refine norm_p (some 23) ?_; exact norm_ (Eq.symm (by (repeat (refine (pa_lit _ _ _ _ _).trans ?_; dsimp only [List.set_cons_succ, List.set_cons_zero])); exact pa_nil _)) (hCont (g23, g24) _ ⟨hHeld, B23, B24, hg23_, hg24_, hne_, HBq⟩)
     ·
      skip
      refine value_ (w1 := ?_) (v := ?_) (by rfl) rfl ?_ ?_; rotate_left 2
      ·
       go_simp
       constructor
       ·
        rfl
       ·
        rfl
      obtain ⟨g23, hg_⟩ : ∃ b, b = wdj.heap.size := ⟨_, rfl⟩; (have hg23_ : w11.heap.size ≤ g23 := by rw [hg_]; exact HBq.out.size); have B23 := Aside0.mk (blk_new wdj (.cells #[.int .i64 0, .int .i64 0] 56 (0, 0))); have hb13_ : Below wdj.heap.size wdj (wdj.alloc (.cells #[.int .i64 0, .int .i64 0] 56 (0, 0))) := below_alloc (Below.refl _ _) _; generalize hw_ : wdj.alloc (.cells #[.int .i64 0, .int .i64 0] 56 (0, 0)) = j13 at *; rw [← hg_] at B23 ⊢; replace HBq := Aside0.mk (below_step HBq.out hb13_); clear hw_ hg_; refine hK.out _ _ (cbs_y hb13_ hHeld) (fun hHeld => ?_); clear hK K; refine norm_p (some 23) ?_; refine two_ (i := 8) (j := 14) (Ni := some 104) (Nj := some 24) (bz 18 8703) (bz 18 24831) rfl rfl rfl rfl (two_of HT_.out (by kernel_rfl)) (by decide) (by decide) (fun K hK => ?_) (fun K hK => ?_)
      ·
       skip
       refine goes_x Try.func36 #[.agg #[.int .i64 y.light, .int .i64 y.under, .int .i64 y.trim, .slice y.A3 y.holds.length y.c3, .int .i64 y.leaves, .slice y.A5 y.sills.length y.c5, .slice y.A6 y.lots.length y.c6], .slice B l.length c] ?_; have HBs := Aside0.mk (below_step HBr.out HBq.out)
       with_reducible refine (swarfref07_Drafts.calls dk y.light y.under y.trim y.A3 y.c3 y.holds y.leaves y.A5 y.c5 y.sills y.A6 y.c6 y.lots B c l da db dc dd de _ (YO.out.below HBs.out).h (YO.out.below HBs.out).hc (YO.out.below HBs.out).s (YO.out.below HBs.out).sc (YO.out.below HBs.out).l (YO.out.below HBs.out).lc (Kd.C_below RB.out HBs.out) hc QD2.out).mono ?_
       rintro e j13_8 ⟨rfl, hb8_⟩; clear HBs; replace HBq := Aside0.mk (below_step HBq.out hb8_); replace B23 := Aside0.mk (blk_below B23.out hb8_); refine ⟨_, rfl, ?_⟩; refine hK.out _ _ (cbs_y hb8_ hHeld) (fun hHeld => ?_); clear hK K; refine norm_p (some 104) ?_; refine pure_p 9 (some 95) (bz 18 9215) HT_ ?_; refine pure_p 10 (some 105) (bz 18 10239) HT_ ?_; refine pure_p 11 (some 106) (bz 18 12287) HT_ ?_; refine pure_p 12 (some 107) (bz 18 16383) HT_ ?_; (refine one_t 14 (some 24) (bz 18 32767) HT_ fun K hK => ?_); refine value_ (w1 := ?_) (v := ?_) (by rfl) rfl ?_ ?_; rotate_left 2
       ·
        go_simp
        constructor
        ·
         rfl
        ·
         rfl
       obtain ⟨g24, hg_⟩ : ∃ b, b = j13_8.heap.size := ⟨_, rfl⟩; (have hg24_ : w11.heap.size ≤ g24 := by rw [hg_]; exact HBq.out.size); (have hne_ : g23 ≠ g24 := by have h_ := blk_lt B23.out; omega); have B24 := Aside0.mk (blk_new j13_8 (.cells #[.int .i64 0, .int .i64 0] 56 (0, 0))); have hb14_ : Below j13_8.heap.size j13_8 (j13_8.alloc (.cells #[.int .i64 0, .int .i64 0] 56 (0, 0))) := below_alloc (Below.refl _ _) _; generalize hw_ : j13_8.alloc (.cells #[.int .i64 0, .int .i64 0] 56 (0, 0)) = j13_8_14 at *; rw [← hg_] at B24 ⊢; replace HBq := Aside0.mk (below_step HBq.out hb14_); replace B23 := Aside0.mk (blk_below B23.out hb14_); clear hw_ hg_; refine hK.out _ _ (cbs_y hb14_ hHeld) (fun hHeld => ?_); clear hK K; refine norm_p (some 24) ?_; exact norm_ (Eq.symm (by (repeat (refine (pa_lit _ _ _ _ _).trans ?_; dsimp only [List.set_cons_succ, List.set_cons_zero])); exact pa_nil _)) (hCont (g23, g24) _ ⟨hHeld, B23, B24, hg23_, hg24_, hne_, HBq⟩)
      ·
       skip
       refine value_ (w1 := ?_) (v := ?_) (by rfl) rfl ?_ ?_; rotate_left 2
       ·
        go_simp
        constructor
        ·
         rfl
        ·
         rfl
       obtain ⟨g24, hg_⟩ : ∃ b, b = j13.heap.size := ⟨_, rfl⟩; (have hg24_ : w11.heap.size ≤ g24 := by rw [hg_]; exact HBq.out.size); (have hne_ : g23 ≠ g24 := by have h_ := blk_lt B23.out; omega); have B24 := Aside0.mk (blk_new j13 (.cells #[.int .i64 0, .int .i64 0] 56 (0, 0))); have hb14_ : Below j13.heap.size j13 (j13.alloc (.cells #[.int .i64 0, .int .i64 0] 56 (0, 0))) := below_alloc (Below.refl _ _) _; generalize hw_ : j13.alloc (.cells #[.int .i64 0, .int .i64 0] 56 (0, 0)) = j13_14 at *; rw [← hg_] at B24 ⊢; replace HBq := Aside0.mk (below_step HBq.out hb14_); replace B23 := Aside0.mk (blk_below B23.out hb14_); clear hw_ hg_; refine hK.out _ _ (cbs_y hb14_ hHeld) (fun hHeld => ?_); clear hK K; refine norm_p (some 24) ?_; (refine one_t 8 (some 104) (bz 18 25087) HT_ fun K hK => ?_); refine goes_x Try.func36 #[.agg #[.int .i64 y.light, .int .i64 y.under, .int .i64 y.trim, .slice y.A3 y.holds.length y.c3, .int .i64 y.leaves, .slice y.A5 y.sills.length y.c5, .slice y.A6 y.lots.length y.c6], .slice B l.length c] ?_; have HBs := Aside0.mk (below_step HBr.out HBq.out)
       with_reducible refine (swarfref07_Drafts.calls dk y.light y.under y.trim y.A3 y.c3 y.holds y.leaves y.A5 y.c5 y.sills y.A6 y.c6 y.lots B c l da db dc dd de _ (YO.out.below HBs.out).h (YO.out.below HBs.out).hc (YO.out.below HBs.out).s (YO.out.below HBs.out).sc (YO.out.below HBs.out).l (YO.out.below HBs.out).lc (Kd.C_below RB.out HBs.out) hc QD2.out).mono ?_
       rintro e j13_14_8 ⟨rfl, hb8_⟩; clear HBs; replace HBq := Aside0.mk (below_step HBq.out hb8_); replace B23 := Aside0.mk (blk_below B23.out hb8_); replace B24 := Aside0.mk (blk_below B24.out hb8_); refine ⟨_, rfl, ?_⟩; refine hK.out _ _ (cbs_y hb8_ hHeld) (fun hHeld => ?_); clear hK K; refine norm_p (some 104) ?_; refine pure_p 9 (some 95) (bz 18 25599) HT_ ?_; refine pure_p 10 (some 105) (bz 18 26623) HT_ ?_; refine pure_p 11 (some 106) (bz 18 28671) HT_ ?_; refine pure_p 12 (some 107) (bz 18 32767) HT_ ?_; exact norm_ (Eq.symm (by (repeat (refine (pa_lit _ _ _ _ _).trans ?_; dsimp only [List.set_cons_succ, List.set_cons_zero])); exact pa_nil _)) (hCont (g23, g24) _ ⟨hHeld, B23, B24, hg23_, hg24_, hne_, HBq⟩)
     ·
      skip
      refine value_ (w1 := ?_) (v := ?_) (by rfl) rfl ?_ ?_; rotate_left 2
      ·
       go_simp
       constructor
       ·
        rfl
       ·
        rfl
      obtain ⟨g24, hg_⟩ : ∃ b, b = wdj.heap.size := ⟨_, rfl⟩; (have hg24_ : w11.heap.size ≤ g24 := by rw [hg_]; exact HBq.out.size); have B24 := Aside0.mk (blk_new wdj (.cells #[.int .i64 0, .int .i64 0] 56 (0, 0))); have hb14_ : Below wdj.heap.size wdj (wdj.alloc (.cells #[.int .i64 0, .int .i64 0] 56 (0, 0))) := below_alloc (Below.refl _ _) _; generalize hw_ : wdj.alloc (.cells #[.int .i64 0, .int .i64 0] 56 (0, 0)) = j14 at *; rw [← hg_] at B24 ⊢; replace HBq := Aside0.mk (below_step HBq.out hb14_); clear hw_ hg_; refine hK.out _ _ (cbs_y hb14_ hHeld) (fun hHeld => ?_); clear hK K; refine norm_p (some 24) ?_; refine two_ (i := 8) (j := 13) (Ni := some 104) (Nj := some 23) (bz 18 16895) (bz 18 24831) rfl rfl rfl rfl (two_of HT_.out (by kernel_rfl)) (by decide) (by decide) (fun K hK => ?_) (fun K hK => ?_)
      ·
       skip
       refine goes_x Try.func36 #[.agg #[.int .i64 y.light, .int .i64 y.under, .int .i64 y.trim, .slice y.A3 y.holds.length y.c3, .int .i64 y.leaves, .slice y.A5 y.sills.length y.c5, .slice y.A6 y.lots.length y.c6], .slice B l.length c] ?_; have HBs := Aside0.mk (below_step HBr.out HBq.out)
       with_reducible refine (swarfref07_Drafts.calls dk y.light y.under y.trim y.A3 y.c3 y.holds y.leaves y.A5 y.c5 y.sills y.A6 y.c6 y.lots B c l da db dc dd de _ (YO.out.below HBs.out).h (YO.out.below HBs.out).hc (YO.out.below HBs.out).s (YO.out.below HBs.out).sc (YO.out.below HBs.out).l (YO.out.below HBs.out).lc (Kd.C_below RB.out HBs.out) hc QD2.out).mono ?_
       rintro e j14_8 ⟨rfl, hb8_⟩; clear HBs; replace HBq := Aside0.mk (below_step HBq.out hb8_); replace B24 := Aside0.mk (blk_below B24.out hb8_); refine ⟨_, rfl, ?_⟩; refine hK.out _ _ (cbs_y hb8_ hHeld) (fun hHeld => ?_); clear hK K; refine norm_p (some 104) ?_; refine pure_p 9 (some 95) (bz 18 17407) HT_ ?_; refine pure_p 10 (some 105) (bz 18 18431) HT_ ?_; refine pure_p 11 (some 106) (bz 18 20479) HT_ ?_; refine pure_p 12 (some 107) (bz 18 24575) HT_ ?_; (refine one_t 13 (some 23) (bz 18 32767) HT_ fun K hK => ?_); refine value_ (w1 := ?_) (v := ?_) (by rfl) rfl ?_ ?_; rotate_left 2
       ·
        go_simp
        constructor
        ·
         rfl
        ·
         rfl
       obtain ⟨g23, hg_⟩ : ∃ b, b = j14_8.heap.size := ⟨_, rfl⟩; (have hg23_ : w11.heap.size ≤ g23 := by rw [hg_]; exact HBq.out.size); (have hne_ : g23 ≠ g24 := by have h_ := blk_lt B24.out; omega); have B23 := Aside0.mk (blk_new j14_8 (.cells #[.int .i64 0, .int .i64 0] 56 (0, 0))); have hb13_ : Below j14_8.heap.size j14_8 (j14_8.alloc (.cells #[.int .i64 0, .int .i64 0] 56 (0, 0))) := below_alloc (Below.refl _ _) _; generalize hw_ : j14_8.alloc (.cells #[.int .i64 0, .int .i64 0] 56 (0, 0)) = j14_8_13 at *; rw [← hg_] at B23 ⊢; replace HBq := Aside0.mk (below_step HBq.out hb13_); replace B24 := Aside0.mk (blk_below B24.out hb13_); clear hw_ hg_; refine hK.out _ _ (cbs_y hb13_ hHeld) (fun hHeld => ?_); clear hK K; refine norm_p (some 23) ?_; exact norm_ (Eq.symm (by (repeat (refine (pa_lit _ _ _ _ _).trans ?_; dsimp only [List.set_cons_succ, List.set_cons_zero])); exact pa_nil _)) (hCont (g23, g24) _ ⟨hHeld, B23, B24, hg23_, hg24_, hne_, HBq⟩)
      ·
       skip
       refine value_ (w1 := ?_) (v := ?_) (by rfl) rfl ?_ ?_; rotate_left 2
       ·
        go_simp
        constructor
        ·
         rfl
        ·
         rfl
       obtain ⟨g23, hg_⟩ : ∃ b, b = j14.heap.size := ⟨_, rfl⟩; (have hg23_ : w11.heap.size ≤ g23 := by rw [hg_]; exact HBq.out.size); (have hne_ : g23 ≠ g24 := by have h_ := blk_lt B24.out; omega); have B23 := Aside0.mk (blk_new j14 (.cells #[.int .i64 0, .int .i64 0] 56 (0, 0))); have hb13_ : Below j14.heap.size j14 (j14.alloc (.cells #[.int .i64 0, .int .i64 0] 56 (0, 0))) := below_alloc (Below.refl _ _) _; generalize hw_ : j14.alloc (.cells #[.int .i64 0, .int .i64 0] 56 (0, 0)) = j14_13 at *; rw [← hg_] at B23 ⊢; replace HBq := Aside0.mk (below_step HBq.out hb13_); replace B24 := Aside0.mk (blk_below B24.out hb13_); clear hw_ hg_; refine hK.out _ _ (cbs_y hb13_ hHeld) (fun hHeld => ?_); clear hK K; refine norm_p (some 23) ?_; (refine one_t 8 (some 104) (bz 18 25087) HT_ fun K hK => ?_); refine goes_x Try.func36 #[.agg #[.int .i64 y.light, .int .i64 y.under, .int .i64 y.trim, .slice y.A3 y.holds.length y.c3, .int .i64 y.leaves, .slice y.A5 y.sills.length y.c5, .slice y.A6 y.lots.length y.c6], .slice B l.length c] ?_; have HBs := Aside0.mk (below_step HBr.out HBq.out)
       with_reducible refine (swarfref07_Drafts.calls dk y.light y.under y.trim y.A3 y.c3 y.holds y.leaves y.A5 y.c5 y.sills y.A6 y.c6 y.lots B c l da db dc dd de _ (YO.out.below HBs.out).h (YO.out.below HBs.out).hc (YO.out.below HBs.out).s (YO.out.below HBs.out).sc (YO.out.below HBs.out).l (YO.out.below HBs.out).lc (Kd.C_below RB.out HBs.out) hc QD2.out).mono ?_
       rintro e j14_13_8 ⟨rfl, hb8_⟩; clear HBs; replace HBq := Aside0.mk (below_step HBq.out hb8_); replace B24 := Aside0.mk (blk_below B24.out hb8_); replace B23 := Aside0.mk (blk_below B23.out hb8_); refine ⟨_, rfl, ?_⟩; refine hK.out _ _ (cbs_y hb8_ hHeld) (fun hHeld => ?_); clear hK K; refine norm_p (some 104) ?_; refine pure_p 9 (some 95) (bz 18 25599) HT_ ?_; refine pure_p 10 (some 105) (bz 18 26623) HT_ ?_; refine pure_p 11 (some 106) (bz 18 28671) HT_ ?_; refine pure_p 12 (some 107) (bz 18 32767) HT_ ?_; exact norm_ (Eq.symm (by (repeat (refine (pa_lit _ _ _ _ _).trans ?_; dsimp only [List.set_cons_succ, List.set_cons_zero])); exact pa_nil _)) (hCont (g23, g24) _ ⟨hHeld, B23, B24, hg23_, hg24_, hne_, HBq⟩)
    clear HBq; rintro ⟨g23, g24⟩ wq ⟨hHeld, B23, B24, hg23_, hg24_, hne_, HBq⟩; refine norm_ (a' := ?_) ?_ ?_; rotate_left
    ·
     (repeat (refine (pa_lit _ _ _ _ _).trans ?_; dsimp only [List.set_cons_succ, List.set_cons_zero])); exact pa_nil _
    refine last_ (i := 15) (N := none) (bz 18 65535) rfl rfl (one_of HT_.out (by kernel_rfl)) (by decide) (fun K hK => ?_); have hz0_ := (blk_cell B23.out 0).trans rfl; have hz1_ := (blk_cell B23.out 1).trans rfl; have hf0_ := blk_frozen B23.out 0; have hf1_ := blk_frozen B23.out 1; refine skip_ (w1 := ?_) (by rfl) rfl ?_ ?_; rotate_left; (go_simp; rfl); refine hK.out _ _ ?_; clear hK K; refine last_ (i := 16) (N := none) (bz 18 131071) rfl rfl (one_of HT_.out (by kernel_rfl)) (by decide) (fun K hK => ?_); have BF_ := Aside0.mk (far_box7 B24.out hne_.symm (.int .i64 da) (.int .i64 db)); have hy0_ := (blk_cell BF_.out 0).trans rfl; have hy1_ := (blk_cell BF_.out 1).trans rfl; have hg0_ := blk_frozen BF_.out 0; have hg1_ := blk_frozen BF_.out 1; refine skip_ (w1 := ?_) (by rfl) rfl ?_ ?_; rotate_left; (go_simp; rfl); refine hK.out _ _ ?_; clear hK K; refine pure_p 17 (some 25) (bz 18 262143) HT_ ?_; refine done_ (done_of HT_.out (by kernel_rfl)) ?_; clear hHeld hz0_ hz1_ hf0_ hf1_ hy0_ hy1_ hg0_ hg1_ BF_ F_; obtain ⟨k1_, k2_⟩ := one_box7 B23.out HBq.out hg23_ (.int .i64 da) (.int .i64 db) rfl; obtain ⟨k3_, k4_⟩ := one_box7 (far_box7 B24.out hne_.symm (.int .i64 da) (.int .i64 db)) k2_ hg24_ (.int .i64 dc) (.int .i64 dd) rfl; replace B23 := Aside0.mk (far_box7 k1_ hne_ (.int .i64 dc) (.int .i64 dd)); replace B24 := Aside0.mk k3_; replace HBq := Aside0.mk k4_; clear k1_ k2_ k3_ k4_; generalize hW_ : (((wq.setCell ⟨g23, 0, none⟩ (.int .i64 da)).setCell ⟨g23, 1, none⟩ (.int .i64 db)).setCell ⟨g24, 0, none⟩ (.int .i64 dc)).setCell ⟨g24, 1, none⟩ (.int .i64 dd) = w12 at *; clear hW_ hg23_ hg24_ hne_; replace HBr := Aside0.mk (below_step HBr.out HBq.out); replace OX := Aside0.mk (OX.out.below HBq.out); replace RI := Aside0.mk (Kd.C_below RI.out HBq.out); replace BO := Aside0.mk (blk_below BO.out HBq.out); replace B20 := Aside0.mk (blk_below B20.out HBq.out); replace B21 := Aside0.mk (blk_below B21.out HBq.out); clear HBq; have hz0_ := (blk_cell BO.out 0).trans rfl; have hz1_ := (blk_cell BO.out 1).trans rfl; have hz2_ := (blk_cell BO.out 2).trans rfl; have hz3_ := (blk_cell BO.out 3).trans rfl; have hz4_ := (blk_cell BO.out 4).trans rfl; have hz5_ := (blk_cell BO.out 5).trans rfl; have hz6_ := (blk_cell BO.out 6).trans rfl
    go_wp2_with (fail)
    refine (ship_Level.calls lk y.light y.under y.trim X3 e3 y.holds y.leaves X5 e5 y.sills X6 e6 y.lots Ai ci l lp la lb le w12 OX.out.h OX.out.hc OX.out.s OX.out.sc OX.out.l OX.out.lc RI.out li_ QL1.out).mono ?_; rintro e w13 ⟨rfl, hb_⟩; replace HBr := Aside0.mk (below_step HBr.out hb_); replace OX := Aside0.mk (OX.out.below hb_); replace RI := Aside0.mk (Kd.C_below RI.out hb_); replace BO := Aside0.mk (blk_below BO.out hb_); replace B20 := Aside0.mk (blk_below B20.out hb_); replace B21 := Aside0.mk (blk_below B21.out hb_); replace B23 := Aside0.mk (blk_below B23.out hb_); replace B24 := Aside0.mk (blk_below B24.out hb_); clear hb_ hz0_ hz1_ hz2_ hz3_ hz4_ hz5_ hz6_
    go_upto_region 17 with (fail)
    obtain ⟨g27, hg_⟩ : ∃ b, b = w13.heap.size := ⟨_, rfl⟩; have B27 := Aside0.mk (blk_new w13 (.cells #[.int .i64 la, .int .i64 lb] 56 (0, 0))); have hbw : Below w13.heap.size w13 (w13.alloc (.cells #[.int .i64 la, .int .i64 lb] 56 (0, 0))) := below_alloc (Below.refl _ _) _; generalize hw_ : w13.alloc (.cells #[.int .i64 la, .int .i64 lb] 56 (0, 0)) = w14 at *; rw [← hg_] at B27 ⊢; replace HBr := Aside0.mk (below_step HBr.out hbw); replace OX := Aside0.mk (OX.out.below hbw); replace RI := Aside0.mk (Kd.C_below RI.out hbw); replace BO := Aside0.mk (blk_below BO.out hbw); replace B20 := Aside0.mk (blk_below B20.out hbw); replace B21 := Aside0.mk (blk_below B21.out hbw); replace B23 := Aside0.mk (blk_below B23.out hbw); replace B24 := Aside0.mk (blk_below B24.out hbw); clear hbw hw_ hg_; have HBq := Aside0.mk (below_drew1 (Below.refl w14.heap.size w14)); have HBs := Aside0.mk (below_step HBr.out HBq.out); have F_ := facts7 (w' := w14.drew) CE.out CL.out HBs.out; clear HBs; refine start_ (n := 17) (S := fun w' => w'.cell? ⟨ga, k * 7, none⟩ = some (.int .i64 y.light) ∧ w'.cell? ⟨ga, k * 7 + 1, none⟩ = some (.int .i64 y.under) ∧ w'.cell? ⟨ga, k * 7 + 2, none⟩ = some (.int .i64 y.trim) ∧ w'.cell? ⟨ga, k * 7 + 3, none⟩ = some (.slice y.A3 y.holds.length y.c3) ∧ w'.cell? ⟨ga, k * 7 + 4, none⟩ = some (.int .i64 y.leaves) ∧ w'.cell? ⟨ga, k * 7 + 5, none⟩ = some (.slice y.A5 y.sills.length y.c5) ∧ w'.cell? ⟨ga, k * 7 + 6, none⟩ = some (.slice y.A6 y.lots.length y.c6) ∧ w'.cell? ⟨gl, k, none⟩ = some (.slice B l.length c)) (ds := [15]) #[false, false, false, false, false, false, false, false, false, false, false, false, false, false, false, false, false] (by kernel_rfl) rfl rfl ⟨F_.1, F_.2.1, F_.2.2.1, F_.2.2.2.1, F_.2.2.2.2.1, F_.2.2.2.2.2.1, F_.2.2.2.2.2.2.1, F_.2.2.2.2.2.2.2⟩ (fun hHeld => ?_); generalize w14.drew = wdm at HBq hHeld ⊢; refine with_tabW drafts7.tab17 drafts7.bits17 (fun HT_ HW_ => ?_); refine pure_p 0 (some 116) (bz 17 1) HT_ ?_; refine pure_p 1 (some 117) (bz 17 3) HT_ ?_; refine pure_p 2 (some 118) (bz 17 7) HT_ ?_; refine pure_p 4 (some 120) (bz 17 23) HT_ ?_; refine pure_p 5 (some 121) (bz 17 55) HT_ ?_; refine pure_p 6 (some 122) (bz 17 119) HT_ ?_; refine take_p 3 (some 119) (bz 17 127) HT_ HW_ hHeld ?_; refine take_p 7 (some 123) (bz 17 255) HT_ HW_ hHeld ?_; refine join_ (σ := Nat) 3 (bz 17 16383) (fun s_ => [(124, .tuple #[.bool lp, .agg #[.int .i64 la, .int .i64 lb], .int .i64 le]), (115, .tuple #[.bool lp, .agg #[.int .i64 la, .int .i64 lb], .int .i64 le]), (125, .bool lp), (126, .agg #[.int .i64 la, .int .i64 lb]), (127, .int .i64 le), (30, .pointer (some ⟨s_, 0, none⟩))]) (fun s_ w' => (w'.cell? ⟨ga, k * 7, none⟩ = some (.int .i64 y.light) ∧ w'.cell? ⟨ga, k * 7 + 1, none⟩ = some (.int .i64 y.under) ∧ w'.cell? ⟨ga, k * 7 + 2, none⟩ = some (.int .i64 y.trim) ∧ w'.cell? ⟨ga, k * 7 + 3, none⟩ = some (.slice y.A3 y.holds.length y.c3) ∧ w'.cell? ⟨ga, k * 7 + 4, none⟩ = some (.int .i64 y.leaves) ∧ w'.cell? ⟨ga, k * 7 + 5, none⟩ = some (.slice y.A5 y.sills.length y.c5) ∧ w'.cell? ⟨ga, k * 7 + 6, none⟩ = some (.slice y.A6 y.lots.length y.c6) ∧ w'.cell? ⟨gl, k, none⟩ = some (.slice B l.length c)) ∧ Aside0 (w'.heap[s_]? = some (.cells #[.int .i64 0, .int .i64 0] 56 (0, 0))) ∧ w14.heap.size ≤ s_ ∧ Aside0 (Below w14.heap.size w14 w')) ?_ ?_; rotate_left
    ·
     intro hCont; refine two_ (i := 8) (j := 13) (Ni := some 124) (Nj := some 30) (bz 17 511) (bz 17 8447) rfl rfl rfl rfl (two_of HT_.out (by kernel_rfl)) (by decide) (by decide) (fun K hK => ?_) (fun K hK => ?_)
     ·
      skip
      refine goes_x Try.func38 #[.agg #[.int .i64 y.light, .int .i64 y.under, .int .i64 y.trim, .slice y.A3 y.holds.length y.c3, .int .i64 y.leaves, .slice y.A5 y.sills.length y.c5, .slice y.A6 y.lots.length y.c6], .slice B l.length c] ?_; have HBs := Aside0.mk (below_step HBr.out HBq.out)
      with_reducible refine (swarfref07_Level.calls lj y.light y.under y.trim y.A3 y.c3 y.holds y.leaves y.A5 y.c5 y.sills y.A6 y.c6 y.lots B c l lp la lb le _ (YO.out.below HBs.out).h (YO.out.below HBs.out).hc (YO.out.below HBs.out).s (YO.out.below HBs.out).sc (YO.out.below HBs.out).l (YO.out.below HBs.out).lc (Kd.C_below RB.out HBs.out) hc QL2.out).mono ?_
      rintro e m8 ⟨rfl, hb8_⟩; clear HBs; replace HBq := Aside0.mk (below_step HBq.out hb8_); refine ⟨_, rfl, ?_⟩; refine hK.out _ _ (cbs_y hb8_ hHeld) (fun hHeld => ?_); clear hK K; refine norm_p (some 124) ?_; refine pure_p 9 (some 115) (bz 17 1023) HT_ ?_; refine pure_p 10 (some 125) (bz 17 2047) HT_ ?_; refine pure_p 11 (some 126) (bz 17 4095) HT_ ?_; refine pure_p 12 (some 127) (bz 17 8191) HT_ ?_; (refine one_t 13 (some 30) (bz 17 16383) HT_ fun K hK => ?_); refine value_ (w1 := ?_) (v := ?_) (by rfl) rfl ?_ ?_; rotate_left 2
      ·
       go_simp
       constructor
       ·
        rfl
       ·
        rfl
      obtain ⟨g30, hg_⟩ : ∃ b, b = m8.heap.size := ⟨_, rfl⟩; (have hg30_ : w14.heap.size ≤ g30 := by rw [hg_]; exact HBq.out.size); have B30 := Aside0.mk (blk_new m8 (.cells #[.int .i64 0, .int .i64 0] 56 (0, 0))); have hb13_ : Below m8.heap.size m8 (m8.alloc (.cells #[.int .i64 0, .int .i64 0] 56 (0, 0))) := below_alloc (Below.refl _ _) _; generalize hw_ : m8.alloc (.cells #[.int .i64 0, .int .i64 0] 56 (0, 0)) = m8_13 at *; rw [← hg_] at B30 ⊢; replace HBq := Aside0.mk (below_step HBq.out hb13_); clear hw_ hg_; refine hK.out _ _ (cbs_y hb13_ hHeld) (fun hHeld => ?_); clear hK K; refine norm_p (some 30) ?_; exact norm_ (Eq.symm (by (repeat (refine (pa_lit _ _ _ _ _).trans ?_; dsimp only [List.set_cons_succ, List.set_cons_zero])); exact pa_nil _)) (hCont g30 _ ⟨hHeld, B30, hg30_, HBq⟩)
     ·
      skip
      refine value_ (w1 := ?_) (v := ?_) (by rfl) rfl ?_ ?_; rotate_left 2
      ·
       go_simp
       constructor
       ·
        rfl
       ·
        rfl
      obtain ⟨g30, hg_⟩ : ∃ b, b = wdm.heap.size := ⟨_, rfl⟩; (have hg30_ : w14.heap.size ≤ g30 := by rw [hg_]; exact HBq.out.size); have B30 := Aside0.mk (blk_new wdm (.cells #[.int .i64 0, .int .i64 0] 56 (0, 0))); have hb13_ : Below wdm.heap.size wdm (wdm.alloc (.cells #[.int .i64 0, .int .i64 0] 56 (0, 0))) := below_alloc (Below.refl _ _) _; generalize hw_ : wdm.alloc (.cells #[.int .i64 0, .int .i64 0] 56 (0, 0)) = m13 at *; rw [← hg_] at B30 ⊢; replace HBq := Aside0.mk (below_step HBq.out hb13_); clear hw_ hg_; refine hK.out _ _ (cbs_y hb13_ hHeld) (fun hHeld => ?_); clear hK K; refine norm_p (some 30) ?_; (refine one_t 8 (some 124) (bz 17 8703) HT_ fun K hK => ?_); refine goes_x Try.func38 #[.agg #[.int .i64 y.light, .int .i64 y.under, .int .i64 y.trim, .slice y.A3 y.holds.length y.c3, .int .i64 y.leaves, .slice y.A5 y.sills.length y.c5, .slice y.A6 y.lots.length y.c6], .slice B l.length c] ?_; have HBs := Aside0.mk (below_step HBr.out HBq.out)
      with_reducible refine (swarfref07_Level.calls lj y.light y.under y.trim y.A3 y.c3 y.holds y.leaves y.A5 y.c5 y.sills y.A6 y.c6 y.lots B c l lp la lb le _ (YO.out.below HBs.out).h (YO.out.below HBs.out).hc (YO.out.below HBs.out).s (YO.out.below HBs.out).sc (YO.out.below HBs.out).l (YO.out.below HBs.out).lc (Kd.C_below RB.out HBs.out) hc QL2.out).mono ?_
      rintro e m13_8 ⟨rfl, hb8_⟩; clear HBs; replace HBq := Aside0.mk (below_step HBq.out hb8_); replace B30 := Aside0.mk (blk_below B30.out hb8_); refine ⟨_, rfl, ?_⟩; refine hK.out _ _ (cbs_y hb8_ hHeld) (fun hHeld => ?_); clear hK K; refine norm_p (some 124) ?_; refine pure_p 9 (some 115) (bz 17 9215) HT_ ?_; refine pure_p 10 (some 125) (bz 17 10239) HT_ ?_; refine pure_p 11 (some 126) (bz 17 12287) HT_ ?_; refine pure_p 12 (some 127) (bz 17 16383) HT_ ?_; exact norm_ (Eq.symm (by (repeat (refine (pa_lit _ _ _ _ _).trans ?_; dsimp only [List.set_cons_succ, List.set_cons_zero])); exact pa_nil _)) (hCont g30 _ ⟨hHeld, B30, hg30_, HBq⟩)
    clear HBq; rintro g30 wq ⟨hHeld, B30, hg30_, HBq⟩; refine norm_ (a' := ?_) ?_ ?_; rotate_left
    ·
     (repeat (refine (pa_lit _ _ _ _ _).trans ?_; dsimp only [List.set_cons_succ, List.set_cons_zero])); exact pa_nil _
    refine pure_p 14 (some 29) (bz 17 32767) HT_ ?_; refine last_ (i := 15) (N := none) (bz 17 65535) rfl rfl (one_of HT_.out (by kernel_rfl)) (by decide) (fun K hK => ?_); have hz0_ := (blk_cell B30.out 0).trans rfl; have hz1_ := (blk_cell B30.out 1).trans rfl; have hf0_ := blk_frozen B30.out 0; have hf1_ := blk_frozen B30.out 1; refine skip_ (w1 := ?_) (by rfl) rfl ?_ ?_; rotate_left; (go_simp; rfl); refine hK.out _ _ ?_; clear hK K; refine pure_p 16 (some 31) (bz 17 131071) HT_ ?_; refine done_ (done_of HT_.out (by kernel_rfl)) ?_; clear hHeld hz0_ hz1_ hf0_ hf1_ F_; obtain ⟨k1_, k2_⟩ := one_box7 B30.out HBq.out hg30_ (.int .i64 la) (.int .i64 lb) rfl; replace B30 := Aside0.mk k1_; replace HBq := Aside0.mk k2_; clear k1_ k2_; generalize hW_ : (wq.setCell ⟨g30, 0, none⟩ (.int .i64 la)).setCell ⟨g30, 1, none⟩ (.int .i64 lb) = w15 at *; clear hW_ hg30_; replace HBr := Aside0.mk (below_step HBr.out HBq.out); replace OX := Aside0.mk (OX.out.below HBq.out); replace RI := Aside0.mk (Kd.C_below RI.out HBq.out); replace BO := Aside0.mk (blk_below BO.out HBq.out); replace B20 := Aside0.mk (blk_below B20.out HBq.out); replace B21 := Aside0.mk (blk_below B21.out HBq.out); replace B23 := Aside0.mk (blk_below B23.out HBq.out); replace B24 := Aside0.mk (blk_below B24.out HBq.out); replace B27 := Aside0.mk (blk_below B27.out HBq.out); clear HBq
    go_upto_region 18 with (fail)
    have hd_ := below_drew1 (Below.refl w15.heap.size w15); replace HBr := Aside0.mk (below_step HBr.out hd_); replace OX := Aside0.mk (OX.out.below hd_); replace RI := Aside0.mk (Kd.C_below RI.out hd_); replace BO := Aside0.mk (blk_below BO.out hd_); replace B20 := Aside0.mk (blk_below B20.out hd_); replace B21 := Aside0.mk (blk_below B21.out hd_); replace B23 := Aside0.mk (blk_below B23.out hd_); replace B24 := Aside0.mk (blk_below B24.out hd_); replace B27 := Aside0.mk (blk_below B27.out hd_); replace B30 := Aside0.mk (blk_below B30.out hd_); clear hd_; have F_ := facts7 (w' := w15.drew) CE.out CL.out HBr.out; refine start_ (n := 53) (S := fun w' => w'.cell? ⟨go, 0, none⟩ = some (.int .i64 y.light) ∧ w'.cell? ⟨go, 1, none⟩ = some (.int .i64 y.under) ∧ w'.cell? ⟨go, 2, none⟩ = some (.int .i64 y.trim) ∧ w'.cell? ⟨go, 3, none⟩ = some (.slice X3 y.holds.length e3) ∧ w'.cell? ⟨go, 4, none⟩ = some (.int .i64 y.leaves) ∧ w'.cell? ⟨go, 5, none⟩ = some (.slice X5 y.sills.length e5) ∧ w'.cell? ⟨go, 6, none⟩ = some (.slice X6 y.lots.length e6) ∧ w'.cell? ⟨ga, k * 7, none⟩ = some (.int .i64 y.light) ∧ w'.cell? ⟨ga, k * 7 + 1, none⟩ = some (.int .i64 y.under) ∧ w'.cell? ⟨ga, k * 7 + 2, none⟩ = some (.int .i64 y.trim) ∧ w'.cell? ⟨ga, k * 7 + 3, none⟩ = some (.slice y.A3 y.holds.length y.c3) ∧ w'.cell? ⟨ga, k * 7 + 4, none⟩ = some (.int .i64 y.leaves) ∧ w'.cell? ⟨ga, k * 7 + 5, none⟩ = some (.slice y.A5 y.sills.length y.c5) ∧ w'.cell? ⟨ga, k * 7 + 6, none⟩ = some (.slice y.A6 y.lots.length y.c6) ∧ w'.cell? ⟨gl, k, none⟩ = some (.slice B l.length c) ∧ w'.cell? ⟨g20, 0, none⟩ = some (.int .i64 da) ∧ w'.cell? ⟨g20, 1, none⟩ = some (.int .i64 db) ∧ w'.cell? ⟨g23, 0, none⟩ = some (.int .i64 da) ∧ w'.cell? ⟨g23, 1, none⟩ = some (.int .i64 db) ∧ w'.cell? ⟨g21, 0, none⟩ = some (.int .i64 dc) ∧ w'.cell? ⟨g21, 1, none⟩ = some (.int .i64 dd) ∧ w'.cell? ⟨g24, 0, none⟩ = some (.int .i64 dc) ∧ w'.cell? ⟨g24, 1, none⟩ = some (.int .i64 dd) ∧ w'.cell? ⟨g27, 0, none⟩ = some (.int .i64 la) ∧ w'.cell? ⟨g27, 1, none⟩ = some (.int .i64 lb) ∧ w'.cell? ⟨g30, 0, none⟩ = some (.int .i64 la) ∧ w'.cell? ⟨g30, 1, none⟩ = some (.int .i64 lb)) (ds := []) #[false, false, false, false, false, false, false, false, false, false, false, false, false, false, false, false, false, false, false, false, false, false, false, false, false, false, false, false, false, false, false, false, false, false, false, false, false, false, false, false, false, false, false, false, false, false, false, false, false, false, false, false, false] (by kernel_rfl) rfl rfl ⟨(blk_cell BO.out 0).trans rfl, (blk_cell BO.out 1).trans rfl, (blk_cell BO.out 2).trans rfl, (blk_cell BO.out 3).trans rfl, (blk_cell BO.out 4).trans rfl, (blk_cell BO.out 5).trans rfl, (blk_cell BO.out 6).trans rfl, F_.1, F_.2.1, F_.2.2.1, F_.2.2.2.1, F_.2.2.2.2.1, F_.2.2.2.2.2.1, F_.2.2.2.2.2.2.1, F_.2.2.2.2.2.2.2, (blk_cell B20.out 0).trans rfl, (blk_cell B20.out 1).trans rfl, (blk_cell B23.out 0).trans rfl, (blk_cell B23.out 1).trans rfl, (blk_cell B21.out 0).trans rfl, (blk_cell B21.out 1).trans rfl, (blk_cell B24.out 0).trans rfl, (blk_cell B24.out 1).trans rfl, (blk_cell B27.out 0).trans rfl, (blk_cell B27.out 1).trans rfl, (blk_cell B30.out 0).trans rfl, (blk_cell B30.out 1).trans rfl⟩ (fun hHeld => ?_); generalize w15.drew = wdn at HBr OX RI BO B20 B21 B23 B24 B27 B30 hHeld ⊢; refine with_tabW drafts7.tab18 drafts7.bits18 (fun HT_ HW_ => ?_); refine pure_p 2 (some 130) (bz 53 4) HT_ ?_; refine pure_p 3 (some 131) (bz 53 12) HT_ ?_; refine pure_p 4 (some 132) (bz 53 28) HT_ ?_; refine take_p 0 (some 128) (bz 53 29) HT_ HW_ hHeld ?_; refine take_p 5 (some 133) (bz 53 61) HT_ HW_ hHeld ?_; (refine one_t 1 (some 129) (bz 53 63) HT_ fun K hK => ?_); refine goes_x Try.func39 #[.agg #[.int .i64 y.light, .int .i64 y.under, .int .i64 y.trim, .slice X3 y.holds.length e3, .int .i64 y.leaves, .slice X5 y.sills.length e5, .slice X6 y.lots.length e6]] ?_
    with_reducible refine (ship_Check.calls ck y.light y.under y.trim X3 e3 y.holds y.leaves X5 e5 y.sills X6 e6 y.lots ce _ OX.out.h OX.out.hc OX.out.s OX.out.sc OX.out.l OX.out.lc QK1.out).mono ?_
    rintro e x1 ⟨rfl, hb_⟩; replace HBr := Aside0.mk (below_step HBr.out hb_); replace OX := Aside0.mk (OX.out.below hb_); replace RI := Aside0.mk (Kd.C_below RI.out hb_); replace BO := Aside0.mk (blk_below BO.out hb_); replace B20 := Aside0.mk (blk_below B20.out hb_); replace B21 := Aside0.mk (blk_below B21.out hb_); replace B23 := Aside0.mk (blk_below B23.out hb_); replace B24 := Aside0.mk (blk_below B24.out hb_); replace B27 := Aside0.mk (blk_below B27.out hb_); replace B30 := Aside0.mk (blk_below B30.out hb_); clear hb_; have F_ := facts7 CE.out CL.out HBr.out; refine ⟨_, rfl, ?_⟩; refine hK.out _ _ ⟨(blk_cell BO.out 0).trans rfl, (blk_cell BO.out 1).trans rfl, (blk_cell BO.out 2).trans rfl, (blk_cell BO.out 3).trans rfl, (blk_cell BO.out 4).trans rfl, (blk_cell BO.out 5).trans rfl, (blk_cell BO.out 6).trans rfl, F_.1, F_.2.1, F_.2.2.1, F_.2.2.2.1, F_.2.2.2.2.1, F_.2.2.2.2.2.1, F_.2.2.2.2.2.2.1, F_.2.2.2.2.2.2.2, (blk_cell B20.out 0).trans rfl, (blk_cell B20.out 1).trans rfl, (blk_cell B23.out 0).trans rfl, (blk_cell B23.out 1).trans rfl, (blk_cell B21.out 0).trans rfl, (blk_cell B21.out 1).trans rfl, (blk_cell B24.out 0).trans rfl, (blk_cell B24.out 1).trans rfl, (blk_cell B27.out 0).trans rfl, (blk_cell B27.out 1).trans rfl, (blk_cell B30.out 0).trans rfl, (blk_cell B30.out 1).trans rfl⟩ (fun hHeld => ?_); clear hK K; refine norm_p (some 129) ?_; (refine one_t 6 (some 134) (bz 53 127) HT_ fun K hK => ?_); refine goes_x Try.func27 #[.agg #[.int .i64 y.light, .int .i64 y.under, .int .i64 y.trim, .slice y.A3 y.holds.length y.c3, .int .i64 y.leaves, .slice y.A5 y.sills.length y.c5, .slice y.A6 y.lots.length y.c6]] ?_
    with_reducible refine (swarfref07_Check.calls cj y.light y.under y.trim y.A3 y.c3 y.holds y.leaves y.A5 y.c5 y.sills y.A6 y.c6 y.lots ce _ (YO.out.below HBr.out).h (YO.out.below HBr.out).hc (YO.out.below HBr.out).s (YO.out.below HBr.out).sc (YO.out.below HBr.out).l (YO.out.below HBr.out).lc QK2.out).mono ?_
    rintro e x2 ⟨rfl, hb_⟩; replace HBr := Aside0.mk (below_step HBr.out hb_); replace OX := Aside0.mk (OX.out.below hb_); replace RI := Aside0.mk (Kd.C_below RI.out hb_); replace BO := Aside0.mk (blk_below BO.out hb_); replace B20 := Aside0.mk (blk_below B20.out hb_); replace B21 := Aside0.mk (blk_below B21.out hb_); replace B23 := Aside0.mk (blk_below B23.out hb_); replace B24 := Aside0.mk (blk_below B24.out hb_); replace B27 := Aside0.mk (blk_below B27.out hb_); replace B30 := Aside0.mk (blk_below B30.out hb_); clear hb_; have F_ := facts7 CE.out CL.out HBr.out; refine ⟨_, rfl, ?_⟩; refine hK.out _ _ ⟨(blk_cell BO.out 0).trans rfl, (blk_cell BO.out 1).trans rfl, (blk_cell BO.out 2).trans rfl, (blk_cell BO.out 3).trans rfl, (blk_cell BO.out 4).trans rfl, (blk_cell BO.out 5).trans rfl, (blk_cell BO.out 6).trans rfl, F_.1, F_.2.1, F_.2.2.1, F_.2.2.2.1, F_.2.2.2.2.1, F_.2.2.2.2.2.1, F_.2.2.2.2.2.2.1, F_.2.2.2.2.2.2.2, (blk_cell B20.out 0).trans rfl, (blk_cell B20.out 1).trans rfl, (blk_cell B23.out 0).trans rfl, (blk_cell B23.out 1).trans rfl, (blk_cell B21.out 0).trans rfl, (blk_cell B21.out 1).trans rfl, (blk_cell B24.out 0).trans rfl, (blk_cell B24.out 1).trans rfl, (blk_cell B27.out 0).trans rfl, (blk_cell B27.out 1).trans rfl, (blk_cell B30.out 0).trans rfl, (blk_cell B30.out 1).trans rfl⟩ (fun hHeld => ?_); clear hK K; refine norm_p (some 134) ?_; refine pure_p 7 (some 135) (bz 53 255) HT_ ?_; refine pure_p 8 (some 136) (bz 53 511) HT_ ?_; refine pure_p 10 (some 138) (bz 53 1535) HT_ ?_; refine pure_p 12 (some 140) (bz 53 5631) HT_ ?_; refine pure_p 13 (some 141) (bz 53 13823) HT_ ?_; refine pure_p 14 (some 142) (bz 53 30207) HT_ ?_; refine pure_p 16 (some 144) (bz 53 95743) HT_ ?_; refine pure_p 17 (some 145) (bz 53 226815) HT_ ?_; refine pure_p 18 (some 146) (bz 53 488959) HT_ ?_; refine take_p 9 (some 137) (bz 53 489471) HT_ HW_ hHeld ?_; refine take_p 15 (some 143) (bz 53 522239) HT_ HW_ hHeld ?_; refine take_p 19 (some 147) (bz 53 1046527) HT_ HW_ hHeld ?_; (refine one_t 11 (some 139) (bz 53 1048575) HT_ fun K hK => ?_); refine goes_x Try.func40 #[.agg #[.int .i64 y.light, .int .i64 y.under, .int .i64 y.trim, .slice X3 y.holds.length e3, .int .i64 y.leaves, .slice X5 y.sills.length e5, .slice X6 y.lots.length e6], .slice Ai l.length ci] ?_
    with_reducible refine (ship_CheckStowage.calls sk y.light y.under y.trim X3 e3 y.holds y.leaves X5 e5 y.sills X6 e6 y.lots Ai ci l se _ OX.out.h OX.out.hc OX.out.s OX.out.sc OX.out.l OX.out.lc RI.out li_ QS1.out).mono ?_
    rintro e x3 ⟨rfl, hb_⟩; replace HBr := Aside0.mk (below_step HBr.out hb_); replace OX := Aside0.mk (OX.out.below hb_); replace RI := Aside0.mk (Kd.C_below RI.out hb_); replace BO := Aside0.mk (blk_below BO.out hb_); replace B20 := Aside0.mk (blk_below B20.out hb_); replace B21 := Aside0.mk (blk_below B21.out hb_); replace B23 := Aside0.mk (blk_below B23.out hb_); replace B24 := Aside0.mk (blk_below B24.out hb_); replace B27 := Aside0.mk (blk_below B27.out hb_); replace B30 := Aside0.mk (blk_below B30.out hb_); clear hb_; have F_ := facts7 CE.out CL.out HBr.out; refine ⟨_, rfl, ?_⟩; refine hK.out _ _ ⟨(blk_cell BO.out 0).trans rfl, (blk_cell BO.out 1).trans rfl, (blk_cell BO.out 2).trans rfl, (blk_cell BO.out 3).trans rfl, (blk_cell BO.out 4).trans rfl, (blk_cell BO.out 5).trans rfl, (blk_cell BO.out 6).trans rfl, F_.1, F_.2.1, F_.2.2.1, F_.2.2.2.1, F_.2.2.2.2.1, F_.2.2.2.2.2.1, F_.2.2.2.2.2.2.1, F_.2.2.2.2.2.2.2, (blk_cell B20.out 0).trans rfl, (blk_cell B20.out 1).trans rfl, (blk_cell B23.out 0).trans rfl, (blk_cell B23.out 1).trans rfl, (blk_cell B21.out 0).trans rfl, (blk_cell B21.out 1).trans rfl, (blk_cell B24.out 0).trans rfl, (blk_cell B24.out 1).trans rfl, (blk_cell B27.out 0).trans rfl, (blk_cell B27.out 1).trans rfl, (blk_cell B30.out 0).trans rfl, (blk_cell B30.out 1).trans rfl⟩ (fun hHeld => ?_); clear hK K; refine norm_p (some 139) ?_; (refine one_t 20 (some 148) (bz 53 2097151) HT_ fun K hK => ?_); refine goes_x Try.func41 #[.agg #[.int .i64 y.light, .int .i64 y.under, .int .i64 y.trim, .slice y.A3 y.holds.length y.c3, .int .i64 y.leaves, .slice y.A5 y.sills.length y.c5, .slice y.A6 y.lots.length y.c6], .slice B l.length c] ?_
    with_reducible refine (swarfref07_CheckStowage.calls sj y.light y.under y.trim y.A3 y.c3 y.holds y.leaves y.A5 y.c5 y.sills y.A6 y.c6 y.lots B c l se _ (YO.out.below HBr.out).h (YO.out.below HBr.out).hc (YO.out.below HBr.out).s (YO.out.below HBr.out).sc (YO.out.below HBr.out).l (YO.out.below HBr.out).lc (Kd.C_below RB.out HBr.out) hc QS2.out).mono ?_
    rintro e x4 ⟨rfl, hb_⟩; replace HBr := Aside0.mk (below_step HBr.out hb_); replace OX := Aside0.mk (OX.out.below hb_); replace RI := Aside0.mk (Kd.C_below RI.out hb_); replace BO := Aside0.mk (blk_below BO.out hb_); replace B20 := Aside0.mk (blk_below B20.out hb_); replace B21 := Aside0.mk (blk_below B21.out hb_); replace B23 := Aside0.mk (blk_below B23.out hb_); replace B24 := Aside0.mk (blk_below B24.out hb_); replace B27 := Aside0.mk (blk_below B27.out hb_); replace B30 := Aside0.mk (blk_below B30.out hb_); clear hb_; have F_ := facts7 CE.out CL.out HBr.out; refine ⟨_, rfl, ?_⟩; refine hK.out _ _ ⟨(blk_cell BO.out 0).trans rfl, (blk_cell BO.out 1).trans rfl, (blk_cell BO.out 2).trans rfl, (blk_cell BO.out 3).trans rfl, (blk_cell BO.out 4).trans rfl, (blk_cell BO.out 5).trans rfl, (blk_cell BO.out 6).trans rfl, F_.1, F_.2.1, F_.2.2.1, F_.2.2.2.1, F_.2.2.2.2.1, F_.2.2.2.2.2.1, F_.2.2.2.2.2.2.1, F_.2.2.2.2.2.2.2, (blk_cell B20.out 0).trans rfl, (blk_cell B20.out 1).trans rfl, (blk_cell B23.out 0).trans rfl, (blk_cell B23.out 1).trans rfl, (blk_cell B21.out 0).trans rfl, (blk_cell B21.out 1).trans rfl, (blk_cell B24.out 0).trans rfl, (blk_cell B24.out 1).trans rfl, (blk_cell B27.out 0).trans rfl, (blk_cell B27.out 1).trans rfl, (blk_cell B30.out 0).trans rfl, (blk_cell B30.out 1).trans rfl⟩ (fun hHeld => ?_); clear hK K; refine norm_p (some 148) ?_; refine pure_p 21 (some 149) (bz 53 4194303) HT_ ?_; refine pure_p 22 (some 150) (bz 53 8388607) HT_ ?_; refine pure_p 23 (some 151) (bz 53 16777215) HT_ ?_; refine take_p 24 (some 152) (bz 53 33554431) HT_ HW_ hHeld ?_; refine take_p 25 (some 153) (bz 53 67108863) HT_ HW_ hHeld ?_; refine pure_p 26 (some 154) (bz 53 134217727) HT_ ?_; refine pure_p 27 (some 155) (bz 53 268435455) HT_ ?_; refine pure_p 28 (some 156) (bz 53 536870911) HT_ ?_; refine take_p 29 (some 157) (bz 53 1073741823) HT_ HW_ hHeld ?_; refine take_p 30 (some 158) (bz 53 2147483647) HT_ HW_ hHeld ?_; refine pure_p 31 (some 159) (bz 53 4294967295) HT_ ?_; refine pure_p 32 (some 160) (bz 53 8589934591) HT_ ?_; refine pure_p 33 (some 161) (bz 53 17179869183) HT_ ?_; refine pure_p 34 (some 162) (bz 53 34359738367) HT_ ?_; refine pure_p 35 (some 163) (bz 53 68719476735) HT_ ?_; refine pure_p 36 (some 164) (bz 53 137438953471) HT_ ?_; refine pure_p 37 (some 165) (bz 53 274877906943) HT_ ?_; refine pure_p 38 (some 166) (bz 53 549755813887) HT_ ?_; refine pure_p 39 (some 167) (bz 53 1099511627775) HT_ ?_; refine pure_p 40 (some 168) (bz 53 2199023255551) HT_ ?_; refine pure_p 41 (some 169) (bz 53 4398046511103) HT_ ?_; refine pure_p 42 (some 170) (bz 53 8796093022207) HT_ ?_; refine pure_p 43 (some 171) (bz 53 17592186044415) HT_ ?_; refine take_p 44 (some 172) (bz 53 35184372088831) HT_ HW_ hHeld ?_; refine take_p 45 (some 173) (bz 53 70368744177663) HT_ HW_ hHeld ?_; refine pure_p 46 (some 174) (bz 53 140737488355327) HT_ ?_; refine pure_p 47 (some 175) (bz 53 281474976710655) HT_ ?_; refine pure_p 48 (some 176) (bz 53 562949953421311) HT_ ?_; refine pure_p 49 (some 177) (bz 53 1125899906842623) HT_ ?_; refine pure_p 50 (some 178) (bz 53 2251799813685247) HT_ ?_; refine pure_p 51 (some 179) (bz 53 4503599627370495) HT_ ?_; refine pure_p 52 (some 180) (bz 53 9007199254740991) HT_ ?_; refine done_ (done_of HT_.out (by kernel_rfl)) ?_; clear hHeld B20 B21 B23 B24 B27 B30 F_
    go_upto_region 20 with (fail)
    have hd_ := below_drew1 (Below.refl x4.heap.size x4); replace HBr := Aside0.mk (below_step HBr.out hd_); replace OX := Aside0.mk (OX.out.below hd_); replace RI := Aside0.mk (Kd.C_below RI.out hd_); replace BO := Aside0.mk (blk_below BO.out hd_); clear hd_; have F_ := facts7 (w' := x4.drew) CE.out CL.out HBr.out; refine start_ (n := 16) (S := fun w' => w'.cell? ⟨go, 0, none⟩ = some (.int .i64 y.light) ∧ w'.cell? ⟨go, 1, none⟩ = some (.int .i64 y.under) ∧ w'.cell? ⟨go, 2, none⟩ = some (.int .i64 y.trim) ∧ w'.cell? ⟨go, 3, none⟩ = some (.slice X3 y.holds.length e3) ∧ w'.cell? ⟨go, 4, none⟩ = some (.int .i64 y.leaves) ∧ w'.cell? ⟨go, 5, none⟩ = some (.slice X5 y.sills.length e5) ∧ w'.cell? ⟨go, 6, none⟩ = some (.slice X6 y.lots.length e6) ∧ w'.cell? ⟨ga, k * 7, none⟩ = some (.int .i64 y.light) ∧ w'.cell? ⟨ga, k * 7 + 1, none⟩ = some (.int .i64 y.under) ∧ w'.cell? ⟨ga, k * 7 + 2, none⟩ = some (.int .i64 y.trim) ∧ w'.cell? ⟨ga, k * 7 + 3, none⟩ = some (.slice y.A3 y.holds.length y.c3) ∧ w'.cell? ⟨ga, k * 7 + 4, none⟩ = some (.int .i64 y.leaves) ∧ w'.cell? ⟨ga, k * 7 + 5, none⟩ = some (.slice y.A5 y.sills.length y.c5) ∧ w'.cell? ⟨ga, k * 7 + 6, none⟩ = some (.slice y.A6 y.lots.length y.c6) ∧ w'.cell? ⟨gl, k, none⟩ = some (.slice B l.length c)) (ds := []) #[false, false, false, false, false, false, false, false, false, false, false, false, false, false, false, false] (by kernel_rfl) rfl rfl ⟨(blk_cell BO.out 0).trans rfl, (blk_cell BO.out 1).trans rfl, (blk_cell BO.out 2).trans rfl, (blk_cell BO.out 3).trans rfl, (blk_cell BO.out 4).trans rfl, (blk_cell BO.out 5).trans rfl, (blk_cell BO.out 6).trans rfl, F_.1, F_.2.1, F_.2.2.1, F_.2.2.2.1, F_.2.2.2.2.1, F_.2.2.2.2.2.1, F_.2.2.2.2.2.2.1, F_.2.2.2.2.2.2.2⟩ (fun hHeld => ?_); generalize x4.drew = wdo at HBr BO OX RI hHeld ⊢; refine with_tabW drafts7.tab20 drafts7.bits20 (fun HT_ HW_ => ?_); refine pure_p 1 (some 182) (bz 16 2) HT_ ?_; refine pure_p 2 (some 183) (bz 16 6) HT_ ?_; refine pure_p 3 (some 184) (bz 16 14) HT_ ?_; refine take_p 0 (some 181) (bz 16 15) HT_ HW_ hHeld ?_; refine take_p 4 (some 185) (bz 16 31) HT_ HW_ hHeld ?_; (refine one_t 5 (some 186) (bz 16 63) HT_ fun K hK => ?_); refine goes_x Try.func25 #[.agg #[.int .i64 y.light, .int .i64 y.under, .int .i64 y.trim, .slice X3 y.holds.length e3, .int .i64 y.leaves, .slice X5 y.sills.length e5, .slice X6 y.lots.length e6], .agg #[.int .i64 y.light, .int .i64 y.under, .int .i64 y.trim, .slice y.A3 y.holds.length y.c3, .int .i64 y.leaves, .slice y.A5 y.sills.length y.c5, .slice y.A6 y.lots.length y.c6]] ?_
    with_reducible refine (sameV_calls y.light y.under y.trim y.leaves X3 y.A3 e3 y.c3 y.holds X5 y.A5 e5 y.c5 y.sills X6 y.A6 e6 y.c6 y.lots _ OX.out (YO.out.below HBr.out) QV.out.1 QV.out.2.1 QV.out.2.2).mono ?_
    rintro e x5 ⟨rfl, hb_⟩; replace HBr := Aside0.mk (below_step HBr.out hb_); replace OX := Aside0.mk (OX.out.below hb_); replace RI := Aside0.mk (Kd.C_below RI.out hb_); replace BO := Aside0.mk (blk_below BO.out hb_); clear hb_; have F_ := facts7 CE.out CL.out HBr.out; refine ⟨_, rfl, ?_⟩; refine hK.out _ _ ⟨(blk_cell BO.out 0).trans rfl, (blk_cell BO.out 1).trans rfl, (blk_cell BO.out 2).trans rfl, (blk_cell BO.out 3).trans rfl, (blk_cell BO.out 4).trans rfl, (blk_cell BO.out 5).trans rfl, (blk_cell BO.out 6).trans rfl, F_.1, F_.2.1, F_.2.2.1, F_.2.2.2.1, F_.2.2.2.2.1, F_.2.2.2.2.2.1, F_.2.2.2.2.2.2.1, F_.2.2.2.2.2.2.2⟩ (fun hHeld => ?_); clear hK K; refine norm_p (some 186) ?_; refine pure_p 6 (some 187) (bz 16 127) HT_ ?_; refine pure_p 7 (some 188) (bz 16 255) HT_ ?_; refine pure_p 8 (some 189) (bz 16 511) HT_ ?_; refine pure_p 9 (some 190) (bz 16 1023) HT_ ?_; refine pure_p 10 (some 191) (bz 16 2047) HT_ ?_; refine pure_p 11 (some 192) (bz 16 4095) HT_ ?_; refine take_p 12 (some 193) (bz 16 8191) HT_ HW_ hHeld ?_; (refine one_t 13 (some 194) (bz 16 16383) HT_ fun K hK => ?_); refine goes_x Try.func26 #[.slice Ai l.length ci, .slice B l.length c] ?_
    with_reducible refine (swarfkit_EqualInts.calls kn Ai ci l B c l true _ RI.out li_ (Kd.C_below RB.out HBr.out) hc QN.out).mono ?_
    rintro e x6 ⟨rfl, hd_⟩; have hb_ := hd_.below; clear hd_; replace HBr := Aside0.mk (below_step HBr.out hb_); replace OX := Aside0.mk (OX.out.below hb_); replace RI := Aside0.mk (Kd.C_below RI.out hb_); replace BO := Aside0.mk (blk_below BO.out hb_); clear hb_; have F_ := facts7 CE.out CL.out HBr.out; refine ⟨_, rfl, ?_⟩; refine hK.out _ _ ⟨(blk_cell BO.out 0).trans rfl, (blk_cell BO.out 1).trans rfl, (blk_cell BO.out 2).trans rfl, (blk_cell BO.out 3).trans rfl, (blk_cell BO.out 4).trans rfl, (blk_cell BO.out 5).trans rfl, (blk_cell BO.out 6).trans rfl, F_.1, F_.2.1, F_.2.2.1, F_.2.2.2.1, F_.2.2.2.2.1, F_.2.2.2.2.2.1, F_.2.2.2.2.2.2.1, F_.2.2.2.2.2.2.2⟩ (fun hHeld => ?_); clear hK K; refine norm_p (some 194) ?_; refine pure_p 14 (some 195) (bz 16 32767) HT_ ?_; refine pure_p 15 (some 196) (bz 16 65535) HT_ ?_; refine done_ (done_of HT_.out (by kernel_rfl)) ?_; clear hHeld F_; go_wp2; refine Handed.intro (4 - (k + 1)) ?measure ?_; rotate_left
    go_step
    (repeat apply Exists.intro)
    refine ⟨?rel, ?fr⟩
    case fr =>
     refine act_eq7 ?_
     repeat (refine cons_eq7 ?_)
     rfl
    case measure => omega
    case rel => exact ⟨k + 1, by omega, by omega, by go_num, HBr⟩
   ·
    (have : k = 4 := by omega); subst this
    go_wp2_with (fail)
    refine (swarflaw07_awake.calls ka true _ HAW.out).mono ?_; rintro e z4 ⟨rfl, hb_⟩; have HBz := Aside0.mk (below_step HBj.out (below_step HBr.out hb_)); clear hb_; go_wp2; go_ret; exact ⟨rfl, HBz.out⟩
theorem draftQ_of {L U R V : Int} {holds : List S85} {sills : List S59} {lots : List S79} (hn : Narrow holds sills lots) (hc : swarfkit_CopyVoyage.f L U R holds V sills lots = some (L, U, R, holds, V, sills, lots)) (s : List Int) (hsl : s.length ≤ 1000) : DraftQ L U R holds V sills lots s := by
  obtain ⟨a, b, c, d, e, h1, h2⟩ := drafts_both (L := L) (U := U) (R := R) (V := V) hn s hsl
  obtain ⟨kd, h2⟩ := h2.rounds
  obtain ⟨p, y, z, e2, h3, h4⟩ := level_both (L := L) (U := U) (R := R) (V := V) hn s hsl
  obtain ⟨k3, h3⟩ := h3.rounds
  obtain ⟨k4, h4⟩ := h4.rounds
  obtain ⟨k5, h5⟩ := (shipCheck_ev L U R V holds sills lots hn.h hn.s hn.n hn.l).rounds
  obtain ⟨k6, h6⟩ := (refCheck_ev L U R V holds sills lots hn.h hn.s hn.n hn.l).rounds
  obtain ⟨k7, h7⟩ := (shipCS_ev (L := L) (U := U) (R := R) (V := V) hn s hsl).rounds
  obtain ⟨k8, h8⟩ := (refCS_ev (L := L) (U := U) (R := R) (V := V) hn s hsl).rounds
  refine ⟨hc, ?_, ⟨a, b, c, d, e, kd, h1, h2⟩, ⟨p, y, z, e2, k3, k4, h3, h4⟩, ⟨_, k5, k6, h5, h6⟩, ⟨_, k7, k8, h7, h8⟩, ⟨by have := hn.h; omega, by have := hn.l; omega, by have := hn.s; omega, fun y hy => by have := hn.n y hy; omega⟩, (selfInts_ev s (by omega)).rounds⟩
  unfold swarfkit_Ints.f
  simp only [Option.bind_some, List.length_nil, Nat.zero_add, List.nil_append]
  rw [if_pos (by omega)]
theorem round_of (n : Int) (m : Nat) (hm : 0 < m) (hb : m ≤ 1000000) : ∃ r : Nat, r < m ∧ swarfkit_Round.f n (m : Int) = some (r : Int) := by
  unfold swarfkit_Round.f
  by_cases h : (m : Int) < 2
  · exact ⟨0, hm, by rw [if_pos h]; rfl⟩
  · have h1 : -(m : Int) < n.tmod m ∧ n.tmod m < (m : Int) := by
      have a1 := Int.lt_tmod_of_pos n (show (0 : Int) < m by omega)
      have a2 := Int.tmod_lt_of_pos n (show (0 : Int) < m by omega)
      omega
    rw [if_neg h, if_neg (by omega), wrap64_id (by omega) (by omega)]
    have h2 : 0 ≤ (n.tmod m + (m : Int)).tmod m := Int.tmod_nonneg _ (by omega)
    have h3 : (n.tmod m + (m : Int)).tmod m < (m : Int) := Int.tmod_lt_of_pos _ (by omega)
    exact ⟨((n.tmod m + (m : Int)).tmod m).toNat, by omega, by rw [Int.toNat_of_nonneg h2]⟩
theorem drafts_all (x : VoyV) (Ag : Option Addr) (cg : Nat) (sg : List Int) (at_ hold : Int) (A1 : Option Addr) (c1 : Nat) (l1 : List Int) (w : World) (hx : x.Ok w) (hrg : Kd.C (Kd.int .i64) w Ag sg.length sg) (hcg : sg.length ≤ cg) (hbg : sg.length * 8 ≤ 140737488351232) (_ : (Lit.int .i64 at_).wf = true) (_ : (Lit.int .i64 hold).wf = true) (hr1 : Kd.C (Kd.int .i64) w A1 l1.length l1) (hc1 : l1.length ≤ c1) (hb8 : l1.length * 8 ≤ 140737488351232) :
    Calls Try.prog 7 #[.agg #[.int .i64 x.light, .int .i64 x.under, .int .i64 x.trim, .slice x.A3 x.holds.length x.c3, .int .i64 x.leaves, .slice x.A5 x.sills.length x.c5, .slice x.A6 x.lots.length x.c6], .slice Ag sg.length cg, .int .i64 at_, .int .i64 hold, .slice A1 l1.length c1] w fun e w' => e = .returned (.bool true) ∧ Below w.heap.size w w' := by
  obtain ⟨b, hb, hnar⟩ := wide_res x.light x.under x.trim x.leaves x.holds x.sills x.lots
  obtain ⟨kw, hkw⟩ := hb.rounds
  obtain ⟨ka, hka⟩ := awake_ev.rounds
  cases b with
  | true => exact drafts_wide x Ag cg sg at_ hold A1 c1 l1 w hx hrg hcg hkw (.inl rfl) hka
  | false =>
    by_cases hlg : (sg.length : Int) > 20
    · exact drafts_wide x Ag cg sg at_ hold A1 c1 l1 w hx hrg hcg hkw (.inr ⟨rfl, hlg⟩) hka
    · obtain ⟨hn, n1, n2, n3, n4⟩ := hnar rfl
      have e0 : swarfkit_FeedOf.f l1 = some (feedAll l1) := by unfold swarfkit_FeedOf.f; rw [if_pos (by omega)]
      obtain ⟨T, f1, e1, hT⟩ := either_ok (feedAll l1) [4, 30] (by simp) (show 2 ≤ 1000 by decide)
      have hTb : 1 ≤ T ∧ T ≤ 1000 := by
        rcases List.mem_cons.1 hT with rfl | hT
        · omega
        · rw [List.mem_singleton.1 hT]; omega
      obtain ⟨⟨L, U, R, holds, V, sills, lots, f2⟩, e2, hv⟩ := voyageOf_res f1 3 2 5 T (by decide) (by decide) (by decide) (by decide) hTb.1 hTb.2
      obtain ⟨⟨s, f3⟩, e3, hs⟩ := stowageOf_res hv (by decide) (by decide) hTb.2 f2
      replace hs : StowOK holds lots s := hs
      replace hv : VoyOK 3 2 5 T L U R holds V sills lots := hv
      obtain ⟨kv, e2⟩ := e2.rounds
      obtain ⟨ks, e3⟩ := e3.rounds
      have hsl : s.length ≤ 1000 := by have := hs.len; have := hv.ln; omega
      have hnm : Narrow holds sills lots := ⟨by have := hv.hn; omega, by have := hv.sn; omega, fun y hy => by obtain ⟨_, _, _, _, a5, _⟩ := hv.si y hy; omega, by have := hv.ln; omega⟩
      have hcx : swarfkit_CopyVoyage.f x.light x.under x.trim x.holds x.leaves x.sills x.lots = some (x.light, x.under, x.trim, x.holds, x.leaves, x.sills, x.lots) := by
        unfold swarfkit_CopyVoyage.f
        rw [if_pos ⟨by omega, by omega, by omega, fun y hy => by have := n4 y hy; omega⟩]
      have hcm := copy_ok hv (by decide) (by decide) (by decide)
      obtain ⟨ot, hot, hol⟩ : ∃ ot : List Int, (((s.length : Int) = 0 ∧ ot = s) ∨ (∃ r : Nat, r < s.length ∧ swarfkit_Round.f at_ (s.length : Int) = some (r : Int) ∧ ot = s.set r hold)) ∧ ot.length ≤ 1000 := by
        by_cases h : s.length = 0
        · exact ⟨s, .inl ⟨by omega, rfl⟩, hsl⟩
        · obtain ⟨r, h1, h2⟩ := round_of at_ s.length (by omega) (by omega)
          exact ⟨s.set r hold, .inr ⟨r, h1, h2, rfl⟩, by rw [List.length_set]; exact hsl⟩
      have hq2 := draftQ_of (V := V) hnm hcm s hsl
      exact drafts_walk x Ag cg sg at_ hold A1 c1 l1 w hx hrg hcg hr1 hc1 hkw hlg e0 e1 e2 e3 hq2.i hot (draftQ_of hn hcx sg (by omega)) hq2 (draftQ_of hnm hcm ot hol) (draftQ_of hnm hcm sg (by omega)) hka
end Go.Proofs.Ytodmemndaaiolaa.PC7
namespace Go.Proofs.Ytodmemndaaiolaa.shipDrafts
open Go.ChangeShapes Go.WideShapes Go.ChangeAt Go.RowKit Go.Proofs.Ytodmemndaaiolaa Go.Proofs.YtodmemndaaiolaaW
open Go.ChangeMaps (open_string shut_string)
set_option linter.unusedVariables false
theorem own : ownKnob Try.prog.godebug = none := by kernel_rfl
theorem laidOut : laidOutB Try.prog = true := by kernel_rfl
set_option maxRecDepth 100000 in
theorem lifted (os : Os) (started : os.Started) (H : Type) (enc : TypeId × Value → H) :
    ReturnsInHanded {} Try.checked os 7 .any (Rows.shipDraftsSpec.pre6 enc Try.prog Try.f7 Rows.shipDraftsRow.domain false) (Rows.shipDraftsSpec.post enc Try.prog Try.f7 false true false false) := by
  refine returnsInHanded_of_change_sized (C := Try.checked) own started (by kernel_rfl) Try.func7
    (ChangeSpec.witness6 (enc := enc) (C := Try.checked) false ⟨#[], #[.agg #[.int .i64 0, .int .i64 0, .int .i64 0, .slice none 0 0, .int .i64 0, .slice none 0 0, .slice none 0 0], .slice none 0 0, .int .i64 0, .int .i64 0, .slice none 0 0], []⟩ 8 (by kernel_rfl) (by kernel_rfl) (by kernel_rfl) (by kernel_rfl)) ?_
  intro W base args ds gs before hval0 hW hcnd hsz0 _
  have hsz : (DataW.weightsEach Try.prog (Try.f7.params.toList ++ Rows.shipDraftsSpec.plain.varTypes Try.prog) (ds ++ gs)).all (· ≤ reachBytes) = true := hsz0
  have hval : ∀ (j : Nat) t v, Try.f7.params[j]? = some t → args[j]? = some v → Value.okWide Try.prog W .any base t v := hval0
  have hW' := hW
  obtain ⟨p, q, hA0, hV, rfl, hfz, hnd⟩ := hW
  have hA : DataW.TrodAll enc Try.prog W 0 (fun _ => true) true Try.f7.params.toList args.toList ds p := hA0
  rw [Try.params7] at hA hval hsz
  obtain ⟨v0, vs0, d0, ds0, p0, q0, hargs, rfl, rfl, h0, r0⟩ := trodAll_cons hA
  obtain ⟨v1, vs1, d1, ds1, p1, q1, rfl, rfl, rfl, h1, r1⟩ := trodAll_cons r0
  obtain ⟨v2, vs2, d2, ds2, p2, q2, rfl, rfl, rfl, h2, r2⟩ := trodAll_cons r1
  obtain ⟨v3, vs3, d3, ds3, p3, q3, rfl, rfl, rfl, h3, r3⟩ := trodAll_cons r2
  obtain ⟨v4, vs4, d4, ds4, p4, q4, rfl, rfl, rfl, h4, r4⟩ := trodAll_cons r3
  obtain ⟨rfl, rfl, rfl⟩ := trodAll_nil r4
  obtain rfl : args = #[v0, v1, v2, v3, v4] := by cases args; simp_all
  obtain ⟨rfl, rfl⟩ := trodVars_none hV
  have k0 := h0
  have lt0 : ∀ x ∈ p0, x.block < W.heap.size := by obtain ⟨m, hm⟩ := k0; exact DataW.trod_lt m _ _ _ hm
  obtain ⟨x0, rfl, hx0⟩ := PC7.open_voy (hval 0 26 v0 rfl rfl) h0
  obtain ⟨a1, len1, cap1, rfl⟩ := okWide_slice Try.underlying27 (hval 1 27 v1 rfl rfl)
  have k1 := h1
  have lt1 : ∀ x ∈ p1, x.block < W.heap.size := by obtain ⟨m, hm⟩ := k1; exact DataW.trod_lt m _ _ _ hm
  have y1 : len1 * 8 ≤ 140737488351232 := Go.Proofs.YtodmemndaaiolaaW.PrintWords.sized_ints hsz (j := 1) (t := 27) rfl rfl Try.underlying27 Try.underlying3 (by kernel_rfl) (by kernel_rfl) h1
  obtain ⟨A1, c1, l1, e1, hl1, _, hC1⟩ := (fun h => let ⟨_, hf⟩ := h; PC7.open_row (d := PrintWords.Kd.int .i64) (e := 3) Try.underlying27 (by kernel_rfl) (PC7.opens_int Try.underlying3) hf : _ → _) h1
  have f1 : [Value.slice a1 len1 cap1] = [Value.slice A1 l1.length c1] := e1
  injection f1 with f1 _
  injection f1 with f1 g1 k_1
  subst f1; subst g1; subst k_1
  obtain ⟨a2, rfl, rfl, rfl, w2⟩ := open_int Try.underlying3 (hval 2 3 v2 rfl rfl) h2
  obtain ⟨a3, rfl, rfl, rfl, w3⟩ := open_int Try.underlying3 (hval 3 3 v3 rfl rfl) h3
  obtain ⟨a4, len4, cap4, rfl⟩ := okWide_slice Try.underlying27 (hval 4 27 v4 rfl rfl)
  have k4 := h4
  have lt4 : ∀ x ∈ p4, x.block < W.heap.size := by obtain ⟨m, hm⟩ := k4; exact DataW.trod_lt m _ _ _ hm
  have y4 : len4 * 8 ≤ 140737488351232 := Go.Proofs.YtodmemndaaiolaaW.PrintWords.sized_ints hsz (j := 4) (t := 27) rfl rfl Try.underlying27 Try.underlying3 (by kernel_rfl) (by kernel_rfl) h4
  obtain ⟨A4, c4, l4, e4, hl4, _, hC4⟩ := (fun h => let ⟨_, hf⟩ := h; PC7.open_row (d := PrintWords.Kd.int .i64) (e := 3) Try.underlying27 (by kernel_rfl) (PC7.opens_int Try.underlying3) hf : _ → _) h4
  have f4 : [Value.slice a4 len4 cap4] = [Value.slice A4 l4.length c4] := e4
  injection f4 with f4 _
  injection f4 with f4 g4 k_4
  subst f4; subst g4; subst k_4
  clear hA0 hval0 hsz0 hsz
  refine (PC7.drafts_all x0 a1 cap1 l1 a2 a3 a4 cap4 l4 W hx0 hC1 hl1 (by omega) w2 w3 hC4 hl4 (by omega)).mono fun e W' ⟨he, bel⟩ => ?_
  subst he
  exact ⟨_, rfl, _, _, _, [], _, [], hW', trodAll_mk1 (shut_bool Try.underlying4 _), (trodAll_cons_mk (Below.trod laidOut (by kernel_rfl) (of_decide_eq_true (by kernel_rfl)) k0 bel lt0) (trodAll_cons_mk (Below.trod laidOut (by kernel_rfl) (of_decide_eq_true (by kernel_rfl)) k1 bel lt1) (trodAll_cons_mk (shut_int Try.underlying3 w2) (trodAll_cons_mk (shut_int Try.underlying3 w3) (trodAll_cons_mk (Below.trod laidOut (by kernel_rfl) (of_decide_eq_true (by kernel_rfl)) k4 bel lt4) trodAll_mk0))))), rfl, bel.frame _, fun h => by cases h⟩
theorem over : Rows.shipDraftsRow.holds Try.pinned (OpenSpec.ofChange Rows.shipDraftsSpec) :=
  OpenClaim.holds_of_wide 7 Try.f7 rfl rfl rfl rfl rfl rfl rfl ⟨rfl, rfl, rfl, rfl, rfl⟩ rfl rfl rfl rfl rfl (by kernel_rfl) Try.func7 (by kernel_rfl)
    (of_decide_eq_true (by kernel_rfl)) (by unfold Func.isWrapper; first | (rw [if_pos (by decide +kernel)]; kernel_rfl) | (rw [if_neg (by decide +kernel)]; exact ⟨rfl, rfl⟩))
    (fun os started H enc _ => lifted os started H enc)
theorem proved : Rows.ShipDraftsSaid := over
#print axioms proved
end Go.Proofs.Ytodmemndaaiolaa.shipDrafts
namespace Go.Proofs.Ytodmemndaaiolaa
theorem shipDrafts_holds : Rows.ShipDraftsSaid := shipDrafts.proved
end Go.Proofs.Ytodmemndaaiolaa
