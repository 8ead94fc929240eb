/- Crush says what the reference says, for every car, every list of papers and every list of numbers. -/
import Derived.Test.YtkkmfcdikkiodaaCStripCrushes1
import Derived.Test.YtkkmfcdikkiodaaCStripCrushes3
import Derived.Test.YtkkmfcdikkiodaaCStripCrushes2
import Derived.Test.YtkkmfcdikkiodaaCStripCrushes4
import Derived.Outline
import Derived.StillTailTactics
import Derived.Deep.QuietTactic
import Derived.SizedLaws
import Derived.ChangeSlices
import Derived.Deep.Slices
import Derived.Deep.Fields
import Derived.ChangeSame
import Derived.Lib.SmallJoins
import Derived.Test.YtkkmfcdikkiodaaRows
import Derived.WalkKit
import Derived.ProofKit
import Derived.OpenShut
import Derived.ShutString
import Derived.ChangeOld
import Derived.Below
namespace Go.Proofs.Ytkkmfcdikkiodaa.PC4
set_option linter.unusedVariables false
set_option linter.unusedSimpArgs false
open Go.RowKit Go.Proofs.YtkkmfcdikkiodaaW.PrintWords Go.Proofs.YtkkmfcdikkiodaaW.PrintLast Go.Proofs.YtkkmfcdikkiodaaW.PrintMore
def healed : List S50 → Int → Nat → List S50 × Int
  | xs, s, 0 => (xs, s)
  | xs, s, d + 1 =>
    let k := xs.length - (d + 1)
    if (xs.getD k z50).f1 then
      match swarfkit_Feed_Often.f s 1 3 with
      | some (b, s') => healed (xs.set k (badTo b (xs.getD k z50))) s' d
      | none => healed xs s d
    else healed (xs.set k (badTo false (xs.getD k z50))) s d
theorem healed_bad {xs : List S50} {s s' : Int} {m k : Nat} {b : Bool} (hl : xs.length = m) (hk : k < m) (hb : (xs.getD k z50).f1 = true) (ho : swarfkit_Feed_Often.f s 1 3 = some (b, s')) : healed xs s (m - k) = healed (xs.set k (badTo b (xs.getD k z50))) s' (m - (k + 1)) := by
  obtain ⟨d, hd⟩ : ∃ d, m - k = d + 1 := ⟨m - (k + 1), by omega⟩
  have hd2 : m - (k + 1) = d := by omega
  have hkk : xs.length - (d + 1) = k := by omega
  rw [hd, hd2]
  simp only [healed, hkk, hb, if_true, ho]
theorem healed_good {xs : List S50} {s : Int} {m k : Nat} (hl : xs.length = m) (hk : k < m) (hb : (xs.getD k z50).f1 = false) : healed xs s (m - k) = healed (xs.set k (badTo false (xs.getD k z50))) s (m - (k + 1)) := by
  obtain ⟨d, hd⟩ : ∃ d, m - k = d + 1 := ⟨m - (k + 1), by omega⟩
  have hd2 : m - (k + 1) = d := by omega
  have hkk : xs.length - (d + 1) = k := by omega
  rw [hd, hd2]
  simp only [healed, hkk, hb, Bool.false_eq_true, if_false]
structure CrushEq (x : CarV) (l : List Int) : Prop where
  copy : ∃ k, swarfkit_CopyCar.f k x.parts x.swap x.looks x.wrong x.needs = some (x.parts, x.swap, x.looks, x.wrong, x.needs)
  ints : swarfkit_Ints.f l = some l
  crush : ∃ e, strip_Crush.f x.parts x.swap x.looks x.wrong x.needs l = some e ∧ ∃ k, swarfref04_Crush.f k x.parts x.swap x.looks x.wrong x.needs l = some e
  same : SameOK x
  sameL : ∃ k, swarfkit_EqualInts.f k l l = some true
def crush10.T9 : Bool × List (List Nat × List Nat) := (true, [([], []), ([0], [0]), ([], []), ([], []), ([3], [3]), ([], []), ([4, 5], [4, 5]), ([6], [6]), ([7], [7]), ([8], [8]), ([9], [9]), ([10, 9, 9], [9, 10]), ([9, 11], [9, 11]), ([1, 2, 0, 1, 2, 3, 4, 5, 6, 7, 8, 9, 10, 11, 12], [1, 2]), ([13, 0, 1, 2, 3, 4, 5, 6, 7, 8, 9, 10, 11, 12], [13]), ([14, 12, 11, 0, 1, 2, 3, 4, 5, 6, 7, 8, 9, 10, 11, 12], [12, 14])])
def crush10.B9 : List Nat := [0, 1, 0, 0, 8, 0, 56, 120, 248, 504, 1016, 2040, 4088, 8191, 16383, 32767]
theorem crush10.tab9 : rtab .any (opsOf Try.f10 9) = crush10.T9 := by kernel_rfl
theorem crush10.bits9 : waitsOk crush10.T9.2 crush10.B9 = true := by kernel_rfl
def crush10.T10 : Bool × List (List Nat × List Nat) := (true, [([], []), ([], []), ([], []), ([], []), ([0, 1, 2, 3], [0, 1, 2, 3]), ([], []), ([], []), ([6], [6]), ([], []), ([8], [8]), ([], []), ([5, 7, 9, 10], [5, 7, 9, 10]), ([4, 7, 0, 1, 2, 3, 4], [4]), ([11, 12, 0, 1, 2, 3, 4, 5, 6, 7, 8, 9, 10, 11, 12], [11])])
def crush10.B10 : List Nat := [0, 0, 0, 0, 15, 0, 0, 64, 0, 256, 0, 2016, 223, 8191]
theorem crush10.tab10 : rtab .any (opsOf Try.f10 10) = crush10.T10 := by kernel_rfl
theorem crush10.bits10 : waitsOk crush10.T10.2 crush10.B10 = true := by kernel_rfl
def crush10.T14 : Bool × List (List Nat × List Nat) := (true, [([], []), ([], []), ([0, 1], [0, 1]), ([2], [2]), ([3], [3]), ([], []), ([], []), ([5, 6], [5, 6]), ([7], [7]), ([8, 4], [8]), ([], []), ([10, 4, 9, 0, 1, 2, 3, 4, 10], [4, 10]), ([9, 11, 0, 1, 2, 3, 4, 5, 6, 7, 8, 9, 10, 11], [9])])
def crush10.B14 : List Nat := [0, 0, 3, 7, 15, 0, 0, 96, 224, 511, 0, 2047, 4095]
theorem crush10.tab14 : rtab .any (opsOf Try.f10 14) = crush10.T14 := by kernel_rfl
theorem crush10.bits14 : waitsOk crush10.T14.2 crush10.B14 = true := by kernel_rfl
def crush10.T15 : Bool × List (List Nat × List Nat) := (true, [([], []), ([], []), ([0, 1], [0, 1]), ([], []), ([], []), ([3, 4], [3, 4]), ([5], [5]), ([], []), ([], []), ([7, 8], [7, 8]), ([9], [9]), ([6, 10, 2], [6, 10]), ([2, 11], [2, 11]), ([12, 11], [12]), ([13], [13]), ([13], [13]), ([13], [13]), ([15, 16, 13], [13, 15, 16]), ([17, 13], [13, 17]), ([14, 18, 13, 13], [13, 14, 18]), ([19, 13], [13, 19]), ([13, 20], [13, 20]), ([21, 19], [21]), ([22], [22]), ([22], [22]), ([22], [22]), ([24, 25, 22], [22, 24, 25]), ([26, 22], [22, 26]), ([23, 27, 22, 22], [22, 23, 27]), ([28, 22], [22, 28]), ([22, 29], [22, 29])])
def crush10.B15 : List Nat := [0, 0, 3, 0, 0, 24, 56, 0, 0, 384, 896, 2047, 4095, 8191, 16383, 16383, 16383, 114687, 245759, 524287, 1048575, 2097151, 4194303, 8388607, 8388607, 8388607, 58720255, 125829119, 268435455, 536870911, 1073741823]
theorem crush10.tab15 : rtab .any (opsOf Try.f10 15) = crush10.T15 := by kernel_rfl
theorem crush10.bits15 : waitsOk crush10.T15.2 crush10.B15 = true := by kernel_rfl
set_option maxHeartbeats 8000000 in
set_option maxRecDepth 100000 in
theorem crush_walk (x : CarV) (A1 : Option Addr) (c1 : Nat) (l1 : List Int) (A2 : Option Addr) (c2 : Nat) (l2 : List Int) (w : World) (hx : x.Ok w) (hr1 : Kd.C (Kd.int .i64) w A1 l1.length l1) (hc1 : l1.length ≤ c1) (hl1 : l1.length ≤ 20) (hr2 : Kd.C (Kd.int .i64) w A2 l2.length l2) (hc2 : l2.length ≤ c2)
    (hu : ∃ k, swarflaw04_huge.f k x.parts x.swap x.looks x.wrong x.needs = some false)
    {feed f2 : Int} {kc km : Nat} {mp : List S50} {ms : Int} {ml : List S61} {mw : Int} {mn_ : List Int} {st : List Bool} (hf : swarfkit_FeedOf.f l2 = some feed) (hcar : swarfkit_CarOf.f kc feed 5 8 = some (mp, ms, ml, mw, mn_, st, f2))
    (hcm : swarfkit_CopyCar.f km mp ms ml mw mn_ = some (mp, ms, ml, mw, mn_)) (hml0 : mp.length ≤ 1000) (hoft : ∀ s, ∃ b s', swarfkit_Feed_Often.f s 1 3 = some (b, s'))
    {cp : List S50} {fs f3 : Int} {ko : Nat} {ord : List Int} (hheal : healed mp f2 mp.length = (cp, fs)) (hord : swarfkit_Feed_Order.f ko fs 9 = some (ord, f3))
    (hqx : CrushEq x l1) (hqm : ∀ m0 d0 m2 d2 m4 d4, CrushEq ⟨m0, d0, mp, ms, m2, d2, ml, mw, m4, d4, mn_⟩ ord) (hqn : ∀ m0 d0 m2 d2 m4 d4, CrushEq ⟨m0, d0, cp, ms, m2, d2, ml, mw, m4, d4, mn_⟩ mn_) (hqp : ∀ m0 d0 m2 d2 m4 d4, CrushEq ⟨m0, d0, mp, ms, m2, d2, ml, mw, m4, d4, mn_⟩ l1)
    {ka : Nat} (ha : swarflaw04_awake.f ka = some true) :
    Calls Try.prog 10 #[.agg #[.slice x.A0 x.parts.length x.c0, .int .i64 x.swap, .slice x.A2 x.looks.length x.c2, .int .i64 x.wrong, .slice x.A4 x.needs.length x.c4], .slice A1 l1.length c1, .slice A2 l2.length c2] w fun e w' => e = .returned (.bool true) ∧ Below w.heap.size w w' := by
  have hu26 := Try.underlying26
  have hu50 := Try.underlying50
  obtain ⟨ku, hu⟩ := hu
  have HX := Aside0.mk hx
  have HU := Aside0.mk hu
  have HR1 := Aside0.mk hr1
  have HR2 := Aside0.mk hr2
  have HF := Aside0.mk hf
  have HC := Aside0.mk hcar
  have HCM := Aside0.mk hcm
  have HO := Aside0.mk hoft
  have HHL := Aside0.mk hheal
  have HORD := Aside0.mk hord
  have HQx := Aside0.mk hqx
  have HQm := Aside0.mk hqm
  have HQn := Aside0.mk hqn
  have HQp := Aside0.mk hqp
  have HA := Aside0.mk ha
  clear hx hu hr1 hr2 hf hcar hcm hoft hheal hord hqx hqm hqn hqp ha
  have hb20 : decide ((20 : Int) < (l1.length : Int)) = false := decide_eq_false (by omega)
  go_enter Try.func10, Try.ntmps10
  go_wp2_with (first
    | ((with_reducible refine gate_dst (N := 3) rfl ?_); refine box_event ?hg (N := 3) ?hd (cs := #[.slice x.A0 x.parts.length x.c0, .int .i64 x.swap, .slice x.A2 x.looks.length x.c2, .int .i64 x.wrong, .slice x.A4 x.needs.length x.c4]) (t := 26) ?hr ?_; (case hd => rfl); (case hg => rfl); (case hr => first | (go_simp; done) | (go_simp; rfl)); intro gb hg w2 hbox hb2; have BK2 := Aside0.mk hbox; have HB2 := Aside0.mk hb2; clear hg hbox hb2; have hz0_ := (blk_cell BK2.out 0).trans rfl; have hz1_ := (blk_cell BK2.out 1).trans rfl; have hz2_ := (blk_cell BK2.out 2).trans rfl; have hz3_ := (blk_cell BK2.out 3).trans rfl; have hz4_ := (blk_cell BK2.out 4).trans rfl))
  refine (swarflaw04_huge.calls ku x.A0 x.c0 x.parts x.swap x.A2 x.c2 x.looks x.wrong x.A4 x.c4 x.needs false w2 (HX.out.below HB2.out).p HX.out.pc (HX.out.below HB2.out).l HX.out.lc (HX.out.below HB2.out).n HX.out.nc HU.out).mono ?_
  rintro e w3 ⟨rfl, hb3⟩
  have HB3 := Aside0.mk (below_step HB2.out hb3)
  have BK3 := Aside0.mk (blk_below BK2.out hb3)
  clear hz0_ hz1_ hz2_ hz3_ hz4_ hb3 HB2 BK2
  go_wp2_with (fail)
  refine (swarfkit_FeedOf.calls A2 c2 l2 feed w w3 HB3.out HR2.out hc2 HF.out).mono ?_
  rintro e w4 ⟨g, rfl, hi4, hb4, hb34⟩
  have BK4 := Aside0.mk (blk_below BK3.out hb34)
  have HI4 := Aside0.mk hi4
  have HB4 := Aside0.mk hb4
  clear hi4 hb4 hb34
  go_wp2_with (fail)
  refine (swarfkit_CarOf.calls kc g feed 5 8 mp ms ml mw mn_ st f2 w w4 HI4.out HB4.out HC.out).mono ?_
  rintro e w5 ⟨v0, v2, v4, v5, rfl, ho0, ho1, ho2, ho3, hi5, hb5, hk5⟩
  obtain ⟨m0, d0, rfl⟩ := Kd.S_slice ho0
  obtain ⟨m2, d2, rfl⟩ := Kd.R_slice ho1
  obtain ⟨m4, d4, rfl⟩ := Kd.R_slice ho2
  obtain ⟨m5, d5, rfl⟩ := Kd.R_slice ho3
  have MO := Aside0.mk (OwnC.lt (x := ⟨m0, d0, mp, ms, m2, d2, ml, mw, m4, d4, mn_⟩) (ok := fun _ => True) ⟨Kd.S_mono ho0 (fun _ _ => trivial), Kd.R_mono ho1 (fun _ _ => trivial), Kd.R_mono ho2 (fun _ _ => trivial)⟩)
  have BK5 := Aside0.mk (KeepBut.blk hk5 BK4.out (IsS79.ne_blk HI4.out BK4.out (by decide)).symm (by simp))
  have HB5 := Aside0.mk hb5
  have HI5 := Aside0.mk hi5
  clear ho0 ho1 ho2 ho3 hi5 hb5 hk5 HB4 HI4 BK3 BK4 HB3
  go_upto_region 5 with (fail)
  obtain ⟨gm, hgm⟩ : ∃ b, b = w5.heap.size := ⟨_, rfl⟩
  have BM := Aside0.mk (blk_new w5 (.cells #[.slice m0 mp.length d0, .int .i64 ms, .slice m2 ml.length d2, .int .i64 mw, .slice m4 mn_.length d4] 26 (0, 0)))
  have hbw : Below w5.heap.size w5 (w5.alloc (.cells #[.slice m0 mp.length d0, .int .i64 ms, .slice m2 ml.length d2, .int .i64 mw, .slice m4 mn_.length d4] 26 (0, 0))) := below_alloc (Below.refl _ _) _
  generalize hw6 : w5.alloc (.cells #[.slice m0 mp.length d0, .int .i64 ms, .slice m2 ml.length d2, .int .i64 mw, .slice m4 mn_.length d4] 26 (0, 0)) = w6 at *
  rw [← hgm] at BM MO ⊢
  have BK6 := Aside0.mk (blk_below BK5.out hbw)
  have HB6 := Aside0.mk (below_step HB5.out hbw)
  have HI6 := Aside0.mk (IsS79.below HI5.out hbw)
  have MO6 := Aside0.mk (MO.out.below hbw)
  have hgl : Aside0 (gm < w6.heap.size) := ⟨blk_lt BM.out⟩
  have HS6 := Aside0.mk HB6.out.size
  clear hbw hw6 hgm BK5 HB5 HI5 MO
  have hy0_ := (blk_cell BM.out 0).trans rfl
  have hy1_ := (blk_cell BM.out 1).trans rfl
  have hy2_ := (blk_cell BM.out 2).trans rfl
  have hy3_ := (blk_cell BM.out 3).trans rfl
  have hy4_ := (blk_cell BM.out 4).trans rfl
  go_wp2_with (fail)
  have MC := MO6.out.car
  refine (swarfkit_CopyCar.calls km m0 d0 mp ms m2 d2 ml mw m4 d4 mn_ mp ms ml mw mn_ w6 MC.p MC.pc MC.l MC.lc MC.n MC.nc HCM.out).mono ?_
  rintro e w7 ⟨v0, v2, v4, rfl, hp0, hp1, hp2, hb7⟩
  obtain ⟨n0, e0, rfl⟩ := Kd.S_slice hp0
  obtain ⟨n2, e2, rfl⟩ := Kd.R_slice hp1
  obtain ⟨n4, e4, rfl⟩ := Kd.R_slice hp2
  have CO7 := Aside0.mk (show OwnC w7 w6.heap.size (fun _ => True) ⟨n0, e0, mp, ms, n2, e2, ml, mw, n4, e4, mn_⟩ from ⟨Kd.S_mono hp0 (fun _ _ => trivial), Kd.R_mono hp1 (fun _ _ => trivial), Kd.R_mono hp2 (fun _ _ => trivial)⟩)
  have HB7 := Aside0.mk (below_step HB6.out hb7)
  have BK7 := Aside0.mk (blk_below BK6.out hb7)
  have BM7 := Aside0.mk (blk_below BM.out hb7)
  have HI7 := Aside0.mk (IsS79.below HI6.out hb7)
  have MO7 := Aside0.mk (MO6.out.below hb7)
  have HS7 := Aside0.mk hb7.size
  clear MC hp0 hp1 hp2 hb7 hy0_ hy1_ hy2_ hy3_ hy4_ BK6 BM HB6 HI6 MO6
  go_upto_region 6 with (fail)
  obtain ⟨gn, hgn⟩ : ∃ b, b = w7.heap.size := ⟨_, rfl⟩
  have BN8 := Aside0.mk (blk_new w7 (.cells #[.slice n0 mp.length e0, .int .i64 ms, .slice n2 ml.length e2, .int .i64 mw, .slice n4 mn_.length e4] 26 (0, 0)))
  have hbw : Below w7.heap.size w7 (w7.alloc (.cells #[.slice n0 mp.length e0, .int .i64 ms, .slice n2 ml.length e2, .int .i64 mw, .slice n4 mn_.length e4] 26 (0, 0))) := below_alloc (Below.refl _ _) _
  generalize hw8 : w7.alloc (.cells #[.slice n0 mp.length e0, .int .i64 ms, .slice n2 ml.length e2, .int .i64 mw, .slice n4 mn_.length e4] 26 (0, 0)) = w8 at *
  rw [← hgn] at BN8 ⊢
  have BK8 := Aside0.mk (blk_below BK7.out hbw)
  have BM8 := Aside0.mk (blk_below BM7.out hbw)
  have HB8 := Aside0.mk (below_step HB7.out hbw)
  have HI8 := Aside0.mk (IsS79.below HI7.out hbw)
  have MO8 := Aside0.mk (MO7.out.below hbw)
  have CO8 := Aside0.mk (CO7.out.below hbw)
  clear hbw hw8 hgn BK7 BM7 HB7 HI7 MO7 CO7
  go_wp2_with (fail)
  have L0 := Aside0.mk hml0
  clear hml0
  go_loopg [11] mp.length (fun gk v11 wr => ∃ (k : Nat) (xs : List S50) (s : Int), k ≤ mp.length ∧ mp.length - k ≤ gk ∧ v11 = .int .i64 k ∧ Aside0 (xs.length = mp.length) ∧ Aside0 (healed xs s (mp.length - k) = healed mp f2 mp.length) ∧
    Aside0 (wr.heap[gb]? = some (.cells #[.slice x.A0 x.parts.length x.c0, .int .i64 x.swap, .slice x.A2 x.looks.length x.c2, .int .i64 x.wrong, .slice x.A4 x.needs.length x.c4] 26 (0, 0))) ∧ Aside0 (wr.heap[gm]? = some (.cells #[.slice m0 mp.length d0, .int .i64 ms, .slice m2 ml.length d2, .int .i64 mw, .slice m4 mn_.length d4] 26 (0, 0))) ∧ Aside0 (wr.heap[gn]? = some (.cells #[.slice n0 mp.length e0, .int .i64 ms, .slice n2 ml.length e2, .int .i64 mw, .slice n4 mn_.length e4] 26 (0, 0))) ∧ Aside0 (Below w.heap.size w wr) ∧ Aside0 (IsS79 w wr g s) ∧
    Aside0 (OwnC wr w4.heap.size (fun k => True ∧ k < gm) ⟨m0, d0, mp, ms, m2, d2, ml, mw, m4, d4, mn_⟩) ∧ Aside0 (OwnC wr w6.heap.size (fun _ => True) ⟨n0, e0, xs, ms, n2, e2, ml, mw, n4, e4, mn_⟩))
  case atStart => exact ⟨0, mp, f2, by omega, by omega, rfl, ⟨rfl⟩, ⟨rfl⟩, BK8, BM8, BN8, HB8, HI8, MO8, CO8⟩
  case round =>
    obtain ⟨k, xs, s, hk, hgk, rfl, XL, XH, BKr, BMr, BNr, HBr, HIr, MOr, COr⟩ := hrel
    have hk1000 := L0.out
    have hn0_ := (blk_cell BNr.out 0).trans rfl
    by_cases hlt : k < mp.length
    · have hlz : (k : Int) < (mp.length : Int) := by omega
      obtain ⟨q, hq, hq1, hq2, _⟩ := COr.out.head (by show 0 < xs.length; rw [XL.out]; omega)
      have hq : n0 = some ⟨q, 0, none⟩ := hq
      subst hq
      go_upto_region 9 with (fail)
      rcases hbad : (xs.getD k z50).f1 with _ | _
      · skip
        have hg1 : Aside0 (gn ≠ g) := ⟨(IsS79.ne_blk HIr.out BNr.out (by decide)).symm⟩
        have hg2 : Aside0 (q ≠ g) := ⟨fun e => IsS79.own_neS HIr.out COr.out.p (by decide) (by rw [← e]; simp [Value.ownBlock])⟩
        obtain ⟨_, _, hbc, hbf⟩ := s50_bad COr.out.p k (by show k < xs.length; rw [XL.out]; exact hlt) true
        have hbc : wr.cell? ⟨q, k * 4 + 1, none⟩ = some (.bool (xs.getD k z50).f1) := hbc
        rw [hbad] at hbc
        have HBAD := Aside0.mk hbad
        clear hbad
        have hn0_ : wr.cell? ⟨gn, 0, none⟩ = some (.slice (some ⟨q, 0, none⟩) mp.length e0) := (blk_cell BNr.out 0).trans rfl
        have hd := below_drew1 (Below.refl wr.heap.size wr)
        replace BKr := Aside0.mk (blk_drew BKr.out)
        replace BMr := Aside0.mk (blk_drew BMr.out)
        replace BNr := Aside0.mk (blk_drew BNr.out)
        replace HBr := Aside0.mk (below_step HBr.out hd)
        replace HIr := Aside0.mk (IsS79.drew HIr.out)
        replace MOr := Aside0.mk (MOr.out.below hd)
        replace COr := Aside0.mk (COr.out.below hd)
        clear hd
        refine start_ (n := 16) (S := fun w' => w'.cell? ⟨gn, 0, none⟩ = some (.slice (some ⟨q, 0, none⟩) mp.length e0) ∧ w'.cell? ⟨q, k * 4 + 1, none⟩ = some (.bool false)) (ds := [15]) #[false, false, false, false, false, false, false, false, false, false, false, false, false, false, false, false] (by kernel_rfl) rfl rfl ⟨hn0_, hbc⟩ (fun hHeld => ?_)
        generalize wr.drew = wd at BKr BMr BNr HBr HIr MOr COr hHeld ⊢
        refine with_tabW crush10.tab9 crush10.bits9 (fun HT_ HW_ => ?_)
        refine pure_ (i := 0) (N := some 41) (v := ?_) (a' := ?_) #[true, false, false, false, false, false, false, false, false, false, false, false, false, false, false, false] rfl rfl (any_of HT_.out (by kernel_rfl)) (fun _ _ _ h => h) (Or.inl ⟨by rfl, ?_⟩) ?_ ?_
        rotate_left
        · intro w'
          go_simp
          with_reducible rfl
        rotate_left
        · refine (put_lit _ _ _ _).trans ?_; dsimp only [List.set_cons_succ, List.set_cons_zero]
          rfl
        refine pure_ (i := 2) (N := some 43) (v := ?_) (a' := ?_) #[true, false, true, false, false, false, false, false, false, false, false, false, false, false, false, false] rfl rfl (any_of HT_.out (by kernel_rfl)) (fun _ _ _ h => h) (Or.inl ⟨by rfl, ?_⟩) ?_ ?_
        rotate_left
        · intro w'
          go_simp
          with_reducible rfl
        rotate_left
        · refine (put_lit _ _ _ _).trans ?_; dsimp only [List.set_cons_succ, List.set_cons_zero]
          rfl
        refine pure_ (i := 3) (N := some 44) (v := ?_) (a' := ?_) #[true, false, true, true, false, false, false, false, false, false, false, false, false, false, false, false] rfl rfl (any_of HT_.out (by kernel_rfl)) (fun _ _ _ h => h) (Or.inl ⟨by rfl, ?_⟩) ?_ ?_
        rotate_left
        · intro w'
          go_simp
          with_reducible rfl
        rotate_left
        · refine (put_lit _ _ _ _).trans ?_; dsimp only [List.set_cons_succ, List.set_cons_zero]
          rfl
        refine pure_ (i := 5) (N := some 46) (v := ?_) (a' := ?_) #[true, false, true, true, false, true, false, false, false, false, false, false, false, false, false, false] rfl rfl (any_of HT_.out (by kernel_rfl)) (fun _ _ _ h => h) (Or.inl ⟨by rfl, ?_⟩) ?_ ?_
        rotate_left
        · intro w'
          go_simp
          with_reducible rfl
        rotate_left
        · refine (put_lit _ _ _ _).trans ?_; dsimp only [List.set_cons_succ, List.set_cons_zero]
          rfl
        refine take_ (i := 1) (N := some 42) (v := ?_) (a' := ?_) #[true, true, true, true, false, true, false, false, false, false, false, false, false, false, false, false] rfl rfl (take_ofW HT_.out HW_.out (by kernel_rfl)) (fun _ _ _ h => h) (Or.inl ⟨by rfl, ?_⟩) hHeld ?_ ?_
        rotate_left
        · rintro w' ⟨s0, s1⟩
          go_simp
          with_reducible rfl
        rotate_left
        · refine (put_lit _ _ _ _).trans ?_; dsimp only [List.set_cons_succ, List.set_cons_zero]
          rfl
        refine take_ (i := 4) (N := some 45) (v := ?_) (a' := ?_) #[true, true, true, true, true, true, false, false, false, false, false, false, false, false, false, false] rfl rfl (take_ofW HT_.out HW_.out (by kernel_rfl)) (fun _ _ _ h => h) (Or.inl ⟨by rfl, ?_⟩) hHeld ?_ ?_
        rotate_left
        · rintro w' ⟨s0, s1⟩
          go_simp
          with_reducible rfl
        rotate_left
        · refine (put_lit _ _ _ _).trans ?_; dsimp only [List.set_cons_succ, List.set_cons_zero]
          rfl
        refine pure_ (i := 6) (N := some 47) (v := ?_) (a' := ?_) #[true, true, true, true, true, true, true, false, false, false, false, false, false, false, false, false] rfl rfl (any_of HT_.out (by kernel_rfl)) (fun _ _ _ h => h) (Or.inl ⟨by rfl, ?_⟩) ?_ ?_
        rotate_left
        · intro w'
          go_simp
          with_reducible rfl
        rotate_left
        · refine (put_lit _ _ _ _).trans ?_; dsimp only [List.set_cons_succ, List.set_cons_zero]
          rfl
        refine pure_ (i := 7) (N := some 48) (v := ?_) (a' := ?_) #[true, true, true, true, true, true, true, true, false, false, false, false, false, false, false, false] rfl rfl (any_of HT_.out (by kernel_rfl)) (fun _ _ _ h => h) (Or.inl ⟨by rfl, ?_⟩) ?_ ?_
        rotate_left
        · intro w'
          go_simp
          with_reducible rfl
        rotate_left
        · refine (put_lit _ _ _ _).trans ?_; dsimp only [List.set_cons_succ, List.set_cons_zero]
          rfl
        refine take_ (i := 8) (N := some 49) (v := ?_) (a' := ?_) #[true, true, true, true, true, true, true, true, true, false, false, false, false, false, false, false] rfl rfl (take_ofW HT_.out HW_.out (by kernel_rfl)) (fun _ _ _ h => h) (Or.inl ⟨by rfl, ?_⟩) hHeld ?_ ?_
        rotate_left
        · rintro w' ⟨s0, s1⟩
          go_simp
          with_reducible rfl
        rotate_left
        · refine (put_lit _ _ _ _).trans ?_; dsimp only [List.set_cons_succ, List.set_cons_zero]
          rfl
        refine pure_ (i := 9) (N := some 50) (v := ?_) (a' := ?_) #[true, true, true, true, true, true, true, true, true, true, false, false, false, false, false, false] rfl rfl (any_of HT_.out (by kernel_rfl)) (fun _ _ _ h => h) (Or.inl ⟨by rfl, ?_⟩) ?_ ?_
        rotate_left
        · intro w'
          go_simp
          with_reducible rfl
        rotate_left
        · refine (put_lit _ _ _ _).trans ?_; dsimp only [List.set_cons_succ, List.set_cons_zero]
          rfl
        refine pure_ (i := 10) (N := some 51) (v := undef) (a' := ?_) #[true, true, true, true, true, true, true, true, true, true, true, false, false, false, false, false] rfl rfl (any_of HT_.out (by kernel_rfl)) (fun _ _ _ h => h) (Or.inr ⟨by rfl, rfl⟩) ?_ ?_
        rotate_left
        · refine (put_lit _ _ _ _).trans ?_; dsimp only [List.set_cons_succ, List.set_cons_zero]
          rfl
        refine pure_ (i := 11) (N := some 52) (v := undef) (a' := ?_) #[true, true, true, true, true, true, true, true, true, true, true, true, false, false, false, false] rfl rfl (any_of HT_.out (by kernel_rfl)) (fun _ _ _ h => h) (Or.inr ⟨by rfl, rfl⟩) ?_ ?_
        rotate_left
        · refine (put_lit _ _ _ _).trans ?_; dsimp only [List.set_cons_succ, List.set_cons_zero]
          rfl
        refine pure_ (i := 12) (N := some 53) (v := ?_) (a' := ?_) #[true, true, true, true, true, true, true, true, true, true, true, true, true, false, false, false] rfl rfl (any_of HT_.out (by kernel_rfl)) (fun _ _ _ h => h) (Or.inl ⟨by rfl, ?_⟩) ?_ ?_
        rotate_left
        · intro w'
          go_simp
          with_reducible rfl
        rotate_left
        · refine (put_lit _ _ _ _).trans ?_; dsimp only [List.set_cons_succ, List.set_cons_zero]
          rfl
        refine pure_ (i := 13) (N := some 54) (v := ?_) (a' := ?_) #[true, true, true, true, true, true, true, true, true, true, true, true, true, true, false, false] rfl rfl (any_of HT_.out (by kernel_rfl)) (fun _ _ _ h => h) (Or.inl ⟨by rfl, ?_⟩) ?_ ?_
        rotate_left
        · intro w'
          go_simp
          with_reducible rfl
        rotate_left
        · refine (put_lit _ _ _ _).trans ?_; dsimp only [List.set_cons_succ, List.set_cons_zero]
          rfl
        refine pure_ (i := 14) (N := some 55) (v := ?_) (a' := ?_) #[true, true, true, true, true, true, true, true, true, true, true, true, true, true, true, false] rfl rfl (any_of HT_.out (by kernel_rfl)) (fun _ _ _ h => h) (Or.inl ⟨by rfl, ?_⟩) ?_ ?_
        rotate_left
        · intro w'
          go_simp
          with_reducible rfl
        rotate_left
        · refine (put_lit _ _ _ _).trans ?_; dsimp only [List.set_cons_succ, List.set_cons_zero]
          rfl
        refine last_ (i := 15) (N := none) #[true, true, true, true, true, true, true, true, true, true, true, true, true, true, true, true] rfl rfl (one_of HT_.out (by kernel_rfl)) (by decide) (fun K hK => ?_)
        have hfz := (s50_bad COr.out.p k (by show k < xs.length; rw [XL.out]; exact hlt) true).2.2.2
        have hcl := hHeld.2
        refine skip_ (w1 := ?_) (by rfl) rfl ?_ ?_
        rotate_left
        · (go_simp; rfl)
        refine hK.out _ _ ?_
        clear hK K
        refine done_ (done_of HT_.out (by kernel_rfl)) ?_
        have C2 := Aside0.mk (OwnC.bad (x := ⟨some ⟨q, 0, none⟩, e0, xs, ms, n2, e2, ml, mw, n4, e4, mn_⟩) COr.out rfl k (by show k < xs.length; rw [XL.out]; exact hlt) false)
        have hqn : ∀ {gg : Nat} {cs : Array Value}, wd.heap[gg]? = some (.cells cs 26 (0, 0)) → gg ≠ q := fun hb e => Kd.S_ne COr.out.p hb (by decide) (by rw [e]; simp [Value.ownBlock])
        have B1 := Aside0.mk (blk_far BKr.out (p := ⟨q, k * 4 + 1, none⟩) (hqn BKr.out) (.bool false))
        have B2 := Aside0.mk (blk_far BMr.out (p := ⟨q, k * 4 + 1, none⟩) (hqn BMr.out) (.bool false))
        have B3 := Aside0.mk (blk_far BNr.out (p := ⟨q, k * 4 + 1, none⟩) (hqn BNr.out) (.bool false))
        have H1 : Aside0 (Below w.heap.size w (wd.setCell ⟨q, k * 4 + 1, none⟩ (.bool false))) := ⟨below_set HBr.out (by have := HS6.out; omega)⟩
        have I1 := Aside0.mk (IsS79.far HIr.out (p := ⟨q, k * 4 + 1, none⟩) (fun e => hg2.out e.symm) (.bool false))
        have M1 := Aside0.mk (OwnC.far MOr.out (p := ⟨q, k * 4 + 1, none⟩) (fun j hj => by have := hgl.out; have := hj.2; show j ≠ q; omega) (.bool false))
        clear hqn COr BKr BMr BNr HBr HIr MOr
        go_wp2
        go_roundg (mp.length - (k + 1))
        case measure => omega
        case rel => exact ⟨k + 1, xs.set k (badTo false (xs.getD k z50)), s, by omega, by omega, by go_num, ⟨by rw [List.length_set]; exact XL.out⟩, ⟨(healed_good XL.out hlt HBAD.out).symm.trans XH.out⟩, B1, B2, B3, H1, I1, M1, C2⟩
      · skip
        have hg1 : Aside0 (gn ≠ g) := ⟨(IsS79.ne_blk HIr.out BNr.out (by decide)).symm⟩
        have hg2 : Aside0 (q ≠ g) := ⟨fun e => IsS79.own_neS HIr.out COr.out.p (by decide) (by rw [← e]; simp [Value.ownBlock])⟩
        obtain ⟨_, _, hbc, hbf⟩ := s50_bad COr.out.p k (by show k < xs.length; rw [XL.out]; exact hlt) true
        have hbc : wr.cell? ⟨q, k * 4 + 1, none⟩ = some (.bool (xs.getD k z50).f1) := hbc
        rw [hbad] at hbc
        have HBAD := Aside0.mk hbad
        clear hbad
        have hn0_ : wr.cell? ⟨gn, 0, none⟩ = some (.slice (some ⟨q, 0, none⟩) mp.length e0) := (blk_cell BNr.out 0).trans rfl
        have hd := below_drew1 (Below.refl wr.heap.size wr)
        replace BKr := Aside0.mk (blk_drew BKr.out)
        replace BMr := Aside0.mk (blk_drew BMr.out)
        replace BNr := Aside0.mk (blk_drew BNr.out)
        replace HBr := Aside0.mk (below_step HBr.out hd)
        replace HIr := Aside0.mk (IsS79.drew HIr.out)
        replace MOr := Aside0.mk (MOr.out.below hd)
        replace COr := Aside0.mk (COr.out.below hd)
        clear hd
        refine start_ (n := 16) (S := fun w' => w'.cell? ⟨gn, 0, none⟩ = some (.slice (some ⟨q, 0, none⟩) mp.length e0) ∧ w'.cell? ⟨q, k * 4 + 1, none⟩ = some (.bool true)) (ds := [15]) #[false, false, false, false, false, false, false, false, false, false, false, false, false, false, false, false] (by kernel_rfl) rfl rfl ⟨hn0_, hbc⟩ (fun hHeld => ?_)
        generalize wr.drew = wd at BKr BMr BNr HBr HIr MOr COr hHeld ⊢
        refine with_tabW crush10.tab9 crush10.bits9 (fun HT_ HW_ => ?_)
        refine pure_ (i := 0) (N := some 41) (v := ?_) (a' := ?_) #[true, false, false, false, false, false, false, false, false, false, false, false, false, false, false, false] rfl rfl (any_of HT_.out (by kernel_rfl)) (fun _ _ _ h => h) (Or.inl ⟨by rfl, ?_⟩) ?_ ?_
        rotate_left
        · intro w'
          go_simp
          with_reducible rfl
        rotate_left
        · refine (put_lit _ _ _ _).trans ?_; dsimp only [List.set_cons_succ, List.set_cons_zero]
          rfl
        refine pure_ (i := 2) (N := some 43) (v := ?_) (a' := ?_) #[true, false, true, false, false, false, false, false, false, false, false, false, false, false, false, false] rfl rfl (any_of HT_.out (by kernel_rfl)) (fun _ _ _ h => h) (Or.inl ⟨by rfl, ?_⟩) ?_ ?_
        rotate_left
        · intro w'
          go_simp
          with_reducible rfl
        rotate_left
        · refine (put_lit _ _ _ _).trans ?_; dsimp only [List.set_cons_succ, List.set_cons_zero]
          rfl
        refine pure_ (i := 3) (N := some 44) (v := ?_) (a' := ?_) #[true, false, true, true, false, false, false, false, false, false, false, false, false, false, false, false] rfl rfl (any_of HT_.out (by kernel_rfl)) (fun _ _ _ h => h) (Or.inl ⟨by rfl, ?_⟩) ?_ ?_
        rotate_left
        · intro w'
          go_simp
          with_reducible rfl
        rotate_left
        · refine (put_lit _ _ _ _).trans ?_; dsimp only [List.set_cons_succ, List.set_cons_zero]
          rfl
        refine pure_ (i := 5) (N := some 46) (v := ?_) (a' := ?_) #[true, false, true, true, false, true, false, false, false, false, false, false, false, false, false, false] rfl rfl (any_of HT_.out (by kernel_rfl)) (fun _ _ _ h => h) (Or.inl ⟨by rfl, ?_⟩) ?_ ?_
        rotate_left
        · intro w'
          go_simp
          with_reducible rfl
        rotate_left
        · refine (put_lit _ _ _ _).trans ?_; dsimp only [List.set_cons_succ, List.set_cons_zero]
          rfl
        refine take_ (i := 1) (N := some 42) (v := ?_) (a' := ?_) #[true, true, true, true, false, true, false, false, false, false, false, false, false, false, false, false] rfl rfl (take_ofW HT_.out HW_.out (by kernel_rfl)) (fun _ _ _ h => h) (Or.inl ⟨by rfl, ?_⟩) hHeld ?_ ?_
        rotate_left
        · rintro w' ⟨s0, s1⟩
          go_simp
          with_reducible rfl
        rotate_left
        · refine (put_lit _ _ _ _).trans ?_; dsimp only [List.set_cons_succ, List.set_cons_zero]
          rfl
        refine take_ (i := 4) (N := some 45) (v := ?_) (a' := ?_) #[true, true, true, true, true, true, false, false, false, false, false, false, false, false, false, false] rfl rfl (take_ofW HT_.out HW_.out (by kernel_rfl)) (fun _ _ _ h => h) (Or.inl ⟨by rfl, ?_⟩) hHeld ?_ ?_
        rotate_left
        · rintro w' ⟨s0, s1⟩
          go_simp
          with_reducible rfl
        rotate_left
        · refine (put_lit _ _ _ _).trans ?_; dsimp only [List.set_cons_succ, List.set_cons_zero]
          rfl
        refine pure_ (i := 6) (N := some 47) (v := ?_) (a' := ?_) #[true, true, true, true, true, true, true, false, false, false, false, false, false, false, false, false] rfl rfl (any_of HT_.out (by kernel_rfl)) (fun _ _ _ h => h) (Or.inl ⟨by rfl, ?_⟩) ?_ ?_
        rotate_left
        · intro w'
          go_simp
          with_reducible rfl
        rotate_left
        · refine (put_lit _ _ _ _).trans ?_; dsimp only [List.set_cons_succ, List.set_cons_zero]
          rfl
        refine pure_ (i := 7) (N := some 48) (v := ?_) (a' := ?_) #[true, true, true, true, true, true, true, true, false, false, false, false, false, false, false, false] rfl rfl (any_of HT_.out (by kernel_rfl)) (fun _ _ _ h => h) (Or.inl ⟨by rfl, ?_⟩) ?_ ?_
        rotate_left
        · intro w'
          go_simp
          with_reducible rfl
        rotate_left
        · refine (put_lit _ _ _ _).trans ?_; dsimp only [List.set_cons_succ, List.set_cons_zero]
          rfl
        refine take_ (i := 8) (N := some 49) (v := ?_) (a' := ?_) #[true, true, true, true, true, true, true, true, true, false, false, false, false, false, false, false] rfl rfl (take_ofW HT_.out HW_.out (by kernel_rfl)) (fun _ _ _ h => h) (Or.inl ⟨by rfl, ?_⟩) hHeld ?_ ?_
        rotate_left
        · rintro w' ⟨s0, s1⟩
          go_simp
          with_reducible rfl
        rotate_left
        · refine (put_lit _ _ _ _).trans ?_; dsimp only [List.set_cons_succ, List.set_cons_zero]
          rfl
        refine pure_ (i := 9) (N := some 50) (v := ?_) (a' := ?_) #[true, true, true, true, true, true, true, true, true, true, false, false, false, false, false, false] rfl rfl (any_of HT_.out (by kernel_rfl)) (fun _ _ _ h => h) (Or.inl ⟨by rfl, ?_⟩) ?_ ?_
        rotate_left
        · intro w'
          go_simp
          with_reducible rfl
        rotate_left
        · refine (put_lit _ _ _ _).trans ?_; dsimp only [List.set_cons_succ, List.set_cons_zero]
          rfl
        refine pure_ (i := 10) (N := some 51) (v := ?_) (a' := ?_) #[true, true, true, true, true, true, true, true, true, true, true, false, false, false, false, false] rfl rfl (any_of HT_.out (by kernel_rfl)) (fun _ _ _ h => h) (Or.inl ⟨by rfl, ?_⟩) ?_ ?_
        rotate_left
        · intro w'
          go_simp
          with_reducible rfl
        rotate_left
        · refine (put_lit _ _ _ _).trans ?_; dsimp only [List.set_cons_succ, List.set_cons_zero]
          rfl
        refine one_ (i := 11) (N := some 52) #[true, true, true, true, true, true, true, true, true, true, true, true, false, false, false, false] rfl rfl (one_of HT_.out (by kernel_rfl)) (by decide) (fun K hK => ?_)
        obtain ⟨b_, s_, hof⟩ := HO.out s
        have HOF := Aside0.mk hof
        clear hof
        refine goes_ Try.func35 (by kernel_rfl) rfl #[.pointer (some ⟨g, 0, none⟩), .int .i64 1, .int .i64 3] (by rfl) rfl rfl (by (try simp only [List.map_toArray, List.map_cons, List.map_nil]); first | done | rfl) ?_
        with_reducible refine (swarfkit_Feed_Often.calls g s 1 3 b_ s_ w _ HIr.out HBr.out HOF.out).mono ?_
        rintro e we ⟨rfl, hi_, hb_, hk_⟩
        replace MOr := Aside0.mk (MOr.out.fed HIr.out hk_)
        replace COr := Aside0.mk (COr.out.fed HIr.out hk_)
        replace BKr := Aside0.mk (KeepBut.blk hk_ BKr.out (IsS79.ne_blk HIr.out BKr.out (by decide)).symm (by simp))
        replace BMr := Aside0.mk (KeepBut.blk hk_ BMr.out (IsS79.ne_blk HIr.out BMr.out (by decide)).symm (by simp))
        replace BNr := Aside0.mk (KeepBut.blk hk_ BNr.out (IsS79.ne_blk HIr.out BNr.out (by decide)).symm (by simp))
        replace HBr := Aside0.mk hb_
        replace HIr := Aside0.mk hi_
        refine ⟨_, rfl, ?_⟩
        refine hK.out _ _ ⟨keep_cell hk_ hHeld.1 hg1.out, keep_cell hk_ hHeld.2 hg2.out⟩ (fun hHeld => ?_)
        clear hK K
        refine norm_ (a' := ?_) ?_ ?_
        rotate_left
        · show Act.put _ (some 52) _ = _
          refine (put_lit _ _ _ _).trans ?_; dsimp only [List.set_cons_succ, List.set_cons_zero]
          rfl
        refine pure_ (i := 12) (N := some 53) (v := ?_) (a' := ?_) #[true, true, true, true, true, true, true, true, true, true, true, true, true, false, false, false] rfl rfl (any_of HT_.out (by kernel_rfl)) (fun _ _ _ h => h) (Or.inl ⟨by rfl, ?_⟩) ?_ ?_
        rotate_left
        · intro w'
          go_simp
          with_reducible rfl
        rotate_left
        · refine (put_lit _ _ _ _).trans ?_; dsimp only [List.set_cons_succ, List.set_cons_zero]
          rfl
        refine pure_ (i := 13) (N := some 54) (v := ?_) (a' := ?_) #[true, true, true, true, true, true, true, true, true, true, true, true, true, true, false, false] rfl rfl (any_of HT_.out (by kernel_rfl)) (fun _ _ _ h => h) (Or.inl ⟨by rfl, ?_⟩) ?_ ?_
        rotate_left
        · intro w'
          go_simp
          with_reducible rfl
        rotate_left
        · refine (put_lit _ _ _ _).trans ?_; dsimp only [List.set_cons_succ, List.set_cons_zero]
          rfl
        refine pure_ (i := 14) (N := some 55) (v := ?_) (a' := ?_) #[true, true, true, true, true, true, true, true, true, true, true, true, true, true, true, false] rfl rfl (any_of HT_.out (by kernel_rfl)) (fun _ _ _ h => h) (Or.inl ⟨by rfl, ?_⟩) ?_ ?_
        rotate_left
        · intro w'
          go_simp
          with_reducible rfl
        rotate_left
        · refine (put_lit _ _ _ _).trans ?_; dsimp only [List.set_cons_succ, List.set_cons_zero]
          rfl
        refine last_ (i := 15) (N := none) #[true, true, true, true, true, true, true, true, true, true, true, true, true, true, true, true] rfl rfl (one_of HT_.out (by kernel_rfl)) (by decide) (fun K hK => ?_)
        have hfz := (s50_bad COr.out.p k (by show k < xs.length; rw [XL.out]; exact hlt) true).2.2.2
        have hcl := hHeld.2
        refine skip_ (w1 := ?_) (by rfl) rfl ?_ ?_
        rotate_left
        · (go_simp; rfl)
        refine hK.out _ _ ?_
        clear hK K
        refine done_ (done_of HT_.out (by kernel_rfl)) ?_
        have C2 := Aside0.mk (OwnC.bad (x := ⟨some ⟨q, 0, none⟩, e0, xs, ms, n2, e2, ml, mw, n4, e4, mn_⟩) COr.out rfl k (by show k < xs.length; rw [XL.out]; exact hlt) b_)
        have hqn : ∀ {gg : Nat} {cs : Array Value}, we.heap[gg]? = some (.cells cs 26 (0, 0)) → gg ≠ q := fun hb e => Kd.S_ne COr.out.p hb (by decide) (by rw [e]; simp [Value.ownBlock])
        have B1 := Aside0.mk (blk_far BKr.out (p := ⟨q, k * 4 + 1, none⟩) (hqn BKr.out) (.bool b_))
        have B2 := Aside0.mk (blk_far BMr.out (p := ⟨q, k * 4 + 1, none⟩) (hqn BMr.out) (.bool b_))
        have B3 := Aside0.mk (blk_far BNr.out (p := ⟨q, k * 4 + 1, none⟩) (hqn BNr.out) (.bool b_))
        have H1 : Aside0 (Below w.heap.size w (we.setCell ⟨q, k * 4 + 1, none⟩ (.bool b_))) := ⟨below_set HBr.out (by have := HS6.out; omega)⟩
        have I1 := Aside0.mk (IsS79.far HIr.out (p := ⟨q, k * 4 + 1, none⟩) (fun e => hg2.out e.symm) (.bool b_))
        have M1 := Aside0.mk (OwnC.far MOr.out (p := ⟨q, k * 4 + 1, none⟩) (fun j hj => by have := hgl.out; have := hj.2; show j ≠ q; omega) (.bool b_))
        clear hqn COr BKr BMr BNr HBr HIr MOr
        go_wp2
        go_roundg (mp.length - (k + 1))
        case measure => omega
        case rel => exact ⟨k + 1, xs.set k (badTo b_ (xs.getD k z50)), s_, by omega, by omega, by go_num, ⟨by rw [List.length_set]; exact XL.out⟩, ⟨(healed_bad XL.out hlt HBAD.out HOF.out).symm.trans XH.out⟩, B1, B2, B3, H1, I1, M1, C2⟩
    · have hkm : k = mp.length := by omega
      subst hkm
      have hxs : (xs, s) = (cp, fs) := by
        have h1 := XH.out
        rw [Nat.sub_self] at h1
        exact (show (xs, s) = healed mp f2 mp.length from h1).trans HHL.out
      obtain ⟨hx1, hx2⟩ := Prod.mk.inj hxs
      subst hx1
      subst hx2
      replace BNr := Aside0.mk (show wr.heap[gn]? = some (.cells #[.slice n0 xs.length e0, .int .i64 ms, .slice n2 ml.length e2, .int .i64 mw, .slice n4 mn_.length e4] 26 (0, 0)) by rw [XL.out]; exact BNr.out)
      clear hxs
      go_upto_region 10 with (fail)
      clear hn0_
      have hd := below_drew1 (Below.refl wr.heap.size wr)
      replace BKr := Aside0.mk (blk_drew BKr.out)
      replace BMr := Aside0.mk (blk_drew BMr.out)
      replace BNr := Aside0.mk (blk_drew BNr.out)
      replace HBr := Aside0.mk (below_step HBr.out hd)
      replace HIr := Aside0.mk (IsS79.drew HIr.out)
      replace MOr := Aside0.mk (MOr.out.below hd)
      replace COr := Aside0.mk (COr.out.below hd)
      clear hd
      refine start_ (n := 14) (S := fun w' => w'.cell? ⟨gb, 0, none⟩ = some (.slice x.A0 x.parts.length x.c0) ∧ w'.cell? ⟨gb, 1, none⟩ = some (.int .i64 x.swap) ∧ w'.cell? ⟨gb, 2, none⟩ = some (.slice x.A2 x.looks.length x.c2) ∧ w'.cell? ⟨gb, 3, none⟩ = some (.int .i64 x.wrong) ∧ w'.cell? ⟨gb, 4, none⟩ = some (.slice x.A4 x.needs.length x.c4) ∧ w'.cell? ⟨gm, 0, none⟩ = some (.slice m0 mp.length d0) ∧ w'.cell? ⟨gm, 1, none⟩ = some (.int .i64 ms) ∧ w'.cell? ⟨gm, 2, none⟩ = some (.slice m2 ml.length d2) ∧ w'.cell? ⟨gm, 3, none⟩ = some (.int .i64 mw) ∧ w'.cell? ⟨gm, 4, none⟩ = some (.slice m4 mn_.length d4) ∧ w'.cell? ⟨gn, 0, none⟩ = some (.slice n0 xs.length e0) ∧ w'.cell? ⟨gn, 1, none⟩ = some (.int .i64 ms) ∧ w'.cell? ⟨gn, 2, none⟩ = some (.slice n2 ml.length e2) ∧ w'.cell? ⟨gn, 3, none⟩ = some (.int .i64 mw) ∧ w'.cell? ⟨gn, 4, none⟩ = some (.slice n4 mn_.length e4)) (ds := []) #[false, false, false, false, false, false, false, false, false, false, false, false, false, false] (by kernel_rfl) rfl rfl ⟨(blk_cell BKr.out 0).trans rfl, (blk_cell BKr.out 1).trans rfl, (blk_cell BKr.out 2).trans rfl, (blk_cell BKr.out 3).trans rfl, (blk_cell BKr.out 4).trans rfl, (blk_cell BMr.out 0).trans rfl, (blk_cell BMr.out 1).trans rfl, (blk_cell BMr.out 2).trans rfl, (blk_cell BMr.out 3).trans rfl, (blk_cell BMr.out 4).trans rfl, (blk_cell BNr.out 0).trans rfl, (blk_cell BNr.out 1).trans rfl, (blk_cell BNr.out 2).trans rfl, (blk_cell BNr.out 3).trans rfl, (blk_cell BNr.out 4).trans rfl⟩ (fun hHeld => ?_)
      generalize wr.drew = wd at BKr BMr BNr HBr HIr MOr COr hHeld ⊢
      refine with_tabW crush10.tab10 crush10.bits10 (fun HT_ HW_ => ?_)
      refine pure_ (i := 5) (N := some 61) (v := ?_) (a' := ?_) #[false, false, false, false, false, true, false, false, false, false, false, false, false, false] rfl rfl (any_of HT_.out (by kernel_rfl)) (fun _ _ _ h => h) (Or.inl ⟨by rfl, ?_⟩) ?_ ?_
      rotate_left
      · intro w'
        go_simp
        with_reducible rfl
      rotate_left
      · refine (put_lit _ _ _ _).trans ?_; dsimp only [List.set_cons_succ, List.set_cons_zero]
        rfl
      refine pure_ (i := 6) (N := some 62) (v := ?_) (a' := ?_) #[false, false, false, false, false, true, true, false, false, false, false, false, false, false] rfl rfl (any_of HT_.out (by kernel_rfl)) (fun _ _ _ h => h) (Or.inl ⟨by rfl, ?_⟩) ?_ ?_
      rotate_left
      · intro w'
        go_simp
        with_reducible rfl
      rotate_left
      · refine (put_lit _ _ _ _).trans ?_; dsimp only [List.set_cons_succ, List.set_cons_zero]
        rfl
      refine pure_ (i := 8) (N := some 64) (v := ?_) (a' := ?_) #[false, false, false, false, false, true, true, false, true, false, false, false, false, false] rfl rfl (any_of HT_.out (by kernel_rfl)) (fun _ _ _ h => h) (Or.inl ⟨by rfl, ?_⟩) ?_ ?_
      rotate_left
      · intro w'
        go_simp
        with_reducible rfl
      rotate_left
      · refine (put_lit _ _ _ _).trans ?_; dsimp only [List.set_cons_succ, List.set_cons_zero]
        rfl
      refine pure_ (i := 10) (N := some 66) (v := ?_) (a' := ?_) #[false, false, false, false, false, true, true, false, true, false, true, false, false, false] rfl rfl (any_of HT_.out (by kernel_rfl)) (fun _ _ _ h => h) (Or.inl ⟨by rfl, ?_⟩) ?_ ?_
      rotate_left
      · intro w'
        go_simp
        with_reducible rfl
      rotate_left
      · refine (put_lit _ _ _ _).trans ?_; dsimp only [List.set_cons_succ, List.set_cons_zero]
        rfl
      refine take_ (i := 0) (N := some 56) (v := ?_) (a' := ?_) #[true, false, false, false, false, true, true, false, true, false, true, false, false, false] rfl rfl (take_ofW HT_.out HW_.out (by kernel_rfl)) (fun _ _ _ h => h) (Or.inl ⟨by rfl, ?_⟩) hHeld ?_ ?_
      rotate_left
      · rintro w' ⟨s0, s1, s2, s3, s4, s5, s6, s7, s8, s9, s10, s11, s12, s13, s14⟩
        go_simp
        with_reducible rfl
      rotate_left
      · refine (put_lit _ _ _ _).trans ?_; dsimp only [List.set_cons_succ, List.set_cons_zero]
        rfl
      refine take_ (i := 1) (N := some 57) (v := ?_) (a' := ?_) #[true, true, false, false, false, true, true, false, true, false, true, false, false, false] rfl rfl (take_ofW HT_.out HW_.out (by kernel_rfl)) (fun _ _ _ h => h) (Or.inl ⟨by rfl, ?_⟩) hHeld ?_ ?_
      rotate_left
      · rintro w' ⟨s0, s1, s2, s3, s4, s5, s6, s7, s8, s9, s10, s11, s12, s13, s14⟩
        go_simp
        with_reducible rfl
      rotate_left
      · refine (put_lit _ _ _ _).trans ?_; dsimp only [List.set_cons_succ, List.set_cons_zero]
        rfl
      refine take_ (i := 2) (N := some 58) (v := ?_) (a' := ?_) #[true, true, true, false, false, true, true, false, true, false, true, false, false, false] rfl rfl (take_ofW HT_.out HW_.out (by kernel_rfl)) (fun _ _ _ h => h) (Or.inl ⟨by rfl, ?_⟩) hHeld ?_ ?_
      rotate_left
      · rintro w' ⟨s0, s1, s2, s3, s4, s5, s6, s7, s8, s9, s10, s11, s12, s13, s14⟩
        go_simp
        with_reducible rfl
      rotate_left
      · refine (put_lit _ _ _ _).trans ?_; dsimp only [List.set_cons_succ, List.set_cons_zero]
        rfl
      refine take_ (i := 3) (N := some 59) (v := ?_) (a' := ?_) #[true, true, true, true, false, true, true, false, true, false, true, false, false, false] rfl rfl (take_ofW HT_.out HW_.out (by kernel_rfl)) (fun _ _ _ h => h) (Or.inl ⟨by rfl, ?_⟩) hHeld ?_ ?_
      rotate_left
      · rintro w' ⟨s0, s1, s2, s3, s4, s5, s6, s7, s8, s9, s10, s11, s12, s13, s14⟩
        go_simp
        with_reducible rfl
      rotate_left
      · refine (put_lit _ _ _ _).trans ?_; dsimp only [List.set_cons_succ, List.set_cons_zero]
        rfl
      refine take_ (i := 9) (N := some 65) (v := ?_) (a' := ?_) #[true, true, true, true, false, true, true, false, true, true, true, false, false, false] rfl rfl (take_ofW HT_.out HW_.out (by kernel_rfl)) (fun _ _ _ h => h) (Or.inl ⟨by rfl, ?_⟩) hHeld ?_ ?_
      rotate_left
      · rintro w' ⟨s0, s1, s2, s3, s4, s5, s6, s7, s8, s9, s10, s11, s12, s13, s14⟩
        go_simp
        with_reducible rfl
      rotate_left
      · refine (put_lit _ _ _ _).trans ?_; dsimp only [List.set_cons_succ, List.set_cons_zero]
        rfl
      refine join_ (σ := Nat × Nat × Option Addr × Nat) 1 #[true, true, true, true, true, true, true, true, true, true, true, true, true, false] (fun s_ => [(60, .slice (some ⟨s_.1, 0, none⟩) 4 4), (63, .slice s_.2.2.1 ord.length s_.2.2.2), (67, .slice (some ⟨s_.2.1, 0, none⟩) 4 4), (12, .slice (some ⟨s_.1, 0, none⟩) 4 4)]) (fun s_ w' => (w'.cell? ⟨gb, 0, none⟩ = some (.slice x.A0 x.parts.length x.c0) ∧ w'.cell? ⟨gb, 1, none⟩ = some (.int .i64 x.swap) ∧ w'.cell? ⟨gb, 2, none⟩ = some (.slice x.A2 x.looks.length x.c2) ∧ w'.cell? ⟨gb, 3, none⟩ = some (.int .i64 x.wrong) ∧ w'.cell? ⟨gb, 4, none⟩ = some (.slice x.A4 x.needs.length x.c4) ∧ w'.cell? ⟨gm, 0, none⟩ = some (.slice m0 mp.length d0) ∧ w'.cell? ⟨gm, 1, none⟩ = some (.int .i64 ms) ∧ w'.cell? ⟨gm, 2, none⟩ = some (.slice m2 ml.length d2) ∧ w'.cell? ⟨gm, 3, none⟩ = some (.int .i64 mw) ∧ w'.cell? ⟨gm, 4, none⟩ = some (.slice m4 mn_.length d4) ∧ w'.cell? ⟨gn, 0, none⟩ = some (.slice n0 xs.length e0) ∧ w'.cell? ⟨gn, 1, none⟩ = some (.int .i64 ms) ∧ w'.cell? ⟨gn, 2, none⟩ = some (.slice n2 ml.length e2) ∧ w'.cell? ⟨gn, 3, none⟩ = some (.int .i64 mw) ∧ w'.cell? ⟨gn, 4, none⟩ = some (.slice n4 mn_.length e4)) ∧ Aside0 (w'.heap[s_.1]? = some (.cells #[.slice x.A0 x.parts.length x.c0, .int .i64 x.swap, .slice x.A2 x.looks.length x.c2, .int .i64 x.wrong, .slice x.A4 x.needs.length x.c4, .slice m0 mp.length d0, .int .i64 ms, .slice m2 ml.length d2, .int .i64 mw, .slice m4 mn_.length d4, .slice n0 xs.length e0, .int .i64 ms, .slice n2 ml.length e2, .int .i64 mw, .slice n4 mn_.length e4, .slice m0 mp.length d0, .int .i64 ms, .slice m2 ml.length d2, .int .i64 mw, .slice m4 mn_.length d4] 26 (0, 0))) ∧ Aside0 (w'.heap[s_.2.1]? = some (.cells #[.slice A1 l1.length c1, .slice s_.2.2.1 ord.length s_.2.2.2, .slice m4 mn_.length d4, .slice A1 l1.length c1] 24 (0, 0))) ∧ Aside0 (Below w.heap.size w w') ∧ Aside0 ((⟨m0, d0, mp, ms, m2, d2, ml, mw, m4, d4, mn_⟩ : CarV).Ok w') ∧ Aside0 ((⟨n0, e0, xs, ms, n2, e2, ml, mw, n4, e4, mn_⟩ : CarV).Ok w') ∧ Aside0 (Kd.C (Kd.int .i64) w' s_.2.2.1 ord.length ord) ∧ Aside0 (ord.length ≤ s_.2.2.2)) ?_ ?_
      rotate_left
      · intro hCont
        refine two_ (i := 4) (j := 7) (Ni := some 60) (Nj := some 63) #[true, true, true, true, true, true, true, false, true, true, true, false, false, false] #[true, true, true, true, false, true, true, true, true, true, true, false, false, false] rfl rfl rfl rfl (two_of HT_.out (by kernel_rfl)) (by decide) (by decide) (fun K hK => ?_) (fun K hK => ?_)
        · skip
          refine value_ (w1 := ?_) (v := ?_) (by rfl) rfl ?_ ?_
          rotate_left 2
          · go_simp
            constructor
            · rfl
            · rfl
          obtain ⟨ga, hg_⟩ : ∃ b, b = wd.heap.size := ⟨_, rfl⟩
          have BA := Aside0.mk (blk_new wd (.cells #[.slice x.A0 x.parts.length x.c0, .int .i64 x.swap, .slice x.A2 x.looks.length x.c2, .int .i64 x.wrong, .slice x.A4 x.needs.length x.c4, .slice m0 mp.length d0, .int .i64 ms, .slice m2 ml.length d2, .int .i64 mw, .slice m4 mn_.length d4, .slice n0 xs.length e0, .int .i64 ms, .slice n2 ml.length e2, .int .i64 mw, .slice n4 mn_.length e4, .slice m0 mp.length d0, .int .i64 ms, .slice m2 ml.length d2, .int .i64 mw, .slice m4 mn_.length d4] 26 (0, 0)))
          have hb4_ : Below wd.heap.size wd (wd.alloc (.cells #[.slice x.A0 x.parts.length x.c0, .int .i64 x.swap, .slice x.A2 x.looks.length x.c2, .int .i64 x.wrong, .slice x.A4 x.needs.length x.c4, .slice m0 mp.length d0, .int .i64 ms, .slice m2 ml.length d2, .int .i64 mw, .slice m4 mn_.length d4, .slice n0 xs.length e0, .int .i64 ms, .slice n2 ml.length e2, .int .i64 mw, .slice n4 mn_.length e4, .slice m0 mp.length d0, .int .i64 ms, .slice m2 ml.length d2, .int .i64 mw, .slice m4 mn_.length d4] 26 (0, 0))) := below_alloc (Below.refl _ _) _
          generalize hw_ : wd.alloc (.cells #[.slice x.A0 x.parts.length x.c0, .int .i64 x.swap, .slice x.A2 x.looks.length x.c2, .int .i64 x.wrong, .slice x.A4 x.needs.length x.c4, .slice m0 mp.length d0, .int .i64 ms, .slice m2 ml.length d2, .int .i64 mw, .slice m4 mn_.length d4, .slice n0 xs.length e0, .int .i64 ms, .slice n2 ml.length e2, .int .i64 mw, .slice n4 mn_.length e4, .slice m0 mp.length d0, .int .i64 ms, .slice m2 ml.length d2, .int .i64 mw, .slice m4 mn_.length d4] 26 (0, 0)) = wq4 at *
          rw [← hg_] at BA ⊢
          replace BKr := Aside0.mk (blk_below BKr.out hb4_)
          replace BMr := Aside0.mk (blk_below BMr.out hb4_)
          replace BNr := Aside0.mk (blk_below BNr.out hb4_)
          replace HBr := Aside0.mk (below_step HBr.out hb4_)
          replace HIr := Aside0.mk (IsS79.below HIr.out hb4_)
          replace MOr := Aside0.mk (MOr.out.below hb4_)
          replace COr := Aside0.mk (COr.out.below hb4_)
          clear hw_ hg_
          refine hK.out _ _ ⟨(hb4_.cell (World.block_lt_of_cell? _ _ (hHeld.1))).trans (hHeld.1), (hb4_.cell (World.block_lt_of_cell? _ _ (hHeld.2.1))).trans (hHeld.2.1), (hb4_.cell (World.block_lt_of_cell? _ _ (hHeld.2.2.1))).trans (hHeld.2.2.1), (hb4_.cell (World.block_lt_of_cell? _ _ (hHeld.2.2.2.1))).trans (hHeld.2.2.2.1), (hb4_.cell (World.block_lt_of_cell? _ _ (hHeld.2.2.2.2.1))).trans (hHeld.2.2.2.2.1), (hb4_.cell (World.block_lt_of_cell? _ _ (hHeld.2.2.2.2.2.1))).trans (hHeld.2.2.2.2.2.1), (hb4_.cell (World.block_lt_of_cell? _ _ (hHeld.2.2.2.2.2.2.1))).trans (hHeld.2.2.2.2.2.2.1), (hb4_.cell (World.block_lt_of_cell? _ _ (hHeld.2.2.2.2.2.2.2.1))).trans (hHeld.2.2.2.2.2.2.2.1), (hb4_.cell (World.block_lt_of_cell? _ _ (hHeld.2.2.2.2.2.2.2.2.1))).trans (hHeld.2.2.2.2.2.2.2.2.1), (hb4_.cell (World.block_lt_of_cell? _ _ (hHeld.2.2.2.2.2.2.2.2.2.1))).trans (hHeld.2.2.2.2.2.2.2.2.2.1), (hb4_.cell (World.block_lt_of_cell? _ _ (hHeld.2.2.2.2.2.2.2.2.2.2.1))).trans (hHeld.2.2.2.2.2.2.2.2.2.2.1), (hb4_.cell (World.block_lt_of_cell? _ _ (hHeld.2.2.2.2.2.2.2.2.2.2.2.1))).trans (hHeld.2.2.2.2.2.2.2.2.2.2.2.1), (hb4_.cell (World.block_lt_of_cell? _ _ (hHeld.2.2.2.2.2.2.2.2.2.2.2.2.1))).trans (hHeld.2.2.2.2.2.2.2.2.2.2.2.2.1), (hb4_.cell (World.block_lt_of_cell? _ _ (hHeld.2.2.2.2.2.2.2.2.2.2.2.2.2.1))).trans (hHeld.2.2.2.2.2.2.2.2.2.2.2.2.2.1), (hb4_.cell (World.block_lt_of_cell? _ _ (hHeld.2.2.2.2.2.2.2.2.2.2.2.2.2.2))).trans (hHeld.2.2.2.2.2.2.2.2.2.2.2.2.2.2)⟩ (fun hHeld => ?_)
          clear hK K
          refine norm_ (a' := ?_) ?_ ?_
          rotate_left
          · show Act.put _ (some 60) _ = _
            refine (put_lit _ _ _ _).trans ?_; dsimp only [List.set_cons_succ, List.set_cons_zero]
            rfl
          refine one_ (i := 7) (N := some 63) #[true, true, true, true, true, true, true, true, true, true, true, false, false, false] rfl rfl (one_of HT_.out (by kernel_rfl)) (by decide) (fun K hK => ?_)
          refine goes_ Try.func42 (by kernel_rfl) rfl #[.pointer (some ⟨g, 0, none⟩), .int .i64 9] (by rfl) rfl rfl (by (try simp only [List.map_toArray, List.map_cons, List.map_nil]); first | done | rfl) ?_
          with_reducible refine (swarfkit_Feed_Order.calls ko g s 9 ord f3 w _ HIr.out HBr.out HORD.out).mono ?_
          rintro e wq4_7 ⟨vo_, rfl, ho_, hi_, hb_, hk_⟩
          obtain ⟨Ao, co, rfl⟩ := Kd.R_slice ho_
          have RO := Aside0.mk (Kd.R_reads' ho_).2.2
          have lo_ := (Kd.R_reads' ho_).2.1
          have hgb_ := (IsS79.ne_blk HIr.out BKr.out (by decide)).symm
          have hgm_ := (IsS79.ne_blk HIr.out BMr.out (by decide)).symm
          have hgn_ := (IsS79.ne_blk HIr.out BNr.out (by decide)).symm
          replace MOr := Aside0.mk (MOr.out.fed HIr.out hk_)
          replace COr := Aside0.mk (COr.out.fed HIr.out hk_)
          replace BKr := Aside0.mk (KeepBut.blk hk_ BKr.out (IsS79.ne_blk HIr.out BKr.out (by decide)).symm (by simp))
          replace BMr := Aside0.mk (KeepBut.blk hk_ BMr.out (IsS79.ne_blk HIr.out BMr.out (by decide)).symm (by simp))
          replace BNr := Aside0.mk (KeepBut.blk hk_ BNr.out (IsS79.ne_blk HIr.out BNr.out (by decide)).symm (by simp))
          replace BA := Aside0.mk (KeepBut.blk hk_ BA.out (IsS79.ne_blk HIr.out BA.out (by decide)).symm (by simp))
          replace HBr := Aside0.mk hb_
          replace HIr := Aside0.mk hi_
          refine ⟨_, rfl, ?_⟩
          refine hK.out _ _ ⟨keep_cell hk_ (hHeld.1) hgb_, keep_cell hk_ (hHeld.2.1) hgb_, keep_cell hk_ (hHeld.2.2.1) hgb_, keep_cell hk_ (hHeld.2.2.2.1) hgb_, keep_cell hk_ (hHeld.2.2.2.2.1) hgb_, keep_cell hk_ (hHeld.2.2.2.2.2.1) hgm_, keep_cell hk_ (hHeld.2.2.2.2.2.2.1) hgm_, keep_cell hk_ (hHeld.2.2.2.2.2.2.2.1) hgm_, keep_cell hk_ (hHeld.2.2.2.2.2.2.2.2.1) hgm_, keep_cell hk_ (hHeld.2.2.2.2.2.2.2.2.2.1) hgm_, keep_cell hk_ (hHeld.2.2.2.2.2.2.2.2.2.2.1) hgn_, keep_cell hk_ (hHeld.2.2.2.2.2.2.2.2.2.2.2.1) hgn_, keep_cell hk_ (hHeld.2.2.2.2.2.2.2.2.2.2.2.2.1) hgn_, keep_cell hk_ (hHeld.2.2.2.2.2.2.2.2.2.2.2.2.2.1) hgn_, keep_cell hk_ (hHeld.2.2.2.2.2.2.2.2.2.2.2.2.2.2) hgn_⟩ (fun hHeld => ?_)
          clear hK K
          refine norm_ (a' := ?_) ?_ ?_
          rotate_left
          · show Act.put _ (some 63) _ = _
            refine (put_lit _ _ _ _).trans ?_; dsimp only [List.set_cons_succ, List.set_cons_zero]
            rfl
          refine pure_ (i := 12) (N := some 12) (v := ?_) (a' := ?_) #[true, true, true, true, true, true, true, true, true, true, true, false, true, false] rfl rfl (any_of HT_.out (by kernel_rfl)) (fun _ _ _ h => h) (Or.inl ⟨by rfl, ?_⟩) ?_ ?_
          rotate_left
          · intro w'
            go_simp
            with_reducible rfl
          rotate_left
          · refine (put_lit _ _ _ _).trans ?_; dsimp only [List.set_cons_succ, List.set_cons_zero]
            rfl
          refine one_ (i := 11) (N := some 67) #[true, true, true, true, true, true, true, true, true, true, true, true, true, false] rfl rfl (one_of HT_.out (by kernel_rfl)) (by decide) (fun K hK => ?_)
          refine value_ (w1 := ?_) (v := ?_) (by rfl) rfl ?_ ?_
          rotate_left 2
          · go_simp
            constructor
            · rfl
            · rfl
          obtain ⟨gl, hg_⟩ : ∃ b, b = wq4_7.heap.size := ⟨_, rfl⟩
          have BL := Aside0.mk (blk_new wq4_7 (.cells #[.slice A1 l1.length c1, .slice Ao ord.length co, .slice m4 mn_.length d4, .slice A1 l1.length c1] 24 (0, 0)))
          have hb11_ : Below wq4_7.heap.size wq4_7 (wq4_7.alloc (.cells #[.slice A1 l1.length c1, .slice Ao ord.length co, .slice m4 mn_.length d4, .slice A1 l1.length c1] 24 (0, 0))) := below_alloc (Below.refl _ _) _
          generalize hw_ : wq4_7.alloc (.cells #[.slice A1 l1.length c1, .slice Ao ord.length co, .slice m4 mn_.length d4, .slice A1 l1.length c1] 24 (0, 0)) = wq4_7_11 at *
          rw [← hg_] at BL ⊢
          replace BKr := Aside0.mk (blk_below BKr.out hb11_)
          replace BMr := Aside0.mk (blk_below BMr.out hb11_)
          replace BNr := Aside0.mk (blk_below BNr.out hb11_)
          replace HBr := Aside0.mk (below_step HBr.out hb11_)
          replace HIr := Aside0.mk (IsS79.below HIr.out hb11_)
          replace MOr := Aside0.mk (MOr.out.below hb11_)
          replace COr := Aside0.mk (COr.out.below hb11_)
          replace BA := Aside0.mk (blk_below BA.out hb11_)
          replace RO := Aside0.mk (Kd.C_below RO.out hb11_)
          clear hw_ hg_
          refine hK.out _ _ ⟨(hb11_.cell (World.block_lt_of_cell? _ _ (hHeld.1))).trans (hHeld.1), (hb11_.cell (World.block_lt_of_cell? _ _ (hHeld.2.1))).trans (hHeld.2.1), (hb11_.cell (World.block_lt_of_cell? _ _ (hHeld.2.2.1))).trans (hHeld.2.2.1), (hb11_.cell (World.block_lt_of_cell? _ _ (hHeld.2.2.2.1))).trans (hHeld.2.2.2.1), (hb11_.cell (World.block_lt_of_cell? _ _ (hHeld.2.2.2.2.1))).trans (hHeld.2.2.2.2.1), (hb11_.cell (World.block_lt_of_cell? _ _ (hHeld.2.2.2.2.2.1))).trans (hHeld.2.2.2.2.2.1), (hb11_.cell (World.block_lt_of_cell? _ _ (hHeld.2.2.2.2.2.2.1))).trans (hHeld.2.2.2.2.2.2.1), (hb11_.cell (World.block_lt_of_cell? _ _ (hHeld.2.2.2.2.2.2.2.1))).trans (hHeld.2.2.2.2.2.2.2.1), (hb11_.cell (World.block_lt_of_cell? _ _ (hHeld.2.2.2.2.2.2.2.2.1))).trans (hHeld.2.2.2.2.2.2.2.2.1), (hb11_.cell (World.block_lt_of_cell? _ _ (hHeld.2.2.2.2.2.2.2.2.2.1))).trans (hHeld.2.2.2.2.2.2.2.2.2.1), (hb11_.cell (World.block_lt_of_cell? _ _ (hHeld.2.2.2.2.2.2.2.2.2.2.1))).trans (hHeld.2.2.2.2.2.2.2.2.2.2.1), (hb11_.cell (World.block_lt_of_cell? _ _ (hHeld.2.2.2.2.2.2.2.2.2.2.2.1))).trans (hHeld.2.2.2.2.2.2.2.2.2.2.2.1), (hb11_.cell (World.block_lt_of_cell? _ _ (hHeld.2.2.2.2.2.2.2.2.2.2.2.2.1))).trans (hHeld.2.2.2.2.2.2.2.2.2.2.2.2.1), (hb11_.cell (World.block_lt_of_cell? _ _ (hHeld.2.2.2.2.2.2.2.2.2.2.2.2.2.1))).trans (hHeld.2.2.2.2.2.2.2.2.2.2.2.2.2.1), (hb11_.cell (World.block_lt_of_cell? _ _ (hHeld.2.2.2.2.2.2.2.2.2.2.2.2.2.2))).trans (hHeld.2.2.2.2.2.2.2.2.2.2.2.2.2.2)⟩ (fun hHeld => ?_)
          clear hK K
          refine norm_ (a' := ?_) ?_ ?_
          rotate_left
          · show Act.put _ (some 67) _ = _
            refine (put_lit _ _ _ _).trans ?_; dsimp only [List.set_cons_succ, List.set_cons_zero]
            rfl
          exact norm_ (by simp only [putAll, Act.put, List.setIfInBounds_toArray, List.set_cons_zero, List.set_cons_succ]) (hCont (ga, gl, Ao, co) _ ⟨hHeld, BA, BL, HBr, ⟨MOr.out.car⟩, ⟨COr.out.car⟩, RO, ⟨lo_⟩⟩)
        · skip
          refine goes_ Try.func42 (by kernel_rfl) rfl #[.pointer (some ⟨g, 0, none⟩), .int .i64 9] (by rfl) rfl rfl (by (try simp only [List.map_toArray, List.map_cons, List.map_nil]); first | done | rfl) ?_
          with_reducible refine (swarfkit_Feed_Order.calls ko g s 9 ord f3 w _ HIr.out HBr.out HORD.out).mono ?_
          rintro e wq7 ⟨vo_, rfl, ho_, hi_, hb_, hk_⟩
          obtain ⟨Ao, co, rfl⟩ := Kd.R_slice ho_
          have RO := Aside0.mk (Kd.R_reads' ho_).2.2
          have lo_ := (Kd.R_reads' ho_).2.1
          have hgb_ := (IsS79.ne_blk HIr.out BKr.out (by decide)).symm
          have hgm_ := (IsS79.ne_blk HIr.out BMr.out (by decide)).symm
          have hgn_ := (IsS79.ne_blk HIr.out BNr.out (by decide)).symm
          replace MOr := Aside0.mk (MOr.out.fed HIr.out hk_)
          replace COr := Aside0.mk (COr.out.fed HIr.out hk_)
          replace BKr := Aside0.mk (KeepBut.blk hk_ BKr.out (IsS79.ne_blk HIr.out BKr.out (by decide)).symm (by simp))
          replace BMr := Aside0.mk (KeepBut.blk hk_ BMr.out (IsS79.ne_blk HIr.out BMr.out (by decide)).symm (by simp))
          replace BNr := Aside0.mk (KeepBut.blk hk_ BNr.out (IsS79.ne_blk HIr.out BNr.out (by decide)).symm (by simp))
          replace HBr := Aside0.mk hb_
          replace HIr := Aside0.mk hi_
          refine ⟨_, rfl, ?_⟩
          refine hK.out _ _ ⟨keep_cell hk_ (hHeld.1) hgb_, keep_cell hk_ (hHeld.2.1) hgb_, keep_cell hk_ (hHeld.2.2.1) hgb_, keep_cell hk_ (hHeld.2.2.2.1) hgb_, keep_cell hk_ (hHeld.2.2.2.2.1) hgb_, keep_cell hk_ (hHeld.2.2.2.2.2.1) hgm_, keep_cell hk_ (hHeld.2.2.2.2.2.2.1) hgm_, keep_cell hk_ (hHeld.2.2.2.2.2.2.2.1) hgm_, keep_cell hk_ (hHeld.2.2.2.2.2.2.2.2.1) hgm_, keep_cell hk_ (hHeld.2.2.2.2.2.2.2.2.2.1) hgm_, keep_cell hk_ (hHeld.2.2.2.2.2.2.2.2.2.2.1) hgn_, keep_cell hk_ (hHeld.2.2.2.2.2.2.2.2.2.2.2.1) hgn_, keep_cell hk_ (hHeld.2.2.2.2.2.2.2.2.2.2.2.2.1) hgn_, keep_cell hk_ (hHeld.2.2.2.2.2.2.2.2.2.2.2.2.2.1) hgn_, keep_cell hk_ (hHeld.2.2.2.2.2.2.2.2.2.2.2.2.2.2) hgn_⟩ (fun hHeld => ?_)
          clear hK K
          refine norm_ (a' := ?_) ?_ ?_
          rotate_left
          · show Act.put _ (some 63) _ = _
            refine (put_lit _ _ _ _).trans ?_; dsimp only [List.set_cons_succ, List.set_cons_zero]
            rfl
          refine two_ (i := 4) (j := 11) (Ni := some 60) (Nj := some 67) #[true, true, true, true, true, true, true, true, true, true, true, false, false, false] #[true, true, true, true, false, true, true, true, true, true, true, true, false, false] rfl rfl rfl rfl (two_of HT_.out (by kernel_rfl)) (by decide) (by decide) (fun K hK => ?_) (fun K hK => ?_)
          · skip
            refine value_ (w1 := ?_) (v := ?_) (by rfl) rfl ?_ ?_
            rotate_left 2
            · go_simp
              constructor
              · rfl
              · rfl
            obtain ⟨ga, hg_⟩ : ∃ b, b = wq7.heap.size := ⟨_, rfl⟩
            have BA := Aside0.mk (blk_new wq7 (.cells #[.slice x.A0 x.parts.length x.c0, .int .i64 x.swap, .slice x.A2 x.looks.length x.c2, .int .i64 x.wrong, .slice x.A4 x.needs.length x.c4, .slice m0 mp.length d0, .int .i64 ms, .slice m2 ml.length d2, .int .i64 mw, .slice m4 mn_.length d4, .slice n0 xs.length e0, .int .i64 ms, .slice n2 ml.length e2, .int .i64 mw, .slice n4 mn_.length e4, .slice m0 mp.length d0, .int .i64 ms, .slice m2 ml.length d2, .int .i64 mw, .slice m4 mn_.length d4] 26 (0, 0)))
            have hb4_ : Below wq7.heap.size wq7 (wq7.alloc (.cells #[.slice x.A0 x.parts.length x.c0, .int .i64 x.swap, .slice x.A2 x.looks.length x.c2, .int .i64 x.wrong, .slice x.A4 x.needs.length x.c4, .slice m0 mp.length d0, .int .i64 ms, .slice m2 ml.length d2, .int .i64 mw, .slice m4 mn_.length d4, .slice n0 xs.length e0, .int .i64 ms, .slice n2 ml.length e2, .int .i64 mw, .slice n4 mn_.length e4, .slice m0 mp.length d0, .int .i64 ms, .slice m2 ml.length d2, .int .i64 mw, .slice m4 mn_.length d4] 26 (0, 0))) := below_alloc (Below.refl _ _) _
            generalize hw_ : wq7.alloc (.cells #[.slice x.A0 x.parts.length x.c0, .int .i64 x.swap, .slice x.A2 x.looks.length x.c2, .int .i64 x.wrong, .slice x.A4 x.needs.length x.c4, .slice m0 mp.length d0, .int .i64 ms, .slice m2 ml.length d2, .int .i64 mw, .slice m4 mn_.length d4, .slice n0 xs.length e0, .int .i64 ms, .slice n2 ml.length e2, .int .i64 mw, .slice n4 mn_.length e4, .slice m0 mp.length d0, .int .i64 ms, .slice m2 ml.length d2, .int .i64 mw, .slice m4 mn_.length d4] 26 (0, 0)) = wq7_4 at *
            rw [← hg_] at BA ⊢
            replace BKr := Aside0.mk (blk_below BKr.out hb4_)
            replace BMr := Aside0.mk (blk_below BMr.out hb4_)
            replace BNr := Aside0.mk (blk_below BNr.out hb4_)
            replace HBr := Aside0.mk (below_step HBr.out hb4_)
            replace HIr := Aside0.mk (IsS79.below HIr.out hb4_)
            replace MOr := Aside0.mk (MOr.out.below hb4_)
            replace COr := Aside0.mk (COr.out.below hb4_)
            replace RO := Aside0.mk (Kd.C_below RO.out hb4_)
            clear hw_ hg_
            refine hK.out _ _ ⟨(hb4_.cell (World.block_lt_of_cell? _ _ (hHeld.1))).trans (hHeld.1), (hb4_.cell (World.block_lt_of_cell? _ _ (hHeld.2.1))).trans (hHeld.2.1), (hb4_.cell (World.block_lt_of_cell? _ _ (hHeld.2.2.1))).trans (hHeld.2.2.1), (hb4_.cell (World.block_lt_of_cell? _ _ (hHeld.2.2.2.1))).trans (hHeld.2.2.2.1), (hb4_.cell (World.block_lt_of_cell? _ _ (hHeld.2.2.2.2.1))).trans (hHeld.2.2.2.2.1), (hb4_.cell (World.block_lt_of_cell? _ _ (hHeld.2.2.2.2.2.1))).trans (hHeld.2.2.2.2.2.1), (hb4_.cell (World.block_lt_of_cell? _ _ (hHeld.2.2.2.2.2.2.1))).trans (hHeld.2.2.2.2.2.2.1), (hb4_.cell (World.block_lt_of_cell? _ _ (hHeld.2.2.2.2.2.2.2.1))).trans (hHeld.2.2.2.2.2.2.2.1), (hb4_.cell (World.block_lt_of_cell? _ _ (hHeld.2.2.2.2.2.2.2.2.1))).trans (hHeld.2.2.2.2.2.2.2.2.1), (hb4_.cell (World.block_lt_of_cell? _ _ (hHeld.2.2.2.2.2.2.2.2.2.1))).trans (hHeld.2.2.2.2.2.2.2.2.2.1), (hb4_.cell (World.block_lt_of_cell? _ _ (hHeld.2.2.2.2.2.2.2.2.2.2.1))).trans (hHeld.2.2.2.2.2.2.2.2.2.2.1), (hb4_.cell (World.block_lt_of_cell? _ _ (hHeld.2.2.2.2.2.2.2.2.2.2.2.1))).trans (hHeld.2.2.2.2.2.2.2.2.2.2.2.1), (hb4_.cell (World.block_lt_of_cell? _ _ (hHeld.2.2.2.2.2.2.2.2.2.2.2.2.1))).trans (hHeld.2.2.2.2.2.2.2.2.2.2.2.2.1), (hb4_.cell (World.block_lt_of_cell? _ _ (hHeld.2.2.2.2.2.2.2.2.2.2.2.2.2.1))).trans (hHeld.2.2.2.2.2.2.2.2.2.2.2.2.2.1), (hb4_.cell (World.block_lt_of_cell? _ _ (hHeld.2.2.2.2.2.2.2.2.2.2.2.2.2.2))).trans (hHeld.2.2.2.2.2.2.2.2.2.2.2.2.2.2)⟩ (fun hHeld => ?_)
            clear hK K
            refine norm_ (a' := ?_) ?_ ?_
            rotate_left
            · show Act.put _ (some 60) _ = _
              refine (put_lit _ _ _ _).trans ?_; dsimp only [List.set_cons_succ, List.set_cons_zero]
              rfl
            refine pure_ (i := 12) (N := some 12) (v := ?_) (a' := ?_) #[true, true, true, true, true, true, true, true, true, true, true, false, true, false] rfl rfl (any_of HT_.out (by kernel_rfl)) (fun _ _ _ h => h) (Or.inl ⟨by rfl, ?_⟩) ?_ ?_
            rotate_left
            · intro w'
              go_simp
              with_reducible rfl
            rotate_left
            · refine (put_lit _ _ _ _).trans ?_; dsimp only [List.set_cons_succ, List.set_cons_zero]
              rfl
            refine one_ (i := 11) (N := some 67) #[true, true, true, true, true, true, true, true, true, true, true, true, true, false] rfl rfl (one_of HT_.out (by kernel_rfl)) (by decide) (fun K hK => ?_)
            refine value_ (w1 := ?_) (v := ?_) (by rfl) rfl ?_ ?_
            rotate_left 2
            · go_simp
              constructor
              · rfl
              · rfl
            obtain ⟨gl, hg_⟩ : ∃ b, b = wq7_4.heap.size := ⟨_, rfl⟩
            have BL := Aside0.mk (blk_new wq7_4 (.cells #[.slice A1 l1.length c1, .slice Ao ord.length co, .slice m4 mn_.length d4, .slice A1 l1.length c1] 24 (0, 0)))
            have hb11_ : Below wq7_4.heap.size wq7_4 (wq7_4.alloc (.cells #[.slice A1 l1.length c1, .slice Ao ord.length co, .slice m4 mn_.length d4, .slice A1 l1.length c1] 24 (0, 0))) := below_alloc (Below.refl _ _) _
            generalize hw_ : wq7_4.alloc (.cells #[.slice A1 l1.length c1, .slice Ao ord.length co, .slice m4 mn_.length d4, .slice A1 l1.length c1] 24 (0, 0)) = wq7_4_11 at *
            rw [← hg_] at BL ⊢
            replace BKr := Aside0.mk (blk_below BKr.out hb11_)
            replace BMr := Aside0.mk (blk_below BMr.out hb11_)
            replace BNr := Aside0.mk (blk_below BNr.out hb11_)
            replace HBr := Aside0.mk (below_step HBr.out hb11_)
            replace HIr := Aside0.mk (IsS79.below HIr.out hb11_)
            replace MOr := Aside0.mk (MOr.out.below hb11_)
            replace COr := Aside0.mk (COr.out.below hb11_)
            replace BA := Aside0.mk (blk_below BA.out hb11_)
            replace RO := Aside0.mk (Kd.C_below RO.out hb11_)
            clear hw_ hg_
            refine hK.out _ _ ⟨(hb11_.cell (World.block_lt_of_cell? _ _ (hHeld.1))).trans (hHeld.1), (hb11_.cell (World.block_lt_of_cell? _ _ (hHeld.2.1))).trans (hHeld.2.1), (hb11_.cell (World.block_lt_of_cell? _ _ (hHeld.2.2.1))).trans (hHeld.2.2.1), (hb11_.cell (World.block_lt_of_cell? _ _ (hHeld.2.2.2.1))).trans (hHeld.2.2.2.1), (hb11_.cell (World.block_lt_of_cell? _ _ (hHeld.2.2.2.2.1))).trans (hHeld.2.2.2.2.1), (hb11_.cell (World.block_lt_of_cell? _ _ (hHeld.2.2.2.2.2.1))).trans (hHeld.2.2.2.2.2.1), (hb11_.cell (World.block_lt_of_cell? _ _ (hHeld.2.2.2.2.2.2.1))).trans (hHeld.2.2.2.2.2.2.1), (hb11_.cell (World.block_lt_of_cell? _ _ (hHeld.2.2.2.2.2.2.2.1))).trans (hHeld.2.2.2.2.2.2.2.1), (hb11_.cell (World.block_lt_of_cell? _ _ (hHeld.2.2.2.2.2.2.2.2.1))).trans (hHeld.2.2.2.2.2.2.2.2.1), (hb11_.cell (World.block_lt_of_cell? _ _ (hHeld.2.2.2.2.2.2.2.2.2.1))).trans (hHeld.2.2.2.2.2.2.2.2.2.1), (hb11_.cell (World.block_lt_of_cell? _ _ (hHeld.2.2.2.2.2.2.2.2.2.2.1))).trans (hHeld.2.2.2.2.2.2.2.2.2.2.1), (hb11_.cell (World.block_lt_of_cell? _ _ (hHeld.2.2.2.2.2.2.2.2.2.2.2.1))).trans (hHeld.2.2.2.2.2.2.2.2.2.2.2.1), (hb11_.cell (World.block_lt_of_cell? _ _ (hHeld.2.2.2.2.2.2.2.2.2.2.2.2.1))).trans (hHeld.2.2.2.2.2.2.2.2.2.2.2.2.1), (hb11_.cell (World.block_lt_of_cell? _ _ (hHeld.2.2.2.2.2.2.2.2.2.2.2.2.2.1))).trans (hHeld.2.2.2.2.2.2.2.2.2.2.2.2.2.1), (hb11_.cell (World.block_lt_of_cell? _ _ (hHeld.2.2.2.2.2.2.2.2.2.2.2.2.2.2))).trans (hHeld.2.2.2.2.2.2.2.2.2.2.2.2.2.2)⟩ (fun hHeld => ?_)
            clear hK K
            refine norm_ (a' := ?_) ?_ ?_
            rotate_left
            · show Act.put _ (some 67) _ = _
              refine (put_lit _ _ _ _).trans ?_; dsimp only [List.set_cons_succ, List.set_cons_zero]
              rfl
            exact norm_ (by simp only [putAll, Act.put, List.setIfInBounds_toArray, List.set_cons_zero, List.set_cons_succ]) (hCont (ga, gl, Ao, co) _ ⟨hHeld, BA, BL, HBr, ⟨MOr.out.car⟩, ⟨COr.out.car⟩, RO, ⟨lo_⟩⟩)
          · skip
            refine value_ (w1 := ?_) (v := ?_) (by rfl) rfl ?_ ?_
            rotate_left 2
            · go_simp
              constructor
              · rfl
              · rfl
            obtain ⟨gl, hg_⟩ : ∃ b, b = wq7.heap.size := ⟨_, rfl⟩
            have BL := Aside0.mk (blk_new wq7 (.cells #[.slice A1 l1.length c1, .slice Ao ord.length co, .slice m4 mn_.length d4, .slice A1 l1.length c1] 24 (0, 0)))
            have hb11_ : Below wq7.heap.size wq7 (wq7.alloc (.cells #[.slice A1 l1.length c1, .slice Ao ord.length co, .slice m4 mn_.length d4, .slice A1 l1.length c1] 24 (0, 0))) := below_alloc (Below.refl _ _) _
            generalize hw_ : wq7.alloc (.cells #[.slice A1 l1.length c1, .slice Ao ord.length co, .slice m4 mn_.length d4, .slice A1 l1.length c1] 24 (0, 0)) = wq7_11 at *
            rw [← hg_] at BL ⊢
            replace BKr := Aside0.mk (blk_below BKr.out hb11_)
            replace BMr := Aside0.mk (blk_below BMr.out hb11_)
            replace BNr := Aside0.mk (blk_below BNr.out hb11_)
            replace HBr := Aside0.mk (below_step HBr.out hb11_)
            replace HIr := Aside0.mk (IsS79.below HIr.out hb11_)
            replace MOr := Aside0.mk (MOr.out.below hb11_)
            replace COr := Aside0.mk (COr.out.below hb11_)
            replace RO := Aside0.mk (Kd.C_below RO.out hb11_)
            clear hw_ hg_
            refine hK.out _ _ ⟨(hb11_.cell (World.block_lt_of_cell? _ _ (hHeld.1))).trans (hHeld.1), (hb11_.cell (World.block_lt_of_cell? _ _ (hHeld.2.1))).trans (hHeld.2.1), (hb11_.cell (World.block_lt_of_cell? _ _ (hHeld.2.2.1))).trans (hHeld.2.2.1), (hb11_.cell (World.block_lt_of_cell? _ _ (hHeld.2.2.2.1))).trans (hHeld.2.2.2.1), (hb11_.cell (World.block_lt_of_cell? _ _ (hHeld.2.2.2.2.1))).trans (hHeld.2.2.2.2.1), (hb11_.cell (World.block_lt_of_cell? _ _ (hHeld.2.2.2.2.2.1))).trans (hHeld.2.2.2.2.2.1), (hb11_.cell (World.block_lt_of_cell? _ _ (hHeld.2.2.2.2.2.2.1))).trans (hHeld.2.2.2.2.2.2.1), (hb11_.cell (World.block_lt_of_cell? _ _ (hHeld.2.2.2.2.2.2.2.1))).trans (hHeld.2.2.2.2.2.2.2.1), (hb11_.cell (World.block_lt_of_cell? _ _ (hHeld.2.2.2.2.2.2.2.2.1))).trans (hHeld.2.2.2.2.2.2.2.2.1), (hb11_.cell (World.block_lt_of_cell? _ _ (hHeld.2.2.2.2.2.2.2.2.2.1))).trans (hHeld.2.2.2.2.2.2.2.2.2.1), (hb11_.cell (World.block_lt_of_cell? _ _ (hHeld.2.2.2.2.2.2.2.2.2.2.1))).trans (hHeld.2.2.2.2.2.2.2.2.2.2.1), (hb11_.cell (World.block_lt_of_cell? _ _ (hHeld.2.2.2.2.2.2.2.2.2.2.2.1))).trans (hHeld.2.2.2.2.2.2.2.2.2.2.2.1), (hb11_.cell (World.block_lt_of_cell? _ _ (hHeld.2.2.2.2.2.2.2.2.2.2.2.2.1))).trans (hHeld.2.2.2.2.2.2.2.2.2.2.2.2.1), (hb11_.cell (World.block_lt_of_cell? _ _ (hHeld.2.2.2.2.2.2.2.2.2.2.2.2.2.1))).trans (hHeld.2.2.2.2.2.2.2.2.2.2.2.2.2.1), (hb11_.cell (World.block_lt_of_cell? _ _ (hHeld.2.2.2.2.2.2.2.2.2.2.2.2.2.2))).trans (hHeld.2.2.2.2.2.2.2.2.2.2.2.2.2.2)⟩ (fun hHeld => ?_)
            clear hK K
            refine norm_ (a' := ?_) ?_ ?_
            rotate_left
            · show Act.put _ (some 67) _ = _
              refine (put_lit _ _ _ _).trans ?_; dsimp only [List.set_cons_succ, List.set_cons_zero]
              rfl
            refine one_ (i := 4) (N := some 60) #[true, true, true, true, true, true, true, true, true, true, true, true, false, false] rfl rfl (one_of HT_.out (by kernel_rfl)) (by decide) (fun K hK => ?_)
            refine value_ (w1 := ?_) (v := ?_) (by rfl) rfl ?_ ?_
            rotate_left 2
            · go_simp
              constructor
              · rfl
              · rfl
            obtain ⟨ga, hg_⟩ : ∃ b, b = wq7_11.heap.size := ⟨_, rfl⟩
            have BA := Aside0.mk (blk_new wq7_11 (.cells #[.slice x.A0 x.parts.length x.c0, .int .i64 x.swap, .slice x.A2 x.looks.length x.c2, .int .i64 x.wrong, .slice x.A4 x.needs.length x.c4, .slice m0 mp.length d0, .int .i64 ms, .slice m2 ml.length d2, .int .i64 mw, .slice m4 mn_.length d4, .slice n0 xs.length e0, .int .i64 ms, .slice n2 ml.length e2, .int .i64 mw, .slice n4 mn_.length e4, .slice m0 mp.length d0, .int .i64 ms, .slice m2 ml.length d2, .int .i64 mw, .slice m4 mn_.length d4] 26 (0, 0)))
            have hb4_ : Below wq7_11.heap.size wq7_11 (wq7_11.alloc (.cells #[.slice x.A0 x.parts.length x.c0, .int .i64 x.swap, .slice x.A2 x.looks.length x.c2, .int .i64 x.wrong, .slice x.A4 x.needs.length x.c4, .slice m0 mp.length d0, .int .i64 ms, .slice m2 ml.length d2, .int .i64 mw, .slice m4 mn_.length d4, .slice n0 xs.length e0, .int .i64 ms, .slice n2 ml.length e2, .int .i64 mw, .slice n4 mn_.length e4, .slice m0 mp.length d0, .int .i64 ms, .slice m2 ml.length d2, .int .i64 mw, .slice m4 mn_.length d4] 26 (0, 0))) := below_alloc (Below.refl _ _) _
            generalize hw_ : wq7_11.alloc (.cells #[.slice x.A0 x.parts.length x.c0, .int .i64 x.swap, .slice x.A2 x.looks.length x.c2, .int .i64 x.wrong, .slice x.A4 x.needs.length x.c4, .slice m0 mp.length d0, .int .i64 ms, .slice m2 ml.length d2, .int .i64 mw, .slice m4 mn_.length d4, .slice n0 xs.length e0, .int .i64 ms, .slice n2 ml.length e2, .int .i64 mw, .slice n4 mn_.length e4, .slice m0 mp.length d0, .int .i64 ms, .slice m2 ml.length d2, .int .i64 mw, .slice m4 mn_.length d4] 26 (0, 0)) = wq7_11_4 at *
            rw [← hg_] at BA ⊢
            replace BKr := Aside0.mk (blk_below BKr.out hb4_)
            replace BMr := Aside0.mk (blk_below BMr.out hb4_)
            replace BNr := Aside0.mk (blk_below BNr.out hb4_)
            replace HBr := Aside0.mk (below_step HBr.out hb4_)
            replace HIr := Aside0.mk (IsS79.below HIr.out hb4_)
            replace MOr := Aside0.mk (MOr.out.below hb4_)
            replace COr := Aside0.mk (COr.out.below hb4_)
            replace BL := Aside0.mk (blk_below BL.out hb4_)
            replace RO := Aside0.mk (Kd.C_below RO.out hb4_)
            clear hw_ hg_
            refine hK.out _ _ ⟨(hb4_.cell (World.block_lt_of_cell? _ _ (hHeld.1))).trans (hHeld.1), (hb4_.cell (World.block_lt_of_cell? _ _ (hHeld.2.1))).trans (hHeld.2.1), (hb4_.cell (World.block_lt_of_cell? _ _ (hHeld.2.2.1))).trans (hHeld.2.2.1), (hb4_.cell (World.block_lt_of_cell? _ _ (hHeld.2.2.2.1))).trans (hHeld.2.2.2.1), (hb4_.cell (World.block_lt_of_cell? _ _ (hHeld.2.2.2.2.1))).trans (hHeld.2.2.2.2.1), (hb4_.cell (World.block_lt_of_cell? _ _ (hHeld.2.2.2.2.2.1))).trans (hHeld.2.2.2.2.2.1), (hb4_.cell (World.block_lt_of_cell? _ _ (hHeld.2.2.2.2.2.2.1))).trans (hHeld.2.2.2.2.2.2.1), (hb4_.cell (World.block_lt_of_cell? _ _ (hHeld.2.2.2.2.2.2.2.1))).trans (hHeld.2.2.2.2.2.2.2.1), (hb4_.cell (World.block_lt_of_cell? _ _ (hHeld.2.2.2.2.2.2.2.2.1))).trans (hHeld.2.2.2.2.2.2.2.2.1), (hb4_.cell (World.block_lt_of_cell? _ _ (hHeld.2.2.2.2.2.2.2.2.2.1))).trans (hHeld.2.2.2.2.2.2.2.2.2.1), (hb4_.cell (World.block_lt_of_cell? _ _ (hHeld.2.2.2.2.2.2.2.2.2.2.1))).trans (hHeld.2.2.2.2.2.2.2.2.2.2.1), (hb4_.cell (World.block_lt_of_cell? _ _ (hHeld.2.2.2.2.2.2.2.2.2.2.2.1))).trans (hHeld.2.2.2.2.2.2.2.2.2.2.2.1), (hb4_.cell (World.block_lt_of_cell? _ _ (hHeld.2.2.2.2.2.2.2.2.2.2.2.2.1))).trans (hHeld.2.2.2.2.2.2.2.2.2.2.2.2.1), (hb4_.cell (World.block_lt_of_cell? _ _ (hHeld.2.2.2.2.2.2.2.2.2.2.2.2.2.1))).trans (hHeld.2.2.2.2.2.2.2.2.2.2.2.2.2.1), (hb4_.cell (World.block_lt_of_cell? _ _ (hHeld.2.2.2.2.2.2.2.2.2.2.2.2.2.2))).trans (hHeld.2.2.2.2.2.2.2.2.2.2.2.2.2.2)⟩ (fun hHeld => ?_)
            clear hK K
            refine norm_ (a' := ?_) ?_ ?_
            rotate_left
            · show Act.put _ (some 60) _ = _
              refine (put_lit _ _ _ _).trans ?_; dsimp only [List.set_cons_succ, List.set_cons_zero]
              rfl
            refine pure_ (i := 12) (N := some 12) (v := ?_) (a' := ?_) #[true, true, true, true, true, true, true, true, true, true, true, true, true, false] rfl rfl (any_of HT_.out (by kernel_rfl)) (fun _ _ _ h => h) (Or.inl ⟨by rfl, ?_⟩) ?_ ?_
            rotate_left
            · intro w'
              go_simp
              with_reducible rfl
            rotate_left
            · refine (put_lit _ _ _ _).trans ?_; dsimp only [List.set_cons_succ, List.set_cons_zero]
              rfl
            exact norm_ (by simp only [putAll, Act.put, List.setIfInBounds_toArray, List.set_cons_zero, List.set_cons_succ]) (hCont (ga, gl, Ao, co) _ ⟨hHeld, BA, BL, HBr, ⟨MOr.out.car⟩, ⟨COr.out.car⟩, RO, ⟨lo_⟩⟩)
      clear BKr BMr BNr HBr HIr MOr COr
      rintro ⟨ga, gl, Ao, co⟩ wj ⟨hHeld, BA, BL, HBj, MJ, CJ, RO, LO⟩
      refine norm_ (a' := ?_) ?_ ?_
      rotate_left
      · simp only [putAll, Act.put, List.setIfInBounds_toArray, List.set_cons_zero, List.set_cons_succ]
        rfl
      refine pure_ (i := 13) (N := some 13) (v := ?_) (a' := ?_) #[true, true, true, true, true, true, true, true, true, true, true, true, true, true] rfl rfl (any_of HT_.out (by kernel_rfl)) (fun _ _ _ h => h) (Or.inl ⟨by rfl, ?_⟩) ?_ ?_
      rotate_left
      · intro w'
        go_simp
        with_reducible rfl
      rotate_left
      · refine (put_lit _ _ _ _).trans ?_; dsimp only [List.set_cons_succ, List.set_cons_zero]
        rfl
      refine done_ (done_of HT_.out (by kernel_rfl)) ?_
      clear hHeld XL XH
      go_wp2
      have HE : Aside0 (∀ k : Nat, k < 4 → ∃ (y : CarV) (B : Option Addr) (c : Nat) (l : List Int), y.Ok wj ∧ Kd.C (Kd.int .i64) wj B l.length l ∧ l.length ≤ c ∧ CrushEq y l ∧ (∀ j v, (#[.slice y.A0 y.parts.length y.c0, .int .i64 y.swap, .slice y.A2 y.looks.length y.c2, .int .i64 y.wrong, .slice y.A4 y.needs.length y.c4] : Array Value)[j]? = some v → wj.cell? ⟨ga, k * 5 + j, none⟩ = some v) ∧ wj.cell? ⟨gl, k, none⟩ = some (.slice B l.length c)) := by
        have hr1 := Kd.C_below HR1.out HBj.out
        have hx1 := HX.out.below HBj.out
        refine ⟨fun k hk => ?_⟩
        rcases k with _ | _ | _ | _ | k
        · refine ⟨x, A1, c1, l1, hx1, hr1, hc1, HQx.out, cells_at BA.out _ _ (fun j v hj => ?_), (blk_cell BL.out 0).trans rfl⟩
          rcases j with _ | _ | _ | _ | _ | j <;> first | exact hj | (simp at hj)
        · refine ⟨(⟨m0, d0, mp, ms, m2, d2, ml, mw, m4, d4, mn_⟩ : CarV), Ao, co, ord, MJ.out, RO.out, LO.out, HQm.out _ _ _ _ _ _, cells_at BA.out _ _ (fun j v hj => ?_), (blk_cell BL.out 1).trans rfl⟩
          rcases j with _ | _ | _ | _ | _ | j <;> first | exact hj | (simp at hj)
        · refine ⟨(⟨n0, e0, xs, ms, n2, e2, ml, mw, n4, e4, mn_⟩ : CarV), m4, d4, mn_, CJ.out, MJ.out.n, MJ.out.nc, HQn.out _ _ _ _ _ _, cells_at BA.out _ _ (fun j v hj => ?_), (blk_cell BL.out 2).trans rfl⟩
          rcases j with _ | _ | _ | _ | _ | j <;> first | exact hj | (simp at hj)
        · refine ⟨(⟨m0, d0, mp, ms, m2, d2, ml, mw, m4, d4, mn_⟩ : CarV), A1, c1, l1, MJ.out, hr1, hc1, HQp.out _ _ _ _ _ _, cells_at BA.out _ _ (fun j v hj => ?_), (blk_cell BL.out 3).trans rfl⟩
          rcases j with _ | _ | _ | _ | _ | j <;> first | exact hj | (simp at hj)
        · omega
      clear BA BL MJ CJ RO LO
      go_loopg [14] 4 (fun gk v14 wr => ∃ k : Nat, k ≤ 4 ∧ 4 - k ≤ gk ∧ v14 = .int .i64 k ∧ Aside0 (Below wj.heap.size wj wr))
      case atStart => exact ⟨0, by omega, by omega, rfl, ⟨Below.refl _ _⟩⟩
      case round =>
        obtain ⟨k, hk, hgk, rfl, HBr⟩ := hrel
        by_cases hlt : k < 4
        · obtain ⟨y, B, c, l, hy, hr, hc, hq, hcells, hcl⟩ := HE.out k hlt
          have hlz : (k : Int) < 4 := by omega
          have YO := Aside0.mk (hy.below HBr.out)
          have RB := Aside0.mk (Kd.C_below hr HBr.out)
          have CE := Aside0.mk (cells_below hcells HBr.out)
          have hl0 := (HBr.out.cell (World.block_lt_of_cell? wj _ hcl)).trans hcl
          obtain ⟨kc_, hcopy⟩ := hq.copy
          obtain ⟨e1, hf1, ⟨k1, hr1⟩⟩ := hq.crush
          obtain ⟨ke, heq⟩ := hq.sameL
          have FS := Aside0.mk hq.same
          have FI := Aside0.mk hq.ints
          have FC := Aside0.mk hcopy
          have FE := Aside0.mk heq
          have F1 := Aside0.mk hf1
          have R1 := Aside0.mk hr1
          clear hcopy heq hf1 hr1 hy hq hcells hr hcl
          go_upto_region 14 with (fail)
          have hbn := below_drew1 (Below.refl wr.heap.size wr)
          replace CE := Aside0.mk (cells_below CE.out hbn)
          have CL := Aside0.mk hl0
          have hc0 := cell_zero (CE.out 0 _ rfl)
          have hc1_ := CE.out 1 _ rfl
          have hc2_ := CE.out 2 _ rfl
          have hc3_ := CE.out 3 _ rfl
          have hc4_ := CE.out 4 _ rfl
          have HBr0 := Aside0.mk (below_step HBr.out hbn)
          replace CL := Aside0.mk ((hbn.cell (World.block_lt_of_cell? _ _ CL.out)).trans CL.out)
          replace YO := Aside0.mk (YO.out.below hbn)
          replace RB := Aside0.mk (Kd.C_below RB.out hbn)
          have YO0 := YO
          have RB0 := RB
          clear hbn HBr
          refine start_ (n := 13) (S := fun w' => w'.cell? ⟨ga, k * 5, none⟩ = some (.slice y.A0 y.parts.length y.c0) ∧ w'.cell? ⟨ga, k * 5 + 1, none⟩ = some (.int .i64 y.swap) ∧ w'.cell? ⟨ga, k * 5 + 2, none⟩ = some (.slice y.A2 y.looks.length y.c2) ∧ w'.cell? ⟨ga, k * 5 + 3, none⟩ = some (.int .i64 y.wrong) ∧ w'.cell? ⟨ga, k * 5 + 4, none⟩ = some (.slice y.A4 y.needs.length y.c4) ∧ w'.cell? ⟨gl, k, none⟩ = some (.slice B l.length c)) (ds := [11]) #[false, false, false, false, false, false, false, false, false, false, false, false, false] (by kernel_rfl) rfl rfl ⟨hc0, hc1_, hc2_, hc3_, hc4_, hl0⟩ (fun hHeld => ?_)
          generalize wr.drew = wd at HBr0 YO RB YO0 RB0 CE CL hHeld ⊢
          refine with_tabW crush10.tab14 crush10.bits14 (fun HT_ HW_ => ?_)
          refine pure_ (i := 0) (N := some 74) (v := ?_) (a' := ?_) #[true, false, false, false, false, false, false, false, false, false, false, false, false] rfl rfl (any_of HT_.out (by kernel_rfl)) (fun _ _ _ h => h) (Or.inl ⟨by rfl, ?_⟩) ?_ ?_
          rotate_left
          · intro w'
            go_simp
            with_reducible rfl
          rotate_left
          · refine (put_lit _ _ _ _).trans ?_; dsimp only [List.set_cons_succ, List.set_cons_zero]
            rfl
          refine pure_ (i := 1) (N := some 75) (v := ?_) (a' := ?_) #[true, true, false, false, false, false, false, false, false, false, false, false, false] rfl rfl (any_of HT_.out (by kernel_rfl)) (fun _ _ _ h => h) (Or.inl ⟨by rfl, ?_⟩) ?_ ?_
          rotate_left
          · intro w'
            go_simp
            with_reducible rfl
          rotate_left
          · refine (put_lit _ _ _ _).trans ?_; dsimp only [List.set_cons_succ, List.set_cons_zero]
            rfl
          refine pure_ (i := 2) (N := some 76) (v := ?_) (a' := ?_) #[true, true, true, false, false, false, false, false, false, false, false, false, false] rfl rfl (any_of HT_.out (by kernel_rfl)) (fun _ _ _ h => h) (Or.inl ⟨by rfl, ?_⟩) ?_ ?_
          rotate_left
          · intro w'
            go_simp
            with_reducible rfl
          rotate_left
          · refine (put_lit _ _ _ _).trans ?_; dsimp only [List.set_cons_succ, List.set_cons_zero]
            rfl
          refine pure_ (i := 5) (N := some 79) (v := ?_) (a' := ?_) #[true, true, true, false, false, true, false, false, false, false, false, false, false] rfl rfl (any_of HT_.out (by kernel_rfl)) (fun _ _ _ h => h) (Or.inl ⟨by rfl, ?_⟩) ?_ ?_
          rotate_left
          · intro w'
            go_simp
            with_reducible rfl
          rotate_left
          · refine (put_lit _ _ _ _).trans ?_; dsimp only [List.set_cons_succ, List.set_cons_zero]
            rfl
          refine pure_ (i := 6) (N := some 80) (v := ?_) (a' := ?_) #[true, true, true, false, false, true, true, false, false, false, false, false, false] rfl rfl (any_of HT_.out (by kernel_rfl)) (fun _ _ _ h => h) (Or.inl ⟨by rfl, ?_⟩) ?_ ?_
          rotate_left
          · intro w'
            go_simp
            with_reducible rfl
          rotate_left
          · refine (put_lit _ _ _ _).trans ?_; dsimp only [List.set_cons_succ, List.set_cons_zero]
            rfl
          refine pure_ (i := 7) (N := some 81) (v := ?_) (a' := ?_) #[true, true, true, false, false, true, true, true, false, false, false, false, false] rfl rfl (any_of HT_.out (by kernel_rfl)) (fun _ _ _ h => h) (Or.inl ⟨by rfl, ?_⟩) ?_ ?_
          rotate_left
          · intro w'
            go_simp
            with_reducible rfl
          rotate_left
          · refine (put_lit _ _ _ _).trans ?_; dsimp only [List.set_cons_succ, List.set_cons_zero]
            rfl
          refine take_ (i := 3) (N := some 77) (v := ?_) (a' := ?_) #[true, true, true, true, false, true, true, true, false, false, false, false, false] rfl rfl (take_ofW HT_.out HW_.out (by kernel_rfl)) (fun _ _ _ h => h) (Or.inl ⟨by rfl, ?_⟩) hHeld ?_ ?_
          rotate_left
          · rintro w' ⟨s0, s1, s2, s3, s4, s5⟩
            go_simp
            with_reducible rfl
          rotate_left
          · refine (put_lit _ _ _ _).trans ?_; dsimp only [List.set_cons_succ, List.set_cons_zero]
            rfl
          refine take_ (i := 8) (N := some 82) (v := ?_) (a' := ?_) #[true, true, true, true, false, true, true, true, true, false, false, false, false] rfl rfl (take_ofW HT_.out HW_.out (by kernel_rfl)) (fun _ _ _ h => h) (Or.inl ⟨by rfl, ?_⟩) hHeld ?_ ?_
          rotate_left
          · rintro w' ⟨s0, s1, s2, s3, s4, s5⟩
            go_simp
            with_reducible rfl
          rotate_left
          · refine (put_lit _ _ _ _).trans ?_; dsimp only [List.set_cons_succ, List.set_cons_zero]
            rfl
          refine join_ (σ := Nat × Option Addr × Nat × Option Addr × Nat × Option Addr × Nat × Option Addr × Nat) 2 #[true, true, true, true, true, true, true, true, true, true, true, false, false] (fun s_ => [(15, .pointer (some ⟨s_.1, 0, none⟩)), (78, .agg #[.slice s_.2.2.2.1 y.parts.length s_.2.2.2.2.1, .int .i64 y.swap, .slice s_.2.2.2.2.2.1 y.looks.length s_.2.2.2.2.2.2.1, .int .i64 y.wrong, .slice s_.2.2.2.2.2.2.2.1 y.needs.length s_.2.2.2.2.2.2.2.2]), (83, .slice s_.2.1 l.length s_.2.2.1)]) (fun s_ w' => (w'.cell? ⟨ga, k * 5, none⟩ = some (.slice y.A0 y.parts.length y.c0) ∧ w'.cell? ⟨ga, k * 5 + 1, none⟩ = some (.int .i64 y.swap) ∧ w'.cell? ⟨ga, k * 5 + 2, none⟩ = some (.slice y.A2 y.looks.length y.c2) ∧ w'.cell? ⟨ga, k * 5 + 3, none⟩ = some (.int .i64 y.wrong) ∧ w'.cell? ⟨ga, k * 5 + 4, none⟩ = some (.slice y.A4 y.needs.length y.c4) ∧ w'.cell? ⟨gl, k, none⟩ = some (.slice B l.length c)) ∧ Aside0 (w'.heap[s_.1]? = some (.cells #[.slice none 0 0, .int .i64 0, .slice none 0 0, .int .i64 0, .slice none 0 0] 26 (0, 0))) ∧ wd.heap.size ≤ s_.1 ∧ Aside0 (Below wd.heap.size wd w') ∧ Aside0 (Kd.R (Kd.int .i64) 3 w' 0 (fun _ => True) (.slice s_.2.1 l.length s_.2.2.1) l) ∧ Aside0 (OwnC w' 0 (fun _ => True) (⟨s_.2.2.2.1, s_.2.2.2.2.1, y.parts, y.swap, s_.2.2.2.2.2.1, s_.2.2.2.2.2.2.1, y.looks, y.wrong, s_.2.2.2.2.2.2.2.1, s_.2.2.2.2.2.2.2.2, y.needs⟩ : CarV))) ?_ ?_
          rotate_left
          · intro hCont
            refine two_ (i := 4) (j := 10) (Ni := some 78) (Nj := some 15) #[true, true, true, true, true, true, true, true, true, false, false, false, false] #[true, true, true, true, false, true, true, true, true, false, true, false, false] rfl rfl rfl rfl (two_of HT_.out (by kernel_rfl)) (by decide) (by decide) (fun K hK => ?_) (fun K hK => ?_)
            · skip
              refine goes_ Try.func19 (by kernel_rfl) rfl #[.agg #[.slice y.A0 y.parts.length y.c0, .int .i64 y.swap, .slice y.A2 y.looks.length y.c2, .int .i64 y.wrong, .slice y.A4 y.needs.length y.c4]] (by rfl) rfl rfl (by (try simp only [List.map_toArray, List.map_cons, List.map_nil]); first | done | rfl) ?_
              with_reducible refine (swarfkit_CopyCar.calls kc_ y.A0 y.c0 y.parts y.swap y.A2 y.c2 y.looks y.wrong y.A4 y.c4 y.needs y.parts y.swap y.looks y.wrong y.needs _ YO.out.p YO.out.pc YO.out.l YO.out.lc YO.out.n YO.out.nc FC.out).mono ?_
              rintro e wp4 ⟨v0, v2_, v4_, rfl, ho0, ho1, ho2, hb_⟩
              obtain ⟨m0, d0, rfl⟩ := Kd.S_slice ho0
              obtain ⟨m2, d2, rfl⟩ := Kd.R_slice ho1
              obtain ⟨m4, d4, rfl⟩ := Kd.R_slice ho2
              have OX := Aside0.mk (show OwnC wp4 0 (fun _ => True) ⟨m0, d0, y.parts, y.swap, m2, d2, y.looks, y.wrong, m4, d4, y.needs⟩ from ⟨Kd.S_lower (Kd.S_mono ho0 (fun _ _ => trivial)) (Nat.zero_le _), Kd.R_lower (Kd.R_mono ho1 (fun _ _ => trivial)) (Nat.zero_le _), Kd.R_lower (Kd.R_mono ho2 (fun _ _ => trivial)) (Nat.zero_le _)⟩)
              clear ho0 ho1 ho2
              have hb4_ := hb_
              have HBd := Aside0.mk hb_
              replace YO := Aside0.mk (YO.out.below hb_)
              replace RB := Aside0.mk (Kd.C_below RB.out hb_)
              refine ⟨_, rfl, ?_⟩
              refine hK.out _ _ ⟨(hb4_.cell (World.block_lt_of_cell? _ _ (hHeld.1))).trans (hHeld.1), (hb4_.cell (World.block_lt_of_cell? _ _ (hHeld.2.1))).trans (hHeld.2.1), (hb4_.cell (World.block_lt_of_cell? _ _ (hHeld.2.2.1))).trans (hHeld.2.2.1), (hb4_.cell (World.block_lt_of_cell? _ _ (hHeld.2.2.2.1))).trans (hHeld.2.2.2.1), (hb4_.cell (World.block_lt_of_cell? _ _ (hHeld.2.2.2.2.1))).trans (hHeld.2.2.2.2.1), (hb4_.cell (World.block_lt_of_cell? _ _ (hHeld.2.2.2.2.2))).trans (hHeld.2.2.2.2.2)⟩ (fun hHeld => ?_)
              clear hK K
              refine norm_ (a' := ?_) ?_ ?_
              rotate_left
              · show Act.put _ (some 78) _ = _
                refine (put_lit _ _ _ _).trans ?_; dsimp only [List.set_cons_succ, List.set_cons_zero]
                rfl
              refine two_ (i := 9) (j := 10) (Ni := some 83) (Nj := some 15) #[true, true, true, true, true, true, true, true, true, true, false, false, false] #[true, true, true, true, true, true, true, true, true, false, true, false, false] rfl rfl rfl rfl (two_of HT_.out (by kernel_rfl)) (by decide) (by decide) (fun K hK => ?_) (fun K hK => ?_)
              · skip
                refine goes_ Try.func43 (by kernel_rfl) rfl #[.slice B l.length c] (by rfl) rfl rfl (by (try simp only [List.map_toArray, List.map_cons, List.map_nil]); first | done | rfl) ?_
                with_reducible refine (swarfkit_Ints.calls B c l l _ RB.out hc FI.out).mono ?_
                rintro e wp4_9 ⟨vi_, rfl, ho_, hb_⟩
                obtain ⟨Ai, ci, rfl⟩ := Kd.R_slice ho_
                have RI := Aside0.mk (Kd.R_lower (base' := 0) (Kd.R_mono ho_ (fun _ _ => trivial)) (Nat.zero_le _))
                clear ho_
                have hb9_ := hb_
                replace HBd := Aside0.mk (below_step HBd.out hb_)
                replace YO := Aside0.mk (YO.out.below hb_)
                replace RB := Aside0.mk (Kd.C_below RB.out hb_)
                replace OX := Aside0.mk (OX.out.below hb_)
                refine ⟨_, rfl, ?_⟩
                refine hK.out _ _ ⟨(hb9_.cell (World.block_lt_of_cell? _ _ (hHeld.1))).trans (hHeld.1), (hb9_.cell (World.block_lt_of_cell? _ _ (hHeld.2.1))).trans (hHeld.2.1), (hb9_.cell (World.block_lt_of_cell? _ _ (hHeld.2.2.1))).trans (hHeld.2.2.1), (hb9_.cell (World.block_lt_of_cell? _ _ (hHeld.2.2.2.1))).trans (hHeld.2.2.2.1), (hb9_.cell (World.block_lt_of_cell? _ _ (hHeld.2.2.2.2.1))).trans (hHeld.2.2.2.2.1), (hb9_.cell (World.block_lt_of_cell? _ _ (hHeld.2.2.2.2.2))).trans (hHeld.2.2.2.2.2)⟩ (fun hHeld => ?_)
                clear hK K
                refine norm_ (a' := ?_) ?_ ?_
                rotate_left
                · show Act.put _ (some 83) _ = _
                  refine (put_lit _ _ _ _).trans ?_; dsimp only [List.set_cons_succ, List.set_cons_zero]
                  rfl
                refine one_ (i := 10) (N := some 15) #[true, true, true, true, true, true, true, true, true, true, true, false, false] rfl rfl (one_of HT_.out (by kernel_rfl)) (by decide) (fun K hK => ?_)
                refine value_ (w1 := ?_) (v := ?_) (by rfl) rfl ?_ ?_
                rotate_left 2
                · go_simp
                  constructor
                  · rfl
                  · rfl
                obtain ⟨go, hg_⟩ : ∃ b, b = wp4_9.heap.size := ⟨_, rfl⟩
                have BO := Aside0.mk (blk_new wp4_9 (.cells #[.slice none 0 0, .int .i64 0, .slice none 0 0, .int .i64 0, .slice none 0 0] 26 (0, 0)))
                have hb10_ : Below wp4_9.heap.size wp4_9 (wp4_9.alloc (.cells #[.slice none 0 0, .int .i64 0, .slice none 0 0, .int .i64 0, .slice none 0 0] 26 (0, 0))) := below_alloc (Below.refl _ _) _
                have hgo_ : wd.heap.size ≤ go := by rw [hg_]; exact (by have := hb4_.size; have := hb9_.size; omega)
                generalize hw_ : wp4_9.alloc (.cells #[.slice none 0 0, .int .i64 0, .slice none 0 0, .int .i64 0, .slice none 0 0] 26 (0, 0)) = wp4_9_10 at *
                rw [← hg_] at BO ⊢
                replace HBd := Aside0.mk (below_step HBd.out hb10_)
                replace YO := Aside0.mk (YO.out.below hb10_)
                replace RB := Aside0.mk (Kd.C_below RB.out hb10_)
                replace OX := Aside0.mk (OX.out.below hb10_)
                replace RI := Aside0.mk (Kd.R_below RI.out hb10_)
                clear hw_ hg_
                refine hK.out _ _ ⟨(hb10_.cell (World.block_lt_of_cell? _ _ (hHeld.1))).trans (hHeld.1), (hb10_.cell (World.block_lt_of_cell? _ _ (hHeld.2.1))).trans (hHeld.2.1), (hb10_.cell (World.block_lt_of_cell? _ _ (hHeld.2.2.1))).trans (hHeld.2.2.1), (hb10_.cell (World.block_lt_of_cell? _ _ (hHeld.2.2.2.1))).trans (hHeld.2.2.2.1), (hb10_.cell (World.block_lt_of_cell? _ _ (hHeld.2.2.2.2.1))).trans (hHeld.2.2.2.2.1), (hb10_.cell (World.block_lt_of_cell? _ _ (hHeld.2.2.2.2.2))).trans (hHeld.2.2.2.2.2)⟩ (fun hHeld => ?_)
                clear hK K
                refine norm_ (a' := ?_) ?_ ?_
                rotate_left
                · show Act.put _ (some 15) _ = _
                  refine (put_lit _ _ _ _).trans ?_; dsimp only [List.set_cons_succ, List.set_cons_zero]
                  rfl
                exact norm_ (by simp only [putAll, Act.put, List.setIfInBounds_toArray, List.set_cons_zero, List.set_cons_succ]) (hCont (go, Ai, ci, m0, d0, m2, d2, m4, d4) _ ⟨hHeld, BO, hgo_, HBd, RI, OX⟩)
              · skip
                refine value_ (w1 := ?_) (v := ?_) (by rfl) rfl ?_ ?_
                rotate_left 2
                · go_simp
                  constructor
                  · rfl
                  · rfl
                obtain ⟨go, hg_⟩ : ∃ b, b = wp4.heap.size := ⟨_, rfl⟩
                have BO := Aside0.mk (blk_new wp4 (.cells #[.slice none 0 0, .int .i64 0, .slice none 0 0, .int .i64 0, .slice none 0 0] 26 (0, 0)))
                have hb10_ : Below wp4.heap.size wp4 (wp4.alloc (.cells #[.slice none 0 0, .int .i64 0, .slice none 0 0, .int .i64 0, .slice none 0 0] 26 (0, 0))) := below_alloc (Below.refl _ _) _
                have hgo_ : wd.heap.size ≤ go := by rw [hg_]; exact (by have := hb4_.size; omega)
                generalize hw_ : wp4.alloc (.cells #[.slice none 0 0, .int .i64 0, .slice none 0 0, .int .i64 0, .slice none 0 0] 26 (0, 0)) = wp4_10 at *
                rw [← hg_] at BO ⊢
                replace HBd := Aside0.mk (below_step HBd.out hb10_)
                replace YO := Aside0.mk (YO.out.below hb10_)
                replace RB := Aside0.mk (Kd.C_below RB.out hb10_)
                replace OX := Aside0.mk (OX.out.below hb10_)
                clear hw_ hg_
                refine hK.out _ _ ⟨(hb10_.cell (World.block_lt_of_cell? _ _ (hHeld.1))).trans (hHeld.1), (hb10_.cell (World.block_lt_of_cell? _ _ (hHeld.2.1))).trans (hHeld.2.1), (hb10_.cell (World.block_lt_of_cell? _ _ (hHeld.2.2.1))).trans (hHeld.2.2.1), (hb10_.cell (World.block_lt_of_cell? _ _ (hHeld.2.2.2.1))).trans (hHeld.2.2.2.1), (hb10_.cell (World.block_lt_of_cell? _ _ (hHeld.2.2.2.2.1))).trans (hHeld.2.2.2.2.1), (hb10_.cell (World.block_lt_of_cell? _ _ (hHeld.2.2.2.2.2))).trans (hHeld.2.2.2.2.2)⟩ (fun hHeld => ?_)
                clear hK K
                refine norm_ (a' := ?_) ?_ ?_
                rotate_left
                · show Act.put _ (some 15) _ = _
                  refine (put_lit _ _ _ _).trans ?_; dsimp only [List.set_cons_succ, List.set_cons_zero]
                  rfl
                refine one_ (i := 9) (N := some 83) #[true, true, true, true, true, true, true, true, true, true, true, false, false] rfl rfl (one_of HT_.out (by kernel_rfl)) (by decide) (fun K hK => ?_)
                refine goes_ Try.func43 (by kernel_rfl) rfl #[.slice B l.length c] (by rfl) rfl rfl (by (try simp only [List.map_toArray, List.map_cons, List.map_nil]); first | done | rfl) ?_
                with_reducible refine (swarfkit_Ints.calls B c l l _ RB.out hc FI.out).mono ?_
                rintro e wp4_10_9 ⟨vi_, rfl, ho_, hb_⟩
                obtain ⟨Ai, ci, rfl⟩ := Kd.R_slice ho_
                have RI := Aside0.mk (Kd.R_lower (base' := 0) (Kd.R_mono ho_ (fun _ _ => trivial)) (Nat.zero_le _))
                clear ho_
                have hb9_ := hb_
                replace HBd := Aside0.mk (below_step HBd.out hb_)
                replace YO := Aside0.mk (YO.out.below hb_)
                replace RB := Aside0.mk (Kd.C_below RB.out hb_)
                replace OX := Aside0.mk (OX.out.below hb_)
                replace BO := Aside0.mk (blk_below BO.out hb_)
                refine ⟨_, rfl, ?_⟩
                refine hK.out _ _ ⟨(hb9_.cell (World.block_lt_of_cell? _ _ (hHeld.1))).trans (hHeld.1), (hb9_.cell (World.block_lt_of_cell? _ _ (hHeld.2.1))).trans (hHeld.2.1), (hb9_.cell (World.block_lt_of_cell? _ _ (hHeld.2.2.1))).trans (hHeld.2.2.1), (hb9_.cell (World.block_lt_of_cell? _ _ (hHeld.2.2.2.1))).trans (hHeld.2.2.2.1), (hb9_.cell (World.block_lt_of_cell? _ _ (hHeld.2.2.2.2.1))).trans (hHeld.2.2.2.2.1), (hb9_.cell (World.block_lt_of_cell? _ _ (hHeld.2.2.2.2.2))).trans (hHeld.2.2.2.2.2)⟩ (fun hHeld => ?_)
                clear hK K
                refine norm_ (a' := ?_) ?_ ?_
                rotate_left
                · show Act.put _ (some 83) _ = _
                  refine (put_lit _ _ _ _).trans ?_; dsimp only [List.set_cons_succ, List.set_cons_zero]
                  rfl
                exact norm_ (by simp only [putAll, Act.put, List.setIfInBounds_toArray, List.set_cons_zero, List.set_cons_succ]) (hCont (go, Ai, ci, m0, d0, m2, d2, m4, d4) _ ⟨hHeld, BO, hgo_, HBd, RI, OX⟩)
            · skip
              refine value_ (w1 := ?_) (v := ?_) (by rfl) rfl ?_ ?_
              rotate_left 2
              · go_simp
                constructor
                · rfl
                · rfl
              obtain ⟨go, hg_⟩ : ∃ b, b = wd.heap.size := ⟨_, rfl⟩
              have BO := Aside0.mk (blk_new wd (.cells #[.slice none 0 0, .int .i64 0, .slice none 0 0, .int .i64 0, .slice none 0 0] 26 (0, 0)))
              have hb10_ : Below wd.heap.size wd (wd.alloc (.cells #[.slice none 0 0, .int .i64 0, .slice none 0 0, .int .i64 0, .slice none 0 0] 26 (0, 0))) := below_alloc (Below.refl _ _) _
              have hgo_ : wd.heap.size ≤ go := by rw [hg_]; exact Nat.le_refl _
              generalize hw_ : wd.alloc (.cells #[.slice none 0 0, .int .i64 0, .slice none 0 0, .int .i64 0, .slice none 0 0] 26 (0, 0)) = wp10 at *
              rw [← hg_] at BO ⊢
              have HBd := Aside0.mk hb10_
              replace YO := Aside0.mk (YO.out.below hb10_)
              replace RB := Aside0.mk (Kd.C_below RB.out hb10_)
              clear hw_ hg_
              refine hK.out _ _ ⟨(hb10_.cell (World.block_lt_of_cell? _ _ (hHeld.1))).trans (hHeld.1), (hb10_.cell (World.block_lt_of_cell? _ _ (hHeld.2.1))).trans (hHeld.2.1), (hb10_.cell (World.block_lt_of_cell? _ _ (hHeld.2.2.1))).trans (hHeld.2.2.1), (hb10_.cell (World.block_lt_of_cell? _ _ (hHeld.2.2.2.1))).trans (hHeld.2.2.2.1), (hb10_.cell (World.block_lt_of_cell? _ _ (hHeld.2.2.2.2.1))).trans (hHeld.2.2.2.2.1), (hb10_.cell (World.block_lt_of_cell? _ _ (hHeld.2.2.2.2.2))).trans (hHeld.2.2.2.2.2)⟩ (fun hHeld => ?_)
              clear hK K
              refine norm_ (a' := ?_) ?_ ?_
              rotate_left
              · show Act.put _ (some 15) _ = _
                refine (put_lit _ _ _ _).trans ?_; dsimp only [List.set_cons_succ, List.set_cons_zero]
                rfl
              refine one_ (i := 4) (N := some 78) #[true, true, true, true, true, true, true, true, true, false, true, false, false] rfl rfl (one_of HT_.out (by kernel_rfl)) (by decide) (fun K hK => ?_)
              refine goes_ Try.func19 (by kernel_rfl) rfl #[.agg #[.slice y.A0 y.parts.length y.c0, .int .i64 y.swap, .slice y.A2 y.looks.length y.c2, .int .i64 y.wrong, .slice y.A4 y.needs.length y.c4]] (by rfl) rfl rfl (by (try simp only [List.map_toArray, List.map_cons, List.map_nil]); first | done | rfl) ?_
              with_reducible refine (swarfkit_CopyCar.calls kc_ y.A0 y.c0 y.parts y.swap y.A2 y.c2 y.looks y.wrong y.A4 y.c4 y.needs y.parts y.swap y.looks y.wrong y.needs _ YO.out.p YO.out.pc YO.out.l YO.out.lc YO.out.n YO.out.nc FC.out).mono ?_
              rintro e wp10_4 ⟨v0, v2_, v4_, rfl, ho0, ho1, ho2, hb_⟩
              obtain ⟨m0, d0, rfl⟩ := Kd.S_slice ho0
              obtain ⟨m2, d2, rfl⟩ := Kd.R_slice ho1
              obtain ⟨m4, d4, rfl⟩ := Kd.R_slice ho2
              have OX := Aside0.mk (show OwnC wp10_4 0 (fun _ => True) ⟨m0, d0, y.parts, y.swap, m2, d2, y.looks, y.wrong, m4, d4, y.needs⟩ from ⟨Kd.S_lower (Kd.S_mono ho0 (fun _ _ => trivial)) (Nat.zero_le _), Kd.R_lower (Kd.R_mono ho1 (fun _ _ => trivial)) (Nat.zero_le _), Kd.R_lower (Kd.R_mono ho2 (fun _ _ => trivial)) (Nat.zero_le _)⟩)
              clear ho0 ho1 ho2
              have hb4_ := hb_
              replace HBd := Aside0.mk (below_step HBd.out hb_)
              replace YO := Aside0.mk (YO.out.below hb_)
              replace RB := Aside0.mk (Kd.C_below RB.out hb_)
              replace BO := Aside0.mk (blk_below BO.out hb_)
              refine ⟨_, rfl, ?_⟩
              refine hK.out _ _ ⟨(hb4_.cell (World.block_lt_of_cell? _ _ (hHeld.1))).trans (hHeld.1), (hb4_.cell (World.block_lt_of_cell? _ _ (hHeld.2.1))).trans (hHeld.2.1), (hb4_.cell (World.block_lt_of_cell? _ _ (hHeld.2.2.1))).trans (hHeld.2.2.1), (hb4_.cell (World.block_lt_of_cell? _ _ (hHeld.2.2.2.1))).trans (hHeld.2.2.2.1), (hb4_.cell (World.block_lt_of_cell? _ _ (hHeld.2.2.2.2.1))).trans (hHeld.2.2.2.2.1), (hb4_.cell (World.block_lt_of_cell? _ _ (hHeld.2.2.2.2.2))).trans (hHeld.2.2.2.2.2)⟩ (fun hHeld => ?_)
              clear hK K
              refine norm_ (a' := ?_) ?_ ?_
              rotate_left
              · show Act.put _ (some 78) _ = _
                refine (put_lit _ _ _ _).trans ?_; dsimp only [List.set_cons_succ, List.set_cons_zero]
                rfl
              refine one_ (i := 9) (N := some 83) #[true, true, true, true, true, true, true, true, true, true, true, false, false] rfl rfl (one_of HT_.out (by kernel_rfl)) (by decide) (fun K hK => ?_)
              refine goes_ Try.func43 (by kernel_rfl) rfl #[.slice B l.length c] (by rfl) rfl rfl (by (try simp only [List.map_toArray, List.map_cons, List.map_nil]); first | done | rfl) ?_
              with_reducible refine (swarfkit_Ints.calls B c l l _ RB.out hc FI.out).mono ?_
              rintro e wp10_4_9 ⟨vi_, rfl, ho_, hb_⟩
              obtain ⟨Ai, ci, rfl⟩ := Kd.R_slice ho_
              have RI := Aside0.mk (Kd.R_lower (base' := 0) (Kd.R_mono ho_ (fun _ _ => trivial)) (Nat.zero_le _))
              clear ho_
              have hb9_ := hb_
              replace HBd := Aside0.mk (below_step HBd.out hb_)
              replace YO := Aside0.mk (YO.out.below hb_)
              replace RB := Aside0.mk (Kd.C_below RB.out hb_)
              replace OX := Aside0.mk (OX.out.below hb_)
              replace BO := Aside0.mk (blk_below BO.out hb_)
              refine ⟨_, rfl, ?_⟩
              refine hK.out _ _ ⟨(hb9_.cell (World.block_lt_of_cell? _ _ (hHeld.1))).trans (hHeld.1), (hb9_.cell (World.block_lt_of_cell? _ _ (hHeld.2.1))).trans (hHeld.2.1), (hb9_.cell (World.block_lt_of_cell? _ _ (hHeld.2.2.1))).trans (hHeld.2.2.1), (hb9_.cell (World.block_lt_of_cell? _ _ (hHeld.2.2.2.1))).trans (hHeld.2.2.2.1), (hb9_.cell (World.block_lt_of_cell? _ _ (hHeld.2.2.2.2.1))).trans (hHeld.2.2.2.2.1), (hb9_.cell (World.block_lt_of_cell? _ _ (hHeld.2.2.2.2.2))).trans (hHeld.2.2.2.2.2)⟩ (fun hHeld => ?_)
              clear hK K
              refine norm_ (a' := ?_) ?_ ?_
              rotate_left
              · show Act.put _ (some 83) _ = _
                refine (put_lit _ _ _ _).trans ?_; dsimp only [List.set_cons_succ, List.set_cons_zero]
                rfl
              exact norm_ (by simp only [putAll, Act.put, List.setIfInBounds_toArray, List.set_cons_zero, List.set_cons_succ]) (hCont (go, Ai, ci, m0, d0, m2, d2, m4, d4) _ ⟨hHeld, BO, hgo_, HBd, RI, OX⟩)
          clear YO RB
          rintro ⟨go, Ai, ci, m0, d0, m2, d2, m4, d4⟩ wk ⟨hHeld, BO, hgo_, HBd, RI, OX⟩
          refine norm_ (a' := ?_) ?_ ?_
          rotate_left
          · simp only [putAll, Act.put, List.setIfInBounds_toArray, List.set_cons_zero, List.set_cons_succ]
            rfl
          refine last_ (i := 11) (N := none) #[true, true, true, true, true, true, true, true, true, true, true, true, false] rfl rfl (one_of HT_.out (by kernel_rfl)) (by decide) (fun K hK => ?_)
          have hz0_ := (blk_cell BO.out 0).trans rfl
          have hz1_ := (blk_cell BO.out 1).trans rfl
          have hz2_ := (blk_cell BO.out 2).trans rfl
          have hz3_ := (blk_cell BO.out 3).trans rfl
          have hz4_ := (blk_cell BO.out 4).trans rfl
          have hf0_ := blk_frozen BO.out 0
          have hf1_ := blk_frozen BO.out 1
          have hf2_ := blk_frozen BO.out 2
          have hf3_ := blk_frozen BO.out 3
          have hf4_ := blk_frozen BO.out 4
          refine skip_ (w1 := ?_) (by rfl) rfl ?_ ?_
          rotate_left
          · (go_simp; rfl)
          refine hK.out _ _ ?_
          clear hK K
          refine pure_ (i := 12) (N := some 16) (v := ?_) (a' := ?_) #[true, true, true, true, true, true, true, true, true, true, true, true, true] rfl rfl (any_of HT_.out (by kernel_rfl)) (fun _ _ _ h => h) (Or.inl ⟨by rfl, ?_⟩) ?_ ?_
          rotate_left
          · intro w'
            go_simp
            with_reducible rfl
          rotate_left
          · refine (put_lit _ _ _ _).trans ?_; dsimp only [List.set_cons_succ, List.set_cons_zero]
            rfl
          refine done_ (done_of HT_.out (by kernel_rfl)) ?_
          clear hHeld hz0_ hz1_ hz2_ hz3_ hz4_ hf0_ hf1_ hf2_ hf3_ hf4_ hc0 hc1_ hc2_ hc3_ hc4_ hl0
          have BO5 := Aside0.mk (blk_put (cs' := #[.slice m0 y.parts.length d0, .int .i64 y.swap, .slice m2 y.looks.length d2, .int .i64 y.wrong, .slice m4 y.needs.length d4]) (blk_set (blk_set (blk_set (blk_set (BO.out) 0 (.slice m0 y.parts.length d0)) 1 (.int .i64 y.swap)) 2 (.slice m2 y.looks.length d2)) 3 (.int .i64 y.wrong)) 4 (.slice m4 y.needs.length d4) rfl)
          have HB5 := Aside0.mk (show Below wd.heap.size wd (((((wk.setCell ⟨go, 0, none⟩ (.slice m0 y.parts.length d0)).setCell ⟨go, 1, none⟩ (.int .i64 y.swap)).setCell ⟨go, 2, none⟩ (.slice m2 y.looks.length d2)).setCell ⟨go, 3, none⟩ (.int .i64 y.wrong)).setCell ⟨go, 4, none⟩ (.slice m4 y.needs.length d4)) from below_set (below_set (below_set (below_set (below_set (HBd.out) hgo_) hgo_) hgo_) hgo_) hgo_)
          have OX5 := Aside0.mk (show OwnC (((((wk.setCell ⟨go, 0, none⟩ (.slice m0 y.parts.length d0)).setCell ⟨go, 1, none⟩ (.int .i64 y.swap)).setCell ⟨go, 2, none⟩ (.slice m2 y.looks.length d2)).setCell ⟨go, 3, none⟩ (.int .i64 y.wrong)).setCell ⟨go, 4, none⟩ (.slice m4 y.needs.length d4)) 0 (fun k => True ∧ k ≠ go) ⟨m0, d0, y.parts, y.swap, m2, d2, y.looks, y.wrong, m4, d4, y.needs⟩ from OwnC.far (OwnC.far (OwnC.far (OwnC.far (OwnC.far (OwnC.mk (Kd.S_types OX.out.p BO.out (by decide)) (Kd.R_types OX.out.l BO.out (by decide)) (Kd.R_types OX.out.n BO.out (by decide))) (p := ⟨go, 0, none⟩) (fun _ h => h.2) _) (p := ⟨go, 1, none⟩) (fun _ h => h.2) _) (p := ⟨go, 2, none⟩) (fun _ h => h.2) _) (p := ⟨go, 3, none⟩) (fun _ h => h.2) _) (p := ⟨go, 4, none⟩) (fun _ h => h.2) _)
          have RI5 := Aside0.mk (show Kd.R (Kd.int .i64) 3 (((((wk.setCell ⟨go, 0, none⟩ (.slice m0 y.parts.length d0)).setCell ⟨go, 1, none⟩ (.int .i64 y.swap)).setCell ⟨go, 2, none⟩ (.slice m2 y.looks.length d2)).setCell ⟨go, 3, none⟩ (.int .i64 y.wrong)).setCell ⟨go, 4, none⟩ (.slice m4 y.needs.length d4)) 0 (fun k => True ∧ k ≠ go) (.slice Ai l.length ci) l from Kd.R_far (p := ⟨go, 4, none⟩) (Kd.R_far (p := ⟨go, 3, none⟩) (Kd.R_far (p := ⟨go, 2, none⟩) (Kd.R_far (p := ⟨go, 1, none⟩) (Kd.R_far (p := ⟨go, 0, none⟩) (Kd.R_types RI.out BO.out (by decide)) (fun _ h => h.2) _) (fun _ h => h.2) _) (fun _ h => h.2) _) (fun _ h => h.2) _) (fun _ h => h.2) _)
          generalize hW5 : ((((wk.setCell ⟨go, 0, none⟩ (.slice m0 y.parts.length d0)).setCell ⟨go, 1, none⟩ (.int .i64 y.swap)).setCell ⟨go, 2, none⟩ (.slice m2 y.looks.length d2)).setCell ⟨go, 3, none⟩ (.int .i64 y.wrong)).setCell ⟨go, 4, none⟩ (.slice m4 y.needs.length d4) = w5_ at *
          clear hW5 BO HBd OX RI hgo_
          have HBr := Aside0.mk (below_step HBr0.out HB5.out)
          have YO := Aside0.mk (YO0.out.below HB5.out)
          have RB := Aside0.mk (Kd.C_below RB0.out HB5.out)
          replace CE := Aside0.mk (cells_below CE.out HB5.out)
          have hl0 := (HB5.out.cell (World.block_lt_of_cell? _ _ CL.out)).trans CL.out
          have OX := Aside0.mk OX5.out.car
          have RI := Aside0.mk (Kd.R_reads' RI5.out).2.2
          have li_ := (Kd.R_reads' RI5.out).2.1
          clear HB5 OX5 RI5 HBr0 YO0 RB0 CL
          go_upto_region 15 with (fail)
          have hc0 := cell_zero (CE.out 0 _ rfl)
          have hc1_ := CE.out 1 _ rfl
          have hc2_ := CE.out 2 _ rfl
          have hc3_ := CE.out 3 _ rfl
          have hc4_ := CE.out 4 _ rfl
          have hbn := below_drew1 (Below.refl w5_.heap.size w5_)
          replace HBr := Aside0.mk (below_step HBr.out hbn)
          replace YO := Aside0.mk (YO.out.below hbn)
          replace OX := Aside0.mk (OX.out.below hbn)
          replace RB := Aside0.mk (Kd.C_below RB.out hbn)
          replace RI := Aside0.mk (Kd.C_below RI.out hbn)
          clear hbn CE
          refine start_ (n := 31) (S := fun w' => w'.cell? ⟨go, 0, none⟩ = some (.slice m0 y.parts.length d0) ∧ w'.cell? ⟨go, 1, none⟩ = some (.int .i64 y.swap) ∧ w'.cell? ⟨go, 2, none⟩ = some (.slice m2 y.looks.length d2) ∧ w'.cell? ⟨go, 3, none⟩ = some (.int .i64 y.wrong) ∧ w'.cell? ⟨go, 4, none⟩ = some (.slice m4 y.needs.length d4) ∧ w'.cell? ⟨ga, k * 5, none⟩ = some (.slice y.A0 y.parts.length y.c0) ∧ w'.cell? ⟨ga, k * 5 + 1, none⟩ = some (.int .i64 y.swap) ∧ w'.cell? ⟨ga, k * 5 + 2, none⟩ = some (.slice y.A2 y.looks.length y.c2) ∧ w'.cell? ⟨ga, k * 5 + 3, none⟩ = some (.int .i64 y.wrong) ∧ w'.cell? ⟨ga, k * 5 + 4, none⟩ = some (.slice y.A4 y.needs.length y.c4) ∧ w'.cell? ⟨gl, k, none⟩ = some (.slice B l.length c)) (ds := [28]) #[false, false, false, false, false, false, false, false, false, false, false, false, false, false, false, false, false, false, false, false, false, false, false, false, false, false, false, false, false, false, false] (by kernel_rfl) rfl rfl ⟨(blk_cell BO5.out 0).trans rfl, (blk_cell BO5.out 1).trans rfl, (blk_cell BO5.out 2).trans rfl, (blk_cell BO5.out 3).trans rfl, (blk_cell BO5.out 4).trans rfl, hc0, hc1_, hc2_, hc3_, hc4_, hl0⟩ (fun hHeld => ?_)
          generalize w5_.drew = wd5 at HBr YO OX RB RI hHeld ⊢
          refine with_tabW crush10.tab15 crush10.bits15 (fun HT_ HW_ => ?_)
          refine pure_ (i := 1) (N := some 85) (v := ?_) (a' := ?_) #[false, true, false, false, false, false, false, false, false, false, false, false, false, false, false, false, false, false, false, false, false, false, false, false, false, false, false, false, false, false, false] rfl rfl (any_of HT_.out (by kernel_rfl)) (fun _ _ _ h => h) (Or.inl ⟨by rfl, ?_⟩) ?_ ?_
          rotate_left
          · intro w'
            go_simp
            with_reducible rfl
          rotate_left
          · refine (put_lit _ _ _ _).trans ?_; dsimp only [List.set_cons_succ, List.set_cons_zero]
            rfl
          refine pure_ (i := 3) (N := some 87) (v := ?_) (a' := ?_) #[false, true, false, true, false, false, false, false, false, false, false, false, false, false, false, false, false, false, false, false, false, false, false, false, false, false, false, false, false, false, false] rfl rfl (any_of HT_.out (by kernel_rfl)) (fun _ _ _ h => h) (Or.inl ⟨by rfl, ?_⟩) ?_ ?_
          rotate_left
          · intro w'
            go_simp
            with_reducible rfl
          rotate_left
          · refine (put_lit _ _ _ _).trans ?_; dsimp only [List.set_cons_succ, List.set_cons_zero]
            rfl
          refine pure_ (i := 4) (N := some 88) (v := ?_) (a' := ?_) #[false, true, false, true, true, false, false, false, false, false, false, false, false, false, false, false, false, false, false, false, false, false, false, false, false, false, false, false, false, false, false] rfl rfl (any_of HT_.out (by kernel_rfl)) (fun _ _ _ h => h) (Or.inl ⟨by rfl, ?_⟩) ?_ ?_
          rotate_left
          · intro w'
            go_simp
            with_reducible rfl
          rotate_left
          · refine (put_lit _ _ _ _).trans ?_; dsimp only [List.set_cons_succ, List.set_cons_zero]
            rfl
          refine pure_ (i := 5) (N := some 89) (v := ?_) (a' := ?_) #[false, true, false, true, true, true, false, false, false, false, false, false, false, false, false, false, false, false, false, false, false, false, false, false, false, false, false, false, false, false, false] rfl rfl (any_of HT_.out (by kernel_rfl)) (fun _ _ _ h => h) (Or.inl ⟨by rfl, ?_⟩) ?_ ?_
          rotate_left
          · intro w'
            go_simp
            with_reducible rfl
          rotate_left
          · refine (put_lit _ _ _ _).trans ?_; dsimp only [List.set_cons_succ, List.set_cons_zero]
            rfl
          refine pure_ (i := 7) (N := some 91) (v := ?_) (a' := ?_) #[false, true, false, true, true, true, false, true, false, false, false, false, false, false, false, false, false, false, false, false, false, false, false, false, false, false, false, false, false, false, false] rfl rfl (any_of HT_.out (by kernel_rfl)) (fun _ _ _ h => h) (Or.inl ⟨by rfl, ?_⟩) ?_ ?_
          rotate_left
          · intro w'
            go_simp
            with_reducible rfl
          rotate_left
          · refine (put_lit _ _ _ _).trans ?_; dsimp only [List.set_cons_succ, List.set_cons_zero]
            rfl
          refine pure_ (i := 8) (N := some 92) (v := ?_) (a' := ?_) #[false, true, false, true, true, true, false, true, true, false, false, false, false, false, false, false, false, false, false, false, false, false, false, false, false, false, false, false, false, false, false] rfl rfl (any_of HT_.out (by kernel_rfl)) (fun _ _ _ h => h) (Or.inl ⟨by rfl, ?_⟩) ?_ ?_
          rotate_left
          · intro w'
            go_simp
            with_reducible rfl
          rotate_left
          · refine (put_lit _ _ _ _).trans ?_; dsimp only [List.set_cons_succ, List.set_cons_zero]
            rfl
          refine pure_ (i := 9) (N := some 93) (v := ?_) (a' := ?_) #[false, true, false, true, true, true, false, true, true, true, false, false, false, false, false, false, false, false, false, false, false, false, false, false, false, false, false, false, false, false, false] rfl rfl (any_of HT_.out (by kernel_rfl)) (fun _ _ _ h => h) (Or.inl ⟨by rfl, ?_⟩) ?_ ?_
          rotate_left
          · intro w'
            go_simp
            with_reducible rfl
          rotate_left
          · refine (put_lit _ _ _ _).trans ?_; dsimp only [List.set_cons_succ, List.set_cons_zero]
            rfl
          refine take_ (i := 0) (N := some 84) (v := ?_) (a' := ?_) #[true, true, false, true, true, true, false, true, true, true, false, false, false, false, false, false, false, false, false, false, false, false, false, false, false, false, false, false, false, false, false] rfl rfl (take_ofW HT_.out HW_.out (by kernel_rfl)) (fun _ _ _ h => h) (Or.inl ⟨by rfl, ?_⟩) hHeld ?_ ?_
          rotate_left
          · rintro w' ⟨s0, s1, s2, s3, s4, s5, s6, s7, s8, s9, s10⟩
            go_simp
            with_reducible rfl
          rotate_left
          · refine (put_lit _ _ _ _).trans ?_; dsimp only [List.set_cons_succ, List.set_cons_zero]
            rfl
          refine take_ (i := 6) (N := some 90) (v := ?_) (a' := ?_) #[true, true, false, true, true, true, true, true, true, true, false, false, false, false, false, false, false, false, false, false, false, false, false, false, false, false, false, false, false, false, false] rfl rfl (take_ofW HT_.out HW_.out (by kernel_rfl)) (fun _ _ _ h => h) (Or.inl ⟨by rfl, ?_⟩) hHeld ?_ ?_
          rotate_left
          · rintro w' ⟨s0, s1, s2, s3, s4, s5, s6, s7, s8, s9, s10⟩
            go_simp
            with_reducible rfl
          rotate_left
          · refine (put_lit _ _ _ _).trans ?_; dsimp only [List.set_cons_succ, List.set_cons_zero]
            rfl
          refine take_ (i := 10) (N := some 94) (v := ?_) (a' := ?_) #[true, true, false, true, true, true, true, true, true, true, true, false, false, false, false, false, false, false, false, false, false, false, false, false, false, false, false, false, false, false, false] rfl rfl (take_ofW HT_.out HW_.out (by kernel_rfl)) (fun _ _ _ h => h) (Or.inl ⟨by rfl, ?_⟩) hHeld ?_ ?_
          rotate_left
          · rintro w' ⟨s0, s1, s2, s3, s4, s5, s6, s7, s8, s9, s10⟩
            go_simp
            with_reducible rfl
          rotate_left
          · refine (put_lit _ _ _ _).trans ?_; dsimp only [List.set_cons_succ, List.set_cons_zero]
            rfl
          refine one_ (i := 2) (N := some 86) #[true, true, true, true, true, true, true, true, true, true, true, false, false, false, false, false, false, false, false, false, false, false, false, false, false, false, false, false, false, false, false] rfl rfl (one_of HT_.out (by kernel_rfl)) (by decide) (fun K hK => ?_)
          refine goes_ Try.func44 (by kernel_rfl) rfl #[.agg #[.slice m0 y.parts.length d0, .int .i64 y.swap, .slice m2 y.looks.length d2, .int .i64 y.wrong, .slice m4 y.needs.length d4], .slice Ai l.length ci] (by rfl) rfl rfl (by (try simp only [List.map_toArray, List.map_cons, List.map_nil]); first | done | rfl) ?_
          with_reducible refine (strip_Crush.calls m0 d0 y.parts y.swap m2 d2 y.looks y.wrong m4 d4 y.needs Ai ci l e1 _ OX.out.p OX.out.pc OX.out.l OX.out.lc OX.out.n OX.out.nc RI.out li_ F1.out).mono ?_
          rintro e wf ⟨rfl, hb2_⟩
          have hbn := hb2_
          replace HBr := Aside0.mk (below_step HBr.out hbn)
          replace YO := Aside0.mk (YO.out.below hbn)
          replace OX := Aside0.mk (OX.out.below hbn)
          replace RB := Aside0.mk (Kd.C_below RB.out hbn)
          replace RI := Aside0.mk (Kd.C_below RI.out hbn)
          clear hbn
          refine ⟨_, rfl, ?_⟩
          refine hK.out _ _ ⟨(hb2_.cell (World.block_lt_of_cell? _ _ (hHeld.1))).trans (hHeld.1), (hb2_.cell (World.block_lt_of_cell? _ _ (hHeld.2.1))).trans (hHeld.2.1), (hb2_.cell (World.block_lt_of_cell? _ _ (hHeld.2.2.1))).trans (hHeld.2.2.1), (hb2_.cell (World.block_lt_of_cell? _ _ (hHeld.2.2.2.1))).trans (hHeld.2.2.2.1), (hb2_.cell (World.block_lt_of_cell? _ _ (hHeld.2.2.2.2.1))).trans (hHeld.2.2.2.2.1), (hb2_.cell (World.block_lt_of_cell? _ _ (hHeld.2.2.2.2.2.1))).trans (hHeld.2.2.2.2.2.1), (hb2_.cell (World.block_lt_of_cell? _ _ (hHeld.2.2.2.2.2.2.1))).trans (hHeld.2.2.2.2.2.2.1), (hb2_.cell (World.block_lt_of_cell? _ _ (hHeld.2.2.2.2.2.2.2.1))).trans (hHeld.2.2.2.2.2.2.2.1), (hb2_.cell (World.block_lt_of_cell? _ _ (hHeld.2.2.2.2.2.2.2.2.1))).trans (hHeld.2.2.2.2.2.2.2.2.1), (hb2_.cell (World.block_lt_of_cell? _ _ (hHeld.2.2.2.2.2.2.2.2.2.1))).trans (hHeld.2.2.2.2.2.2.2.2.2.1), (hb2_.cell (World.block_lt_of_cell? _ _ (hHeld.2.2.2.2.2.2.2.2.2.2))).trans (hHeld.2.2.2.2.2.2.2.2.2.2)⟩ (fun hHeld => ?_)
          clear hK K
          refine norm_ (a' := ?_) ?_ ?_
          rotate_left
          · show Act.put _ (some 86) _ = _
            refine (put_lit _ _ _ _).trans ?_; dsimp only [List.set_cons_succ, List.set_cons_zero]
            rfl
          refine one_ (i := 11) (N := some 95) #[true, true, true, true, true, true, true, true, true, true, true, true, false, false, false, false, false, false, false, false, false, false, false, false, false, false, false, false, false, false, false] rfl rfl (one_of HT_.out (by kernel_rfl)) (by decide) (fun K hK => ?_)
          refine goes_ Try.func45 (by kernel_rfl) rfl #[.agg #[.slice y.A0 y.parts.length y.c0, .int .i64 y.swap, .slice y.A2 y.looks.length y.c2, .int .i64 y.wrong, .slice y.A4 y.needs.length y.c4], .slice B l.length c] (by rfl) rfl rfl (by (try simp only [List.map_toArray, List.map_cons, List.map_nil]); first | done | rfl) ?_
          with_reducible refine (swarfref04_Crush.calls k1 y.A0 y.c0 y.parts y.swap y.A2 y.c2 y.looks y.wrong y.A4 y.c4 y.needs B c l e1 _ YO.out.p YO.out.pc YO.out.l YO.out.lc YO.out.n YO.out.nc RB.out hc R1.out).mono ?_
          rintro e wg ⟨rfl, hb11_⟩
          have hbn := hb11_
          replace HBr := Aside0.mk (below_step HBr.out hbn)
          replace YO := Aside0.mk (YO.out.below hbn)
          replace OX := Aside0.mk (OX.out.below hbn)
          replace RB := Aside0.mk (Kd.C_below RB.out hbn)
          replace RI := Aside0.mk (Kd.C_below RI.out hbn)
          clear hbn
          refine ⟨_, rfl, ?_⟩
          refine hK.out _ _ ⟨(hb11_.cell (World.block_lt_of_cell? _ _ (hHeld.1))).trans (hHeld.1), (hb11_.cell (World.block_lt_of_cell? _ _ (hHeld.2.1))).trans (hHeld.2.1), (hb11_.cell (World.block_lt_of_cell? _ _ (hHeld.2.2.1))).trans (hHeld.2.2.1), (hb11_.cell (World.block_lt_of_cell? _ _ (hHeld.2.2.2.1))).trans (hHeld.2.2.2.1), (hb11_.cell (World.block_lt_of_cell? _ _ (hHeld.2.2.2.2.1))).trans (hHeld.2.2.2.2.1), (hb11_.cell (World.block_lt_of_cell? _ _ (hHeld.2.2.2.2.2.1))).trans (hHeld.2.2.2.2.2.1), (hb11_.cell (World.block_lt_of_cell? _ _ (hHeld.2.2.2.2.2.2.1))).trans (hHeld.2.2.2.2.2.2.1), (hb11_.cell (World.block_lt_of_cell? _ _ (hHeld.2.2.2.2.2.2.2.1))).trans (hHeld.2.2.2.2.2.2.2.1), (hb11_.cell (World.block_lt_of_cell? _ _ (hHeld.2.2.2.2.2.2.2.2.1))).trans (hHeld.2.2.2.2.2.2.2.2.1), (hb11_.cell (World.block_lt_of_cell? _ _ (hHeld.2.2.2.2.2.2.2.2.2.1))).trans (hHeld.2.2.2.2.2.2.2.2.2.1), (hb11_.cell (World.block_lt_of_cell? _ _ (hHeld.2.2.2.2.2.2.2.2.2.2))).trans (hHeld.2.2.2.2.2.2.2.2.2.2)⟩ (fun hHeld => ?_)
          clear hK K
          refine norm_ (a' := ?_) ?_ ?_
          rotate_left
          · show Act.put _ (some 95) _ = _
            refine (put_lit _ _ _ _).trans ?_; dsimp only [List.set_cons_succ, List.set_cons_zero]
            rfl
          refine pure_ (i := 12) (N := some 96) (v := ?_) (a' := ?_) #[true, true, true, true, true, true, true, true, true, true, true, true, true, false, false, false, false, false, false, false, false, false, false, false, false, false, false, false, false, false, false] rfl rfl (any_of HT_.out (by kernel_rfl)) (fun _ _ _ h => h) (Or.inl ⟨by rfl, ?_⟩) ?_ ?_
          rotate_left
          · intro w'
            go_simp
            with_reducible rfl
          rotate_left
          · refine (put_lit _ _ _ _).trans ?_; dsimp only [List.set_cons_succ, List.set_cons_zero]
            rfl
          refine pure_ (i := 13) (N := some 97) (v := ?_) (a' := ?_) #[true, true, true, true, true, true, true, true, true, true, true, true, true, true, false, false, false, false, false, false, false, false, false, false, false, false, false, false, false, false, false] rfl rfl (any_of HT_.out (by kernel_rfl)) (fun _ _ _ h => h) (Or.inl ⟨by rfl, ?_⟩) ?_ ?_
          rotate_left
          · intro w'
            go_simp
            with_reducible rfl
          rotate_left
          · refine (put_lit _ _ _ _).trans ?_; dsimp only [List.set_cons_succ, List.set_cons_zero]
            rfl
          refine pure_ (i := 15) (N := some 99) (v := ?_) (a' := ?_) #[true, true, true, true, true, true, true, true, true, true, true, true, true, true, false, true, false, false, false, false, false, false, false, false, false, false, false, false, false, false, false] rfl rfl (any_of HT_.out (by kernel_rfl)) (fun _ _ _ h => h) (Or.inl ⟨by rfl, ?_⟩) ?_ ?_
          rotate_left
          · intro w'
            go_simp
            with_reducible rfl
          rotate_left
          · refine (put_lit _ _ _ _).trans ?_; dsimp only [List.set_cons_succ, List.set_cons_zero]
            rfl
          refine pure_ (i := 16) (N := some 100) (v := ?_) (a' := ?_) #[true, true, true, true, true, true, true, true, true, true, true, true, true, true, false, true, true, false, false, false, false, false, false, false, false, false, false, false, false, false, false] rfl rfl (any_of HT_.out (by kernel_rfl)) (fun _ _ _ h => h) (Or.inl ⟨by rfl, ?_⟩) ?_ ?_
          rotate_left
          · intro w'
            go_simp
            with_reducible rfl
          rotate_left
          · refine (put_lit _ _ _ _).trans ?_; dsimp only [List.set_cons_succ, List.set_cons_zero]
            rfl
          refine pure_ (i := 17) (N := some 101) (v := ?_) (a' := ?_) #[true, true, true, true, true, true, true, true, true, true, true, true, true, true, false, true, true, true, false, false, false, false, false, false, false, false, false, false, false, false, false] rfl rfl (any_of HT_.out (by kernel_rfl)) (fun _ _ _ h => h) (Or.inl ⟨by rfl, ?_⟩) ?_ ?_
          rotate_left
          · intro w'
            go_simp
            with_reducible rfl
          rotate_left
          · refine (put_lit _ _ _ _).trans ?_; dsimp only [List.set_cons_succ, List.set_cons_zero]
            rfl
          refine take_ (i := 14) (N := some 98) (v := ?_) (a' := ?_) #[true, true, true, true, true, true, true, true, true, true, true, true, true, true, true, true, true, true, false, false, false, false, false, false, false, false, false, false, false, false, false] rfl rfl (take_ofW HT_.out HW_.out (by kernel_rfl)) (fun _ _ _ h => h) (Or.inl ⟨by rfl, ?_⟩) hHeld ?_ ?_
          rotate_left
          · rintro w' ⟨s0, s1, s2, s3, s4, s5, s6, s7, s8, s9, s10⟩
            go_simp
            with_reducible rfl
          rotate_left
          · refine (put_lit _ _ _ _).trans ?_; dsimp only [List.set_cons_succ, List.set_cons_zero]
            rfl
          refine take_ (i := 18) (N := some 102) (v := ?_) (a' := ?_) #[true, true, true, true, true, true, true, true, true, true, true, true, true, true, true, true, true, true, true, false, false, false, false, false, false, false, false, false, false, false, false] rfl rfl (take_ofW HT_.out HW_.out (by kernel_rfl)) (fun _ _ _ h => h) (Or.inl ⟨by rfl, ?_⟩) hHeld ?_ ?_
          rotate_left
          · rintro w' ⟨s0, s1, s2, s3, s4, s5, s6, s7, s8, s9, s10⟩
            go_simp
            with_reducible rfl
          rotate_left
          · refine (put_lit _ _ _ _).trans ?_; dsimp only [List.set_cons_succ, List.set_cons_zero]
            rfl
          refine one_ (i := 19) (N := some 103) #[true, true, true, true, true, true, true, true, true, true, true, true, true, true, true, true, true, true, true, true, false, false, false, false, false, false, false, false, false, false, false] rfl rfl (one_of HT_.out (by kernel_rfl)) (by decide) (fun K hK => ?_)
          refine goes_ Try.func23 (by kernel_rfl) rfl #[.agg #[.slice m0 y.parts.length d0, .int .i64 y.swap, .slice m2 y.looks.length d2, .int .i64 y.wrong, .slice m4 y.needs.length d4], .agg #[.slice y.A0 y.parts.length y.c0, .int .i64 y.swap, .slice y.A2 y.looks.length y.c2, .int .i64 y.wrong, .slice y.A4 y.needs.length y.c4]] (by rfl) rfl rfl (by (try simp only [List.map_toArray, List.map_cons, List.map_nil]); first | done | rfl) ?_
          with_reducible refine (equalCars_same m0 d0 y.parts y.swap m2 d2 y.looks y.wrong m4 d4 y.needs y.A0 y.c0 y.A2 y.c2 y.A4 y.c4 _ OX.out.p OX.out.pc OX.out.l OX.out.lc OX.out.n OX.out.nc YO.out.p YO.out.pc YO.out.l YO.out.lc YO.out.n YO.out.nc FS.out.p FS.out.l FS.out.n FS.out.b).mono ?_
          rintro e wh ⟨rfl, hb19_⟩
          have hbn := hb19_
          replace HBr := Aside0.mk (below_step HBr.out hbn)
          replace YO := Aside0.mk (YO.out.below hbn)
          replace OX := Aside0.mk (OX.out.below hbn)
          replace RB := Aside0.mk (Kd.C_below RB.out hbn)
          replace RI := Aside0.mk (Kd.C_below RI.out hbn)
          clear hbn
          refine ⟨_, rfl, ?_⟩
          refine hK.out _ _ ⟨(hb19_.cell (World.block_lt_of_cell? _ _ (hHeld.1))).trans (hHeld.1), (hb19_.cell (World.block_lt_of_cell? _ _ (hHeld.2.1))).trans (hHeld.2.1), (hb19_.cell (World.block_lt_of_cell? _ _ (hHeld.2.2.1))).trans (hHeld.2.2.1), (hb19_.cell (World.block_lt_of_cell? _ _ (hHeld.2.2.2.1))).trans (hHeld.2.2.2.1), (hb19_.cell (World.block_lt_of_cell? _ _ (hHeld.2.2.2.2.1))).trans (hHeld.2.2.2.2.1), (hb19_.cell (World.block_lt_of_cell? _ _ (hHeld.2.2.2.2.2.1))).trans (hHeld.2.2.2.2.2.1), (hb19_.cell (World.block_lt_of_cell? _ _ (hHeld.2.2.2.2.2.2.1))).trans (hHeld.2.2.2.2.2.2.1), (hb19_.cell (World.block_lt_of_cell? _ _ (hHeld.2.2.2.2.2.2.2.1))).trans (hHeld.2.2.2.2.2.2.2.1), (hb19_.cell (World.block_lt_of_cell? _ _ (hHeld.2.2.2.2.2.2.2.2.1))).trans (hHeld.2.2.2.2.2.2.2.2.1), (hb19_.cell (World.block_lt_of_cell? _ _ (hHeld.2.2.2.2.2.2.2.2.2.1))).trans (hHeld.2.2.2.2.2.2.2.2.2.1), (hb19_.cell (World.block_lt_of_cell? _ _ (hHeld.2.2.2.2.2.2.2.2.2.2))).trans (hHeld.2.2.2.2.2.2.2.2.2.2)⟩ (fun hHeld => ?_)
          clear hK K
          refine norm_ (a' := ?_) ?_ ?_
          rotate_left
          · show Act.put _ (some 103) _ = _
            refine (put_lit _ _ _ _).trans ?_; dsimp only [List.set_cons_succ, List.set_cons_zero]
            rfl
          refine pure_ (i := 20) (N := some 104) (v := ?_) (a' := ?_) #[true, true, true, true, true, true, true, true, true, true, true, true, true, true, true, true, true, true, true, true, true, false, false, false, false, false, false, false, false, false, false] rfl rfl (any_of HT_.out (by kernel_rfl)) (fun _ _ _ h => h) (Or.inl ⟨by rfl, ?_⟩) ?_ ?_
          rotate_left
          · intro w'
            go_simp
            with_reducible rfl
          rotate_left
          · refine (put_lit _ _ _ _).trans ?_; dsimp only [List.set_cons_succ, List.set_cons_zero]
            rfl
          refine pure_ (i := 21) (N := some 105) (v := ?_) (a' := ?_) #[true, true, true, true, true, true, true, true, true, true, true, true, true, true, true, true, true, true, true, true, true, true, false, false, false, false, false, false, false, false, false] rfl rfl (any_of HT_.out (by kernel_rfl)) (fun _ _ _ h => h) (Or.inl ⟨by rfl, ?_⟩) ?_ ?_
          rotate_left
          · intro w'
            go_simp
            with_reducible rfl
          rotate_left
          · refine (put_lit _ _ _ _).trans ?_; dsimp only [List.set_cons_succ, List.set_cons_zero]
            rfl
          refine pure_ (i := 22) (N := some 106) (v := ?_) (a' := ?_) #[true, true, true, true, true, true, true, true, true, true, true, true, true, true, true, true, true, true, true, true, true, true, true, false, false, false, false, false, false, false, false] rfl rfl (any_of HT_.out (by kernel_rfl)) (fun _ _ _ h => h) (Or.inl ⟨by rfl, ?_⟩) ?_ ?_
          rotate_left
          · intro w'
            go_simp
            with_reducible rfl
          rotate_left
          · refine (put_lit _ _ _ _).trans ?_; dsimp only [List.set_cons_succ, List.set_cons_zero]
            rfl
          refine pure_ (i := 23) (N := some 107) (v := ?_) (a' := ?_) #[true, true, true, true, true, true, true, true, true, true, true, true, true, true, true, true, true, true, true, true, true, true, true, true, false, false, false, false, false, false, false] rfl rfl (any_of HT_.out (by kernel_rfl)) (fun _ _ _ h => h) (Or.inl ⟨by rfl, ?_⟩) ?_ ?_
          rotate_left
          · intro w'
            go_simp
            with_reducible rfl
          rotate_left
          · refine (put_lit _ _ _ _).trans ?_; dsimp only [List.set_cons_succ, List.set_cons_zero]
            rfl
          refine pure_ (i := 24) (N := some 108) (v := ?_) (a' := ?_) #[true, true, true, true, true, true, true, true, true, true, true, true, true, true, true, true, true, true, true, true, true, true, true, true, true, false, false, false, false, false, false] rfl rfl (any_of HT_.out (by kernel_rfl)) (fun _ _ _ h => h) (Or.inl ⟨by rfl, ?_⟩) ?_ ?_
          rotate_left
          · intro w'
            go_simp
            with_reducible rfl
          rotate_left
          · refine (put_lit _ _ _ _).trans ?_; dsimp only [List.set_cons_succ, List.set_cons_zero]
            rfl
          refine pure_ (i := 25) (N := some 109) (v := ?_) (a' := ?_) #[true, true, true, true, true, true, true, true, true, true, true, true, true, true, true, true, true, true, true, true, true, true, true, true, true, true, false, false, false, false, false] rfl rfl (any_of HT_.out (by kernel_rfl)) (fun _ _ _ h => h) (Or.inl ⟨by rfl, ?_⟩) ?_ ?_
          rotate_left
          · intro w'
            go_simp
            with_reducible rfl
          rotate_left
          · refine (put_lit _ _ _ _).trans ?_; dsimp only [List.set_cons_succ, List.set_cons_zero]
            rfl
          refine pure_ (i := 26) (N := some 110) (v := ?_) (a' := ?_) #[true, true, true, true, true, true, true, true, true, true, true, true, true, true, true, true, true, true, true, true, true, true, true, true, true, true, true, false, false, false, false] rfl rfl (any_of HT_.out (by kernel_rfl)) (fun _ _ _ h => h) (Or.inl ⟨by rfl, ?_⟩) ?_ ?_
          rotate_left
          · intro w'
            go_simp
            with_reducible rfl
          rotate_left
          · refine (put_lit _ _ _ _).trans ?_; dsimp only [List.set_cons_succ, List.set_cons_zero]
            rfl
          refine take_ (i := 27) (N := some 111) (v := ?_) (a' := ?_) #[true, true, true, true, true, true, true, true, true, true, true, true, true, true, true, true, true, true, true, true, true, true, true, true, true, true, true, true, false, false, false] rfl rfl (take_ofW HT_.out HW_.out (by kernel_rfl)) (fun _ _ _ h => h) (Or.inl ⟨by rfl, ?_⟩) hHeld ?_ ?_
          rotate_left
          · rintro w' ⟨s0, s1, s2, s3, s4, s5, s6, s7, s8, s9, s10⟩
            go_simp
            with_reducible rfl
          rotate_left
          · refine (put_lit _ _ _ _).trans ?_; dsimp only [List.set_cons_succ, List.set_cons_zero]
            rfl
          refine last_ (i := 28) (N := some 112) #[true, true, true, true, true, true, true, true, true, true, true, true, true, true, true, true, true, true, true, true, true, true, true, true, true, true, true, true, true, false, false] rfl rfl (one_of HT_.out (by kernel_rfl)) (by decide) (fun K hK => ?_)
          refine goes_ Try.func22 (by kernel_rfl) rfl #[.slice Ai l.length ci, .slice B l.length c] (by rfl) rfl rfl (by (try simp only [List.map_toArray, List.map_cons, List.map_nil]); first | done | rfl) ?_
          with_reducible refine (swarfkit_EqualInts.calls ke Ai ci l B c l true _ RI.out li_ RB.out hc FE.out).mono ?_
          rintro e w_ ⟨rfl, ⟨m12, rfl⟩⟩
          have HB14 := Aside0.mk (below_step HBr.out (pw_below_drewN (Below.refl wh.heap.size wh) m12))
          refine ⟨_, rfl, ?_⟩
          refine hK.out _ _ ?_
          clear hK K
          refine norm_ (a' := ?_) ?_ ?_
          rotate_left
          · show Act.put _ (some 112) _ = _
            refine (put_lit _ _ _ _).trans ?_; dsimp only [List.set_cons_succ, List.set_cons_zero]
            rfl
          refine pure_ (i := 29) (N := some 113) (v := ?_) (a' := ?_) #[true, true, true, true, true, true, true, true, true, true, true, true, true, true, true, true, true, true, true, true, true, true, true, true, true, true, true, true, true, true, false] rfl rfl (any_of HT_.out (by kernel_rfl)) (fun _ _ _ h => h) (Or.inl ⟨by rfl, ?_⟩) ?_ ?_
          rotate_left
          · intro w'
            go_simp
            with_reducible rfl
          rotate_left
          · refine (put_lit _ _ _ _).trans ?_; dsimp only [List.set_cons_succ, List.set_cons_zero]
            rfl
          refine pure_ (i := 30) (N := some 114) (v := ?_) (a' := ?_) #[true, true, true, true, true, true, true, true, true, true, true, true, true, true, true, true, true, true, true, true, true, true, true, true, true, true, true, true, true, true, true] rfl rfl (any_of HT_.out (by kernel_rfl)) (fun _ _ _ h => h) (Or.inl ⟨by rfl, ?_⟩) ?_ ?_
          rotate_left
          · intro w'
            go_simp
            with_reducible rfl
          rotate_left
          · refine (put_lit _ _ _ _).trans ?_; dsimp only [List.set_cons_succ, List.set_cons_zero]
            rfl
          refine done_ (done_of HT_.out (by kernel_rfl)) ?_
          clear hc0 hc1_ hc2_ hc3_ hc4_ hl0 BO5 OX YO RB RI HBr
          go_wp2
          go_roundg (4 - (k + 1))
          case measure => omega
          case rel => exact ⟨k + 1, by omega, by omega, by go_num, HB14⟩
        · have : k = 4 := by omega
          subst this
          clear HE
          go_wp2_with (fail)
          refine (swarflaw04_awake.calls ka true _ HA.out).mono ?_
          rintro e w8 ⟨rfl, hb8⟩
          have HBe := Aside0.mk (HBj.out.trans ((below_step HBr.out hb8).mono HBj.out.size))
          clear hb8
          go_wp2
          go_ret
          exact ⟨rfl, HBe.out⟩
set_option maxHeartbeats 8000000 in
set_option maxRecDepth 100000 in
theorem crush_awake (x : CarV) (A1 : Option Addr) (c1 : Nat) (l1 : List Int) (A2 : Option Addr) (c2 : Nat) (l2 : List Int) (w : World) (hx : x.Ok w) {b : Bool}
    (hu : ∃ k, swarflaw04_huge.f k x.parts x.swap x.looks x.wrong x.needs = some b) (h6 : b = true ∨ (b = false ∧ 20 < l1.length)) {ka : Nat} (ha : swarflaw04_awake.f ka = some true) :
    Calls Try.prog 10 #[.agg #[.slice x.A0 x.parts.length x.c0, .int .i64 x.swap, .slice x.A2 x.looks.length x.c2, .int .i64 x.wrong, .slice x.A4 x.needs.length x.c4], .slice A1 l1.length c1, .slice A2 l2.length c2] w fun e w' => e = .returned (.bool true) ∧ Below w.heap.size w w' := by
  have hu26 := Try.underlying26
  obtain ⟨ku, hu⟩ := hu
  have HX := Aside0.mk hx
  have HU := Aside0.mk hu
  have HA := Aside0.mk ha
  have HH6 := Aside0.mk h6
  clear hx hu ha h6
  go_enter Try.func10, Try.ntmps10
  go_wp2_with (first
    | ((with_reducible refine gate_dst (N := 3) rfl ?_); refine box_event ?hg (N := 3) ?hd (cs := #[.slice x.A0 x.parts.length x.c0, .int .i64 x.swap, .slice x.A2 x.looks.length x.c2, .int .i64 x.wrong, .slice x.A4 x.needs.length x.c4]) (t := 26) ?hr ?_; (case hd => rfl); (case hg => rfl); (case hr => first | (go_simp; done) | (go_simp; rfl)); intro gb hg w2 hbox hb2; have BK2 := Aside0.mk hbox; have HB2 := Aside0.mk hb2; clear hg hbox hb2; have hz0_ := (blk_cell BK2.out 0).trans rfl; have hz1_ := (blk_cell BK2.out 1).trans rfl; have hz2_ := (blk_cell BK2.out 2).trans rfl; have hz3_ := (blk_cell BK2.out 3).trans rfl; have hz4_ := (blk_cell BK2.out 4).trans rfl))
  refine (swarflaw04_huge.calls ku x.A0 x.c0 x.parts x.swap x.A2 x.c2 x.looks x.wrong x.A4 x.c4 x.needs b w2 (HX.out.below HB2.out).p HX.out.pc (HX.out.below HB2.out).l HX.out.lc (HX.out.below HB2.out).n HX.out.nc HU.out).mono ?_
  rintro e w3 ⟨rfl, hb3⟩
  have HB3 := Aside0.mk (below_step HB2.out hb3)
  clear hz0_ hz1_ hz2_ hz3_ hz4_ hb3 HB2 BK2
  rcases HH6.out with rfl | ⟨rfl, h7⟩
  · clear HH6
    go_wp2_with (fail)
    refine (swarflaw04_awake.calls ka true _ HA.out).mono ?_
    rintro e w8 ⟨rfl, hb8⟩
    have HBe := Aside0.mk (below_step HB3.out hb8)
    clear hb8
    go_wp2
    go_ret
    exact ⟨rfl, HBe.out⟩
  · have h6b : decide ((20 : Int) < (l1.length : Int)) = true := decide_eq_true (by omega)
    clear HH6 h7
    go_wp2_with (fail)
    refine (swarflaw04_awake.calls ka true _ HA.out).mono ?_
    rintro e w8 ⟨rfl, hb8⟩
    have HBe := Aside0.mk (below_step HB3.out hb8)
    clear hb8
    go_wp2
    go_ret
    exact ⟨rfl, HBe.out⟩
theorem badGo_bit (l : List S50) : ∀ i s k, (badGo i s l).testBit k = (s.testBit k || (decide (i ≤ k) && (l.getD (k - i) z50).f1)) := by
  induction l with
  | nil => intro i s k; simp [badGo, z50]
  | cons p l ih =>
    intro i s k
    rw [badGo, ih]
    by_cases h1 : i + 1 ≤ k
    · have h2 : i ≤ k := by omega
      have h3 : k - i = (k - (i + 1)) + 1 := by omega
      have hne : ¬ i = k := by omega
      rw [h3, List.getD_cons_succ]
      simp only [h1, h2, decide_true, Bool.true_and]
      cases hp : p.f1 with
      | false => simp
      | true => simp [Nat.testBit_or, Nat.testBit_two_pow, hne]
    · by_cases h2 : i = k
      · subst h2
        simp only [h1, decide_false, Bool.false_and, Bool.or_false, Nat.le_refl, decide_true, Bool.true_and, Nat.sub_self, List.getD_cons_zero]
        cases hp : p.f1 with
        | false => simp
        | true => simp [Nat.testBit_or, Nat.testBit_two_pow]
      · have h3 : ¬ i ≤ k := by omega
        simp only [h1, h3, decide_false, Bool.false_and, Bool.or_false]
        cases hp : p.f1 with
        | false => simp
        | true => simp [Nat.testBit_or, Nat.testBit_two_pow, h2]
theorem badMask_bit (parts : List S50) (k : Nat) : (badMask parts).testBit k = (parts.getD k z50).f1 := by
  unfold badMask
  rw [badGo_bit]
  simp
theorem bad_lt (parts : List S50) (h : parts.length ≤ 16) : badMask parts < 65536 := badGo_lt parts 0 0 (by omega) (by decide)
structure TruthSet (parts : List S50) (T : List Nat) : Prop where
  ne : T ≠ []
  few : parts.length ≤ 9
  pok : ∀ i, i < parts.length → PartOK i (parts.getD i z50)
  lt : ∀ s, s ∈ T → s < 65536
  ok : ∀ s, s ∈ T → ∀ i, i < parts.length → s.testBit i = true → ∀ x, x ∈ (parts.getD i z50).f0 → s.testBit x.toNat = true
def partV (T : List Nat) (i : Nat) : Int := verdictS (setsI T) (rawHas (i : Int))
def carV (parts : List S50) (T : List Nat) : Int := verdictS (setsI T) (rawAll (badMask parts : Nat))
theorem sub_bad {parts : List S50} (s : Nat) : subM (badMask parts) s = true ↔ ∀ i, i < parts.length → (parts.getD i z50).f1 = true → s.testBit i = true := by
  rw [subM_iff]
  constructor
  · intro h i _ hb
    exact h i (by rw [badMask_bit]; exact hb)
  · intro h i hb
    rw [badMask_bit] at hb
    refine h i ?_ hb
    rcases Nat.lt_or_ge i parts.length with h1 | h1
    · exact h1
    · rw [List.getD, List.getElem?_eq_none h1] at hb
      cases hb
theorem truthSet {parts : List S50} {looks : List S61} {wrong : Int} (h9 : parts.length ≤ 9) (hp : ∀ i, i < parts.length → PartOK i (parts.getD i z50)) (hne : truthsL parts looks wrong ≠ []) : TruthSet parts (truthsL parts looks wrong) :=
  ⟨hne, h9, hp, fun s hs => by have h1 := ((mem_truths s).1 hs).1; have h2 := pow_le_512 h9; omega, fun s hs => (okM_iff hp s).1 ((mem_truths s).1 hs).2.1⟩
theorem CarGood.set {a1 a2 : Int} {parts : List S50} {swap : Int} {looks : List S61} {wrong : Int} {needs : List Int} {st : List Bool} (h : CarGood a1 a2 parts swap looks wrong needs st) (h9 : a1 ≤ 9) : TruthSet parts (truthsL parts looks wrong) :=
  truthSet (by have := h.few; omega) h.p.ok (fun e => by have := h.truth; rw [e] at this; cases this)
theorem CarGood.out {a1 a2 : Int} {parts : List S50} {swap : Int} {looks : List S61} {wrong : Int} {needs : List Int} {st : List Bool} (h : CarGood a1 a2 parts swap looks wrong needs st) (h9 : a1 ≤ 9) (h12 : a2 ≤ 12) :
    strip_Out.f parts swap looks wrong needs = some (outL parts.length (truthsL parts looks wrong), 0) := by
  unfold strip_Out.f outE
  rw [if_pos (h.fits h9 h12), if_pos (h.check h9 h12), if_neg (h.set h9).ne]
end Go.Proofs.Ytkkmfcdikkiodaa.PC4
namespace Go.Proofs.Ytkkmfcdikkiodaa.PC4
set_option linter.unusedVariables false
open Go.RowKit Go.Proofs.YtkkmfcdikkiodaaW.PrintWords Go.Proofs.YtkkmfcdikkiodaaW.PrintLast Go.Proofs.YtkkmfcdikkiodaaW.PrintMore
theorem Ev.succ {α : Type} {g : Nat → Option α} {r : α} (h : Ev (fun k => g (k + 1)) r) : Ev g r := Ev.step (fun _ => rfl) h
theorem Res.succ {α : Type} {g : Nat → Option α} {P : α → Prop} (h : Res (fun k => g (k + 1)) P) : Res g P := Res.step (fun _ => rfl) h
theorem Res.of {α : Type} {g : Nat → Option α} {P : α → Prop} {r : α} (h : Ev g r) (hp : P r) : Res g P := ⟨r, h, hp⟩
theorem Res.now {α : Type} {P : α → Prop} {r : α} (hp : P r) : Res (fun _ => some r) P := ⟨r, Ev.now r, hp⟩
theorem Res.mono {α : Type} {g : Nat → Option α} {P Q : α → Prop} (h : Res g P) (k : ∀ r, P r → Q r) : Res g Q := by
  obtain ⟨r, h1, h2⟩ := h
  exact ⟨r, h1, k r h2⟩
theorem Ev.take {α β : Type} {o : Option α} {a : α} {f : Nat → α → Option β} {r : β} (h : o = some a) (k : Ev (fun n => f n a) r) : Ev (fun n => o.bind (f n)) r := by subst h; exact k
theorem Res.take {α β : Type} {o : Option α} {a : α} {f : Nat → α → Option β} {P : β → Prop} (h : o = some a) (k : Res (fun n => f n a) P) : Res (fun n => o.bind (f n)) P := by subst h; exact k
theorem wrapS {i : Nat} (h : i < 4611686018427387904) : wrap64 ((i : Int) + 1) = ((i + 1 : Nat) : Int) := by rw [wrap64_id (by omega) (by omega)]; omega
theorem wrapP {i : Nat} (h0 : 0 < i) (h : i < 4611686018427387904) : wrap64 ((i : Int) - 1) = ((i - 1 : Nat) : Int) := by rw [wrap64_id (by omega) (by omega)]; omega
theorem rd50 (l : List S50) (k : Nat) : rd_T50 l (k : Int) = l.getD k z50 := by simp [rd_T50]
theorem rd61 (l : List S61) (k : Nat) : rd_T61 l (k : Int) = l.getD k z61 := by simp [rd_T61]
theorem rdB (l : List Bool) (k : Nat) : rdOf false l (k : Int) = l.getD k false := by simp [rdOf]
theorem getD_mem {α : Type} (l : List α) (k : Nat) (d : α) (h : k < l.length) : l.getD k d ∈ l := by
  rw [List.getD, List.getElem?_eq_getElem h]; exact List.getElem_mem h
theorem getD_get {α : Type} (l : List α) (k : Nat) (d : α) (h : k < l.length) : l.getD k d = l[k] := by
  rw [List.getD, List.getElem?_eq_getElem h]; rfl
theorem isClean_l0 (parts : List S50) (swap : Int) (looks : List S61) (wrong : Int) (needs : List Int) (st : List Bool) (hl : st.length = parts.length) (h9 : parts.length ≤ 1000) (d : Nat) :
    ∀ i : Nat, i + d = parts.length → Ev (fun K => swarfref04_IsClean.l0 K st (i : Int) parts swap looks wrong needs) ((List.range' i d).all fun j => !(parts.getD j z50).f1 || st.getD j false) := by
  induction d with
  | zero =>
    intro i hi
    refine Ev.succ ?_
    simp (disch := omega) only [swarfref04_IsClean.l0, if_neg]
    exact Ev.now _
  | succ d ih =>
    intro i hi
    have ihk := ih (i + 1) (by omega)
    refine Ev.succ ?_
    simp (disch := omega) only [swarfref04_IsClean.l0, if_pos, wrapS, rd50, rdB]
    rw [List.range'_succ, List.all_cons]
    cases (parts.getD i z50).f1 with
    | false => simpa using ihk
    | true =>
      cases st.getD i false with
      | true => simpa using ihk
      | false => simpa using Ev.now false
theorem isClean_ev (parts : List S50) (swap : Int) (looks : List S61) (wrong : Int) (needs : List Int) (st : List Bool) (hl : st.length = parts.length) (h9 : parts.length ≤ 1000) :
    Ev (fun K => swarfref04_IsClean.f K parts swap looks wrong needs st) (subM (badMask parts) (stM st)) := by
  have h := isClean_l0 parts swap looks wrong needs st hl h9 parts.length 0 (by omega)
  have e : ((List.range' 0 parts.length).all fun j => !(parts.getD j z50).f1 || st.getD j false) = subM (badMask parts) (stM st) := by
    rw [Bool.eq_iff_iff, List.all_eq_true, sub_bad]
    constructor
    · intro h i hi hb
      have := h i (List.mem_range'_1.2 ⟨by omega, by omega⟩)
      rw [hb] at this
      rw [stM_bit]
      simpa using this
    · intro h i hi
      have hi2 := (List.mem_range'_1.1 hi).2
      cases hb : (parts.getD i z50).f1 with
      | false => rfl
      | true =>
        have := h i (by omega) hb
        rw [stM_bit] at this
        rw [this]; rfl
  rw [e] at h
  exact h
theorem ints_f (l : List Int) (h : l.length < 17592186044416) : swarfkit_Ints.f l = some l := by
  unfold swarfkit_Ints.f
  simp (disch := omega) only [Option.bind_some, List.length_nil, List.nil_append, if_pos]
theorem copyCar_l0 (parts : List S50) (swap : Int) (looks : List S61) (wrong : Int) (needs : List Int) (s2 : Int) (l2 : List S61) (w2 : Int) (n2 : List Int) (hl : parts.length ≤ 100000) (hb : ∀ p, p ∈ parts → p.f0.length ≤ 100000) (d : Nat) :
    ∀ (i : Nat), i + d = parts.length → Ev (fun K => swarfkit_CopyCar.l0 K (i : Int) parts swap looks wrong needs (parts.take i) s2 l2 w2 n2) (parts, s2, l2, w2, n2) := by
  induction d with
  | zero =>
    intro i hi
    refine Ev.succ ?_
    simp (disch := omega) only [swarfkit_CopyCar.l0, if_neg]
    rw [List.take_of_length_le (by omega)]
    exact Ev.now _
  | succ d ih =>
    intro i hi
    have hlt : i < parts.length := by omega
    have ihk := ih (i + 1) (by omega)
    have hp := hb _ (getD_mem parts i z50 hlt)
    have htl : (parts.take i).length ≤ i := List.length_take_le _ _
    refine Ev.succ ?_
    simp (disch := omega) only [swarfkit_CopyCar.l0, if_pos, wrapS, rd50, ints_f, Option.bind_some]
    rw [List.take_succ_eq_append_getElem hlt] at ihk
    rw [getD_get _ _ _ hlt]
    exact ihk
theorem copyCar_ev (parts : List S50) (swap : Int) (looks : List S61) (wrong : Int) (needs : List Int) (hl : parts.length ≤ 100000) (hb : ∀ p, p ∈ parts → p.f0.length ≤ 100000) (h2 : looks.length ≤ 100000) (h3 : needs.length ≤ 100000) :
    Ev (fun K => swarfkit_CopyCar.f K parts swap looks wrong needs) (parts, swap, looks, wrong, needs) := by
  unfold swarfkit_CopyCar.f
  simp (disch := omega) only [Option.bind_some, List.length_nil, List.nil_append, if_pos, ints_f]
  exact copyCar_l0 parts swap looks wrong needs swap looks wrong needs hl hb parts.length 0 (by omega)
theorem CarGood.copy {a1 a2 : Int} {parts : List S50} {swap : Int} {looks : List S61} {wrong : Int} {needs : List Int} {st : List Bool} (h : CarGood a1 a2 parts swap looks wrong needs st) (h9 : a1 ≤ 9) (h12 : a2 ≤ 12) :
    Ev (fun K => swarfkit_CopyCar.f K parts swap looks wrong needs) (parts, swap, looks, wrong, needs) := by
  have hf := h.few
  have hl := h.ll
  have hn := h.nl
  refine copyCar_ev parts swap looks wrong needs (by omega) (fun p hp => ?_) (by omega) (by omega)
  obtain ⟨i, hi, rfl⟩ := List.getElem_of_mem hp
  have hk2 := h.p.ok i hi
  rw [getD_get _ _ _ hi] at hk2
  have : (parts[i]).f0.length ≤ i := hk2.len
  omega
end Go.Proofs.Ytkkmfcdikkiodaa.PC4
namespace Go.Proofs.Ytkkmfcdikkiodaa.PC4
open Go.RowKit Go.Proofs.YtkkmfcdikkiodaaW.PrintWords Go.Proofs.YtkkmfcdikkiodaaW.PrintLast Go.Proofs.YtkkmfcdikkiodaaW.PrintMore
attribute [local go_sem] max2_int min2_int max_two min_two max_three min_three max_four min_four
set_option linter.unusedVariables false
set_option linter.unusedSimpArgs false
end Go.Proofs.Ytkkmfcdikkiodaa.PC4
namespace Go.Proofs.Ytkkmfcdikkiodaa.PC4
set_option linter.unusedVariables false
set_option linter.unusedSimpArgs false
open Go.RowKit Go.Proofs.YtkkmfcdikkiodaaW.PrintWords Go.Proofs.YtkkmfcdikkiodaaW.PrintLast Go.Proofs.YtkkmfcdikkiodaaW.PrintMore
def tset (parts : List S50) (looks : List S61) (wrong : Int) (m : Nat) : List Nat := (List.range m).filter fun s => okM parts s && decide ((wrongM s looks : Int) ≤ wrong)
def bitsTo (n i m : Nat) : List Bool := (List.range n).map fun j => decide (j < i) && m.testBit j
theorem bitsTo_len (n i m : Nat) : (bitsTo n i m).length = n := by simp [bitsTo]
theorem bitsTo_get {n i m j : Nat} (h : j < n) : (bitsTo n i m).getD j false = (decide (j < i) && m.testBit j) := by
  rw [getD_get _ _ _ (by rw [bitsTo_len]; exact h)]
  simp [bitsTo]
theorem bitsTo_full {n m : Nat} {j : Nat} (h : j < n) : (bitsTo n n m).getD j false = m.testBit j := by
  rw [bitsTo_get h, decide_eq_true h, Bool.true_and]
theorem stM_bits {n m : Nat} (h : m < 2 ^ n) : stM (bitsTo n n m) = m := by
  apply Nat.eq_of_testBit_eq
  intro i
  rw [stM_bit]
  by_cases hi : i < n
  · exact bitsTo_full hi
  · rw [List.getD, List.getElem?_eq_none (by rw [bitsTo_len]; omega), Nat.testBit_lt_two_pow (Nat.lt_of_lt_of_le h (Nat.pow_le_pow_right (by decide) (by omega)))]
    rfl
def okTo (parts : List S50) (m i : Nat) : Bool := (List.range i).all fun j => !m.testBit j || (parts.getD j z50).f0.all fun x => m.testBit x.toNat
end Go.Proofs.Ytkkmfcdikkiodaa.PC4
namespace Go.Proofs.Ytkkmfcdikkiodaa.PC4
open Go.RowKit Go.Proofs.YtkkmfcdikkiodaaW.PrintWords Go.Proofs.YtkkmfcdikkiodaaW.PrintLast Go.Proofs.YtkkmfcdikkiodaaW.PrintMore
attribute [local go_sem] max2_int min2_int max_two min_two max_three min_three max_four min_four
set_option linter.unusedVariables false
set_option linter.unusedSimpArgs false
end Go.Proofs.Ytkkmfcdikkiodaa.PC4
namespace Go.Proofs.Ytkkmfcdikkiodaa.PC4
set_option linter.unusedVariables false
set_option linter.unusedSimpArgs false
open Go.RowKit Go.Proofs.YtkkmfcdikkiodaaW.PrintWords Go.Proofs.YtkkmfcdikkiodaaW.PrintLast Go.Proofs.YtkkmfcdikkiodaaW.PrintMore
structure DoOK (parts : List S50) (s i : Nat) (l : List Bool) : Prop where
  len : l.length = parts.length
  hi : ∀ j, i ≤ j → j < parts.length → l.getD j false = s.testBit j
  lo : ∀ j, j < i → (l.getD j false = true ↔ ∃ k, k < parts.length ∧ s.testBit k = true ∧ (j : Int) ∈ (parts.getD k z50).f0)
  sm : ∀ j, j < i → s.testBit j = false
section
variable {parts : List S50} {swap : Int} {looks : List S61} {wrong : Int} {needs : List Int} (out : List Int) (ho : out.length = parts.length) (h9 : parts.length ≤ 16) (hp : ∀ i, i < parts.length → (parts.getD i z50).f0.length ≤ 1000 ∧ ∀ x, x ∈ (parts.getD i z50).f0 → 0 ≤ x ∧ x < i)
include hp h9 in
include ho hp h9 in
include ho hp h9 in
end
end Go.Proofs.Ytkkmfcdikkiodaa.PC4
namespace Go.Proofs.Ytkkmfcdikkiodaa.PC4
open Go.RowKit Go.Proofs.YtkkmfcdikkiodaaW.PrintWords Go.Proofs.YtkkmfcdikkiodaaW.PrintLast Go.Proofs.YtkkmfcdikkiodaaW.PrintMore
attribute [local go_sem] max2_int min2_int max_two min_two max_three min_three max_four min_four
set_option linter.unusedVariables false
set_option linter.unusedSimpArgs false
end Go.Proofs.Ytkkmfcdikkiodaa.PC4
namespace Go.Proofs.Ytkkmfcdikkiodaa.PC4
set_option linter.unusedVariables false
set_option linter.unusedSimpArgs false
open Go.RowKit Go.Proofs.YtkkmfcdikkiodaaW.PrintWords Go.Proofs.YtkkmfcdikkiodaaW.PrintLast Go.Proofs.YtkkmfcdikkiodaaW.PrintMore
def canM (parts : List S50) (all d i : Nat) : Bool := all.testBit i && !d.testBit i && subM (maskOf (parts.getD i z50).f0 &&& all) d
def ordT (parts : List S50) (all : Nat) : Nat → Nat → List (List Nat)
  | 0, d => if d = all then [[]] else []
  | f + 1, d => if d = all then [[]] else (List.range parts.length).flatMap fun i => if canM parts all d i = true then (ordT parts all f (d ||| 2 ^ i)).map (fun s => i :: s) else []
def timeT (parts : List S50) (swap : Int) : Int → List Nat → Int
  | _, [] => 0
  | l, i :: s => (if 0 ≤ l ∧ (parts.getD l.toNat z50).f2 ≠ (parts.getD i z50).f2 then (parts.getD i z50).f3 + swap else (parts.getD i z50).f3) + timeT parts swap i s
section
variable {parts : List S50} {swap : Int} (hw : WorkOK parts swap) (hr : Rising parts) (h9 : parts.length ≤ 9) {all : Nat} (hall : all < 2 ^ parts.length)
include hw in
include hw in
include hw hr h9 hall in
end
theorem has_l0 (l : List Int) (hl : l.length ≤ 100000) (x : Int) (d : Nat) : ∀ i : Nat, i + d = l.length → Ev (fun K => swarfref04_has.l0 K l x (i : Int)) ((l.drop i).any fun y => y == x) := by
  induction d with
  | zero =>
    intro i hi
    refine Ev.succ ?_
    simp (disch := omega) only [swarfref04_has.l0, if_neg]
    rw [List.drop_of_length_le (by omega)]
    exact Ev.now _
  | succ d ih =>
    intro i hi
    have ihk := ih (i + 1) (by omega)
    refine Ev.succ ?_
    rw [drop_cons_rd l i (by omega) 0, List.any_cons]
    simp (disch := omega) only [swarfref04_has.l0, if_pos, rd_getD, wrapS]
    by_cases e : l.getD i 0 = x
    · simp only [e, if_true, beq_self_eq_true, Bool.true_or]
      exact Ev.now _
    · simp only [e, if_false, beq_eq_false_iff_ne.2 e, Bool.false_or]
      exact ihk
theorem has_ev (l : List Int) (hl : l.length ≤ 100000) (x : Int) : Ev (fun K => swarfref04_has.f K l x) (l.any fun y => y == x) := has_l0 l hl x l.length 0 (by omega)
def natI (l : List Nat) : List Int := l.map fun (i : Nat) => (i : Int)
def maskN (l : List Nat) : Nat := l.foldl (fun s i => s ||| 2 ^ i) 0
def goes (bg : List Nat) (L : List (List Nat)) : List (List Int) := L.map fun s => natI (bg ++ s)
section
variable (parts : List S50) (swap : Int) (looks : List S61) (wrong : Int) (needs : List Int) (h6 : parts.length ≤ 6) (hp : ∀ i, i < parts.length → (parts.getD i z50).f0.length ≤ 1000 ∧ ∀ x, x ∈ (parts.getD i z50).f0 → 0 ≤ x ∧ x < i)
  (dl : List Bool) (all : Nat) (hdl : dl.length = parts.length) (hda : ∀ j, dl.getD j false = all.testBit j)
include h6 hp hdl hda in
include h6 hp hdl hda in
end
def timeAt (parts : List S50) (swap : Int) (o : List Nat) (i : Nat) : Int := timeT parts swap (if i = 0 then -1 else ((o.getD (i - 1) 0 : Nat) : Int)) (o.drop i)
section
variable (parts : List S50) (swap : Int) (looks : List S61) (wrong : Int) (needs : List Int)
end
def goOn (p : S50) (st : List Bool) : List (List Bool) := (st ++ [false]) :: (if p.f0.all (fun x => st.getD x.toNat false) then [st ++ [true]] else [])
def stepR (p : S50) (L : List (List Bool)) : List (List Bool) := L.flatMap (goOn p)
def statesI (parts : List S50) (i : Nat) : List (List Bool) := (parts.take i).foldl (fun L p => stepR p L) [[]]
def statesR (parts : List S50) : List (List Bool) := statesI parts parts.length
theorem rdL (L : List (List Bool)) (k : Nat) : rd_L5 L (k : Int) = L.getD k [] := by simp [rd_L5]
theorem statesI_succ (parts : List S50) (i : Nat) (h : i < parts.length) : statesI parts (i + 1) = stepR (parts.getD i z50) (statesI parts i) := by
  unfold statesI
  rw [List.take_succ_eq_append_getElem h, List.foldl_append, getD_get _ _ _ h]
  rfl
theorem goOn_len (p : S50) (st : List Bool) : (goOn p st).length ≤ 2 := by
  unfold goOn
  split <;> simp
theorem stepR_len (p : S50) (L : List (List Bool)) : (stepR p L).length ≤ 2 * L.length := by
  unfold stepR
  induction L with
  | nil => simp
  | cons st L ih =>
    rw [List.flatMap_cons, List.length_append, List.length_cons]
    have := goOn_len p st
    omega
theorem stepR_take (p : S50) (L : List (List Bool)) (k : Nat) (h : k < L.length) : stepR p (L.take (k + 1)) = stepR p (L.take k) ++ goOn p (L.getD k []) := by
  unfold stepR
  rw [List.take_succ_eq_append_getElem h, List.flatMap_append, getD_get _ _ _ h]
  simp
theorem statesI_len (parts : List S50) : ∀ i, i ≤ parts.length → (statesI parts i).length ≤ 2 ^ i := by
  intro i
  induction i with
  | zero => intro _; simp [statesI]
  | succ i ih =>
    intro h
    have h1 := ih (by omega)
    have h2 := stepR_len (parts.getD i z50) (statesI parts i)
    rw [statesI_succ _ _ (by omega), Nat.pow_succ]
    omega
section
variable (parts : List S50) (swap : Int) (looks : List S61) (wrong : Int) (needs : List Int)
theorem states_l2 (L : List (List Bool)) (i : Nat) (hi : i < parts.length) (x5 : List (List Bool)) (h5 : x5.length ≤ 100000) (k : Nat) (hk : k < L.length) (hl : L.length ≤ 100000) (hst : (L.getD k []).length = i) (h1000 : i ≤ 1000) (hbl : (parts.getD i z50).f0.length ≤ 1000) (hx : ∀ x, x ∈ (parts.getD i z50).f0 → 0 ≤ x ∧ x < i)
    {r : List (List Bool)} (d : Nat) : ∀ (b : Nat) (may : Bool), b + d = (parts.getD i z50).f0.length →
      Ev (fun K => swarfref04_States.l1 K L (i : Int) (x5 ++ (((L.getD k []) ++ [false]) :: (if (may && ((parts.getD i z50).f0.drop b).all (fun x => (L.getD k []).getD x.toNat false)) = true then [(L.getD k []) ++ [true]] else []))) ((k + 1 : Nat) : Int) parts swap looks wrong needs) r →
      Ev (fun K => swarfref04_States.l2 K L (i : Int) x5 (k : Int) may (b : Int) parts swap looks wrong needs) r := by
  have hrd := rd50 parts i
  have hrl := rdL L k
  generalize parts.getD i z50 = p at *
  generalize hs : L.getD k [] = st at *
  induction d with
  | zero =>
    intro b may hb h
    rw [List.drop_of_length_le (by omega), List.all_nil, Bool.and_true] at h
    refine Ev.succ ?_
    simp (disch := omega) only [swarfref04_States.l2, if_pos, if_neg, hrd, hrl, wrapS, Option.bind_some, List.length_nil, List.nil_append, List.length_append, List.length_cons, Nat.zero_add, if_true]
    cases may with
    | true =>
      simp only [if_true] at h ⊢
      rw [List.append_assoc]
      exact h
    | false =>
      simp only [Bool.false_eq_true, if_false] at h ⊢
      exact h
  | succ d ih =>
    intro b may hb h
    rw [drop_cons_rd _ b (by omega) 0, List.all_cons, ← Bool.and_assoc] at h
    have hxk := hx _ (getD_mem p.f0 b 0 (by omega))
    have ihk := ih (b + 1) _ (by omega) h
    have hq : rdOf false st (p.f0.getD b 0) = st.getD (p.f0.getD b 0).toNat false := rfl
    refine Ev.succ ?_
    cases may with
    | false =>
      simp (disch := omega) only [swarfref04_States.l2, if_pos, hrd, hrl, wrapS, Bool.false_eq_true, if_false]
      exact ihk
    | true =>
      simp (disch := omega) only [swarfref04_States.l2, if_pos, hrd, hrl, wrapS, if_true, rd_getD, hq]
      exact ihk
theorem states_l1 (L : List (List Bool)) (i : Nat) (hi : i < parts.length) (hl : L.length ≤ 10000) (hst : ∀ st, st ∈ L → st.length = i) (h1000 : i ≤ 1000) (hbl : (parts.getD i z50).f0.length ≤ 1000) (hx : ∀ x, x ∈ (parts.getD i z50).f0 → 0 ≤ x ∧ x < i)
    {r : List (List Bool)} (hT : Ev (fun K => swarfref04_States.l0 K (stepR (parts.getD i z50) L) ((i + 1 : Nat) : Int) parts swap looks wrong needs) r) (d : Nat) : ∀ (k : Nat), k + d = L.length →
      Ev (fun K => swarfref04_States.l1 K L (i : Int) (stepR (parts.getD i z50) (L.take k)) (k : Int) parts swap looks wrong needs) r := by
  induction d with
  | zero =>
    intro k hk
    refine Ev.succ ?_
    simp (disch := omega) only [swarfref04_States.l1, if_neg, wrapS]
    rw [List.take_of_length_le (by omega)]
    exact hT
  | succ d ih =>
    intro k hk
    have ihk := ih (k + 1) (by omega)
    have hlen := stepR_len (parts.getD i z50) (L.take k)
    have htk : (L.take k).length ≤ k := List.length_take_le _ _
    refine Ev.succ ?_
    simp (disch := omega) only [swarfref04_States.l1, if_pos]
    refine states_l2 parts swap looks wrong needs L i hi _ (by omega) k (by omega) (by omega) (hst _ (getD_mem L k [] (by omega))) h1000 hbl hx _ 0 true (Nat.zero_add _) ?_
    rw [stepR_take _ _ _ (by omega)] at ihk
    exact ihk
theorem states_l0 (h9 : parts.length ≤ 9) (hp : ∀ i, i < parts.length → (parts.getD i z50).f0.length ≤ 1000 ∧ ∀ x, x ∈ (parts.getD i z50).f0 → 0 ≤ x ∧ x < i) (hst : ∀ i, i ≤ parts.length → ∀ st, st ∈ statesI parts i → st.length = i) (d : Nat) : ∀ (i : Nat), i + d = parts.length →
      Ev (fun K => swarfref04_States.l0 K (statesI parts i) (i : Int) parts swap looks wrong needs) (statesR parts) := by
  induction d with
  | zero =>
    intro i hi
    obtain rfl : i = parts.length := by omega
    refine Ev.succ ?_
    simp (disch := omega) only [swarfref04_States.l0, if_neg]
    exact Ev.now _
  | succ d ih =>
    intro i hi
    have hi2 : i < parts.length := by omega
    have ihk := ih (i + 1) (by omega)
    have hlen := statesI_len parts i (by omega)
    have hpow : 2 ^ i ≤ 2 ^ 9 := Nat.pow_le_pow_right (by decide) (by omega)
    rw [statesI_succ _ _ hi2] at ihk
    refine Ev.succ ?_
    simp (disch := omega) only [swarfref04_States.l0, if_pos]
    exact states_l1 parts swap looks wrong needs _ i hi2 (by omega) (hst i (by omega)) (by omega) (hp i hi2).1 (hp i hi2).2 ihk _ 0 (Nat.zero_add _)
end
theorem mem_stepR (p : S50) (L : List (List Bool)) (st : List Bool) : st ∈ stepR p L ↔ ∃ t, t ∈ L ∧ (st = t ++ [false] ∨ (p.f0.all (fun x => t.getD x.toNat false) = true ∧ st = t ++ [true])) := by
  unfold stepR goOn
  rw [List.mem_flatMap]
  refine exists_congr fun t => and_congr_right fun _ => ?_
  rw [List.mem_cons]
  refine or_congr Iff.rfl ?_
  cases p.f0.all (fun x => t.getD x.toNat false) <;> simp
theorem mem_statesI {parts : List S50} (hp : ∀ i, i < parts.length → ∀ x, x ∈ (parts.getD i z50).f0 → 0 ≤ x ∧ x < i) : ∀ i, i ≤ parts.length → ∀ st, st ∈ statesI parts i ↔ st.length = i ∧ ∀ j, j < i → st.getD j false = true → ∀ x, x ∈ (parts.getD j z50).f0 → st.getD x.toNat false = true := by
  intro i
  induction i with
  | zero =>
    intro _ st
    simp only [statesI, List.take_zero, List.foldl_nil, List.mem_singleton]
    constructor
    · rintro rfl; exact ⟨rfl, fun j hj => by omega⟩
    · rintro ⟨h, _⟩; exact List.eq_nil_of_length_eq_zero h
  | succ i ih =>
    intro hi st
    rw [statesI_succ _ _ (by omega), mem_stepR]
    constructor
    · rintro ⟨t, ht, h⟩
      obtain ⟨h1, h2⟩ := (ih (by omega) t).1 ht
      have key : ∀ b : Bool, (b = true → (parts.getD i z50).f0.all (fun x => t.getD x.toNat false) = true) → (t ++ [b]).length = i + 1 ∧ ∀ j, j < i + 1 → (t ++ [b]).getD j false = true → ∀ x, x ∈ (parts.getD j z50).f0 → (t ++ [b]).getD x.toNat false = true := by
        intro b hb
        refine ⟨by simp [h1], fun j hj hjb x hx => ?_⟩
        have hx2 := hp j (by omega) x hx
        rw [getD_snoc_lt _ _ _ (by omega)]
        by_cases e : j = i
        · subst e
          rw [← h1, getD_snoc_eq] at hjb
          have := hb hjb
          rw [List.all_eq_true] at this
          exact this x hx
        · rw [getD_snoc_lt _ _ _ (by omega)] at hjb
          exact h2 j (by omega) hjb x hx
      rcases h with rfl | ⟨ha, rfl⟩
      · exact key false (by simp)
      · exact key true (fun _ => ha)
    · rintro ⟨h1, h2⟩
      have hne : st ≠ [] := fun e => by rw [e] at h1; cases h1
      have hd := List.dropLast_concat_getLast hne
      generalize st.dropLast = t at hd
      generalize st.getLast hne = b at hd
      subst hd
      have hl : t.length = i := by simpa using h1
      refine ⟨t, (ih (by omega) t).2 ⟨hl, fun j hj hb x hx => ?_⟩, ?_⟩
      · have hx2 := hp j (by omega) x hx
        have := h2 j (by omega) (by rw [getD_snoc_lt _ _ _ (by omega)]; exact hb) x hx
        rwa [getD_snoc_lt _ _ _ (by omega)] at this
      · cases b with
        | false => exact .inl rfl
        | true =>
          refine .inr ⟨List.all_eq_true.2 (fun x hx => ?_), rfl⟩
          have hx2 := hp i (by omega) x hx
          have := h2 i (by omega) (by rw [← hl, getD_snoc_eq]) x hx
          rwa [getD_snoc_lt _ _ _ (by omega)] at this
def truthsR (parts : List S50) (looks : List S61) (wrong : Int) : List (List Bool) := (statesR parts).filter fun st => decide ((wrongB st looks : Int) ≤ wrong)
theorem mem_truthsR {parts : List S50} {looks : List S61} {wrong : Int} (hp : ∀ i, i < parts.length → PartOK i (parts.getD i z50)) (st : List Bool) : st ∈ truthsR parts looks wrong ↔ st.length = parts.length ∧ stM st ∈ truthsL parts looks wrong := by
  unfold truthsR statesR
  rw [List.mem_filter, mem_statesI (fun i hi => (hp i hi).lt) _ (Nat.le_refl _), mem_truths, okM_iff hp, wrongM_st, decide_eq_true_eq]
  constructor
  · rintro ⟨⟨h1, h2⟩, h3⟩
    refine ⟨h1, by rw [← h1]; exact stM_lt st, fun i hi hb x hx => ?_, h3⟩
    rw [stM_bit] at hb ⊢
    exact h2 i hi hb x hx
  · rintro ⟨h1, _, h2, h3⟩
    refine ⟨⟨h1, fun i hi hb x hx => ?_⟩, h3⟩
    have := h2 i hi (by rw [stM_bit]; exact hb) x hx
    rwa [stM_bit] at this
theorem truthsR_of {parts : List S50} {looks : List S61} {wrong : Int} (hp : ∀ i, i < parts.length → PartOK i (parts.getD i z50)) {s : Nat} (hs : s ∈ truthsL parts looks wrong) : ∃ st, st ∈ truthsR parts looks wrong ∧ stM st = s := by
  have h1 := ((mem_truths s).1 hs).1
  exact ⟨bitsTo parts.length parts.length s, (mem_truthsR hp _).2 ⟨bitsTo_len _ _ _, by rw [stM_bits h1]; exact hs⟩, stM_bits h1⟩
theorem truthsR_len (parts : List S50) (looks : List S61) (wrong : Int) (h9 : parts.length ≤ 9) : (truthsR parts looks wrong).length ≤ 512 := by
  have h1 := statesI_len parts parts.length (Nat.le_refl _)
  have h2 : 2 ^ parts.length ≤ 2 ^ 9 := Nat.pow_le_pow_right (by decide) h9
  have h3 := List.length_filter_le (fun st => decide ((wrongB st looks : Int) ≤ wrong)) (statesR parts)
  have h4 : (statesR parts).length = (statesI parts parts.length).length := rfl
  unfold truthsR
  omega
section
variable (parts : List S50) (swap : Int) (looks : List S61) (wrong : Int) (needs : List Int)
theorem states_ev (h9 : parts.length ≤ 9) (hp : ∀ i, i < parts.length → PartOK i (parts.getD i z50)) : Ev (fun K => swarfref04_States.f K parts swap looks wrong needs) (statesR parts) := by
  have h := states_l0 parts swap looks wrong needs h9 (fun i hi => ⟨by have := (hp i hi).len; omega, (hp i hi).lt⟩) (fun i hi st hs => ((mem_statesI (fun i hi => (hp i hi).lt) i hi st).1 hs).1) parts.length 0 (by omega)
  exact h
theorem truths_l0 (hll : looks.length ≤ 1000) (hlk : ∀ l, l ∈ looks → 0 ≤ l.f0 ∧ l.f0 < parts.length) (L : List (List Bool)) (hL : L.length ≤ 512) (hst : ∀ st, st ∈ L → st.length = parts.length) (d : Nat) : ∀ k : Nat, k + d = L.length →
    Ev (fun K => swarfref04_Truths.l0 K ((L.take k).filter fun st => decide ((wrongB st looks : Int) ≤ wrong)) L (k : Int) parts swap looks wrong needs) (L.filter fun st => decide ((wrongB st looks : Int) ≤ wrong)) := by
  induction d with
  | zero =>
    intro k hk
    refine Ev.succ ?_
    simp (disch := omega) only [swarfref04_Truths.l0, if_neg]
    rw [List.take_of_length_le (by omega)]
    exact Ev.now _
  | succ d ih =>
    intro k hk
    have ihk := ih (k + 1) (by omega)
    have hk2 : k < L.length := by omega
    have hs := hst _ (getD_mem L k [] hk2)
    have hwr := wrongs_ev parts swap looks wrong needs (L.getD k []) hll (by rw [hs]; exact hlk)
    have hle := List.length_filter_le (fun st => decide ((wrongB st looks : Int) ≤ wrong)) (L.take k)
    have htk : (L.take k).length ≤ k := List.length_take_le _ _
    rw [List.take_succ_eq_append_getElem hk2, List.filter_append] at ihk
    rw [← getD_get L k [] hk2] at ihk
    refine Ev.succ ?_
    simp (disch := omega) only [swarfref04_Truths.l0, if_pos, rdL, wrapS]
    refine Ev.bind hwr ?_
    by_cases hw : (wrongB (L.getD k []) looks : Int) ≤ wrong
    · simp only [hw, if_true]
      simp only [List.filter_cons, List.filter_nil, decide_eq_true hw, if_true] at ihk
      exact ihk
    · simp only [hw, if_false]
      simp only [List.filter_cons, List.filter_nil, decide_eq_false hw, Bool.false_eq_true, if_false, List.append_nil] at ihk
      exact ihk
theorem truths_ev (h9 : parts.length ≤ 9) (hp : ∀ i, i < parts.length → PartOK i (parts.getD i z50)) (hll : looks.length ≤ 1000) (hlk : ∀ l, l ∈ looks → 0 ≤ l.f0 ∧ l.f0 < parts.length) : Ev (fun K => swarfref04_Truths.f K parts swap looks wrong needs) (truthsR parts looks wrong) := by
  have h1 := statesI_len parts parts.length (Nat.le_refl _)
  have h2 : 2 ^ parts.length ≤ 2 ^ 9 := Nat.pow_le_pow_right (by decide) h9
  have h4 : (statesR parts).length = (statesI parts parts.length).length := rfl
  unfold swarfref04_Truths.f
  refine Ev.bind (states_ev parts swap looks wrong needs h9 hp) ?_
  exact truths_l0 parts swap looks wrong needs hll hlk (statesR parts) (by omega) (fun st hs => ((mem_statesI (fun i hi => (hp i hi).lt) _ (Nat.le_refl _) st).1 hs).1) (statesR parts).length 0 (by omega)
end
theorem from_f (n lo hi : Int) : swarfref04_from.f n lo hi = some (inB n lo hi) := by
  unfold swarfref04_from.f inB
  by_cases h : lo ≤ n
  · rw [if_pos h, decide_eq_true h, Bool.true_and]
  · rw [if_neg h, decide_eq_false h, Bool.false_and]
def prevO (l : List Int) (i : Nat) : Option Int := if 0 < i then some (l.getD (i - 1) 0) else none
theorem rise_at (most beyond : Int) (l : List Int) (i : Nat) (h : i < l.length) : rise most beyond (prevO l i) (l.drop i) = if inB (l.getD i 0) 0 most = true then (if 0 < i ∧ l.getD i 0 ≤ l.getD (i - 1) 0 then 5 else rise most beyond (prevO l (i + 1)) (l.drop (i + 1))) else beyond := by
  rw [drop_cons_rd l i h 0, rise_cons]
  unfold prevO
  rw [if_pos (show 0 < i + 1 by omega), Nat.add_sub_cancel]
  by_cases h0 : 0 < i
  · simp [h0]
  · simp [h0]
section
variable (f0 : List Int) (b : Bool) (tool mins : Int) (i : Nat)
theorem checkPart_l0 (hl : f0.length ≤ 100000) (hi : i ≤ 100000) (d : Nat) : ∀ k : Nat, k + d = f0.length →
    Ev (fun K => swarfref04_checkPart.l0 K (i : Int) (k : Int) f0 b tool mins) (if rise ((i : Int) - 1) 3 (prevO f0 k) (f0.drop k) = 0 then (if (inB tool 1 4 && inB mins 0 1000) = true then 0 else 1) else rise ((i : Int) - 1) 3 (prevO f0 k) (f0.drop k)) := by
  have hw1 : wrap64 ((i : Int) - 1) = (i : Int) - 1 := wrap64_id (by omega) (by omega)
  induction d with
  | zero =>
    intro k hk
    refine Ev.succ ?_
    rw [List.drop_of_length_le (by omega)]
    simp (disch := omega) only [swarfref04_checkPart.l0, if_neg, from_f, Option.bind_some, rise, if_true]
    cases inB tool 1 4 with
    | false => simpa using Ev.now 1
    | true => cases inB mins 0 1000 with
      | false => simpa using Ev.now 1
      | true => simpa using Ev.now 0
  | succ d ih =>
    intro k hk
    have ihk := ih (k + 1) (by omega)
    rw [rise_at _ _ _ _ (by omega)]
    refine Ev.succ ?_
    simp (disch := omega) only [swarfref04_checkPart.l0, if_pos, hw1, from_f, Option.bind_some, rd_getD]
    cases hb : inB (f0.getD k 0) 0 ((i : Int) - 1) with
    | false => simpa using Ev.now 3
    | true =>
      by_cases h0 : 0 < k
      · have hz : (k : Int) > 0 := by omega
        by_cases hle : f0.getD k 0 ≤ f0.getD (k - 1) 0
        · simp (disch := omega) only [if_true, hz, wrapP, if_pos, rd_getD, hle, h0, true_and]
          exact Ev.now 5
        · simp (disch := omega) only [if_true, hz, wrapP, if_pos, rd_getD, hle, if_false, wrapS, h0, true_and]
          exact ihk
      · have hz : ¬ (k : Int) > 0 := by omega
        simp (disch := omega) only [if_true, hz, if_false, wrapS, h0, false_and]
        exact ihk
end
section
variable (parts : List S50) (swap : Int) (looks : List S61) (wrong : Int) (needs : List Int)
theorem check_l2 (hn : needs.length ≤ 100000) (d : Nat) : ∀ k : Nat, k + d = needs.length → Ev (fun K => swarfref04_Check.l2 K (k : Int) parts swap looks wrong needs) (rise 8 1 (prevO needs k) (needs.drop k)) := by
  induction d with
  | zero =>
    intro k hk
    refine Ev.succ ?_
    rw [List.drop_of_length_le (by omega)]
    simp (disch := omega) only [swarfref04_Check.l2, if_neg, rise]
    exact Ev.now 0
  | succ d ih =>
    intro k hk
    have ihk := ih (k + 1) (by omega)
    rw [rise_at _ _ _ _ (by omega)]
    refine Ev.succ ?_
    simp (disch := omega) only [swarfref04_Check.l2, if_pos, from_f, Option.bind_some, rd_getD]
    cases hb : inB (needs.getD k 0) 0 8 with
    | false => simpa using Ev.now 1
    | true =>
      by_cases h0 : 0 < k
      · have hz : (k : Int) > 0 := by omega
        by_cases hle : needs.getD k 0 ≤ needs.getD (k - 1) 0
        · simp (disch := omega) only [if_true, hz, wrapP, if_pos, rd_getD, hle, h0, true_and]
          exact Ev.now 5
        · simp (disch := omega) only [if_true, hz, wrapP, if_pos, rd_getD, hle, if_false, wrapS, h0, true_and]
          exact ihk
      · have hz : ¬ (k : Int) > 0 := by omega
        simp (disch := omega) only [if_true, hz, if_false, wrapS, h0, false_and]
        exact ihk
theorem check_l1 (hp : 0 < parts.length ∧ parts.length ≤ 100000) (hl : looks.length ≤ 100000) (hn : needs.length ≤ 100000) (d : Nat) : ∀ k : Nat, k + d = looks.length → Ev (fun K => swarfref04_Check.l1 K (k : Int) parts swap looks wrong needs) (if (looks.drop k).any (lookBad parts.length) = true then 3 else if inB wrong 0 12 = true then (if 8 < needs.length then 6 else riseE 8 1 needs) else 1) := by
  have hw1 : wrap64 ((parts.length : Int) - 1) = (parts.length : Int) - 1 := wrap64_id (by omega) (by omega)
  induction d with
  | zero =>
    intro k hk
    refine Ev.succ ?_
    rw [List.drop_of_length_le (by omega)]
    simp (disch := omega) only [swarfref04_Check.l1, if_neg, from_f, Option.bind_some, List.any_nil, Bool.false_eq_true, if_false]
    cases inB wrong 0 12 with
    | false => simpa using Ev.now 1
    | true =>
      simp only [if_true]
      by_cases h8 : 8 < needs.length
      · have : (needs.length : Int) > 8 := by omega
        simp only [this, h8, if_true]
        exact Ev.now 6
      · have : ¬ (needs.length : Int) > 8 := by omega
        simp only [this, h8, if_false]
        exact check_l2 parts swap looks wrong needs hn needs.length 0 (by omega)
  | succ d ih =>
    intro k hk
    have ihk := ih (k + 1) (by omega)
    rw [drop_cons_rd looks k (by omega) z61, List.any_cons]
    refine Ev.succ ?_
    simp (disch := omega) only [swarfref04_Check.l1, if_pos, hw1, from_f, Option.bind_some, rd61, wrapS]
    have hb : lookBad parts.length (looks.getD k z61) = !(inB (looks.getD k z61).f0 0 ((parts.length : Int) - 1)) := rfl
    rw [hb]
    cases hh : inB (looks.getD k z61).f0 0 ((parts.length : Int) - 1) with
    | false => simpa using Ev.now 3
    | true =>
      rw [Bool.not_true, Bool.false_or]
      simp only [if_true]
      exact ihk
theorem check_l0 (hp : 0 < parts.length ∧ parts.length ≤ 100000) (hb : ∀ p, p ∈ parts → p.f0.length ≤ 100000) (hl : looks.length ≤ 100000) (hn : needs.length ≤ 100000) (d : Nat) : ∀ k : Nat, k + d = parts.length → Ev (fun K => swarfref04_Check.l0 K (k : Int) parts swap looks wrong needs) (if partsE (k : Int) (parts.drop k) = 0 then checkT parts.length swap looks wrong needs else partsE (k : Int) (parts.drop k)) := by
  induction d with
  | zero =>
    intro k hk
    refine Ev.succ ?_
    rw [List.drop_of_length_le (by omega)]
    simp (disch := omega) only [swarfref04_Check.l0, if_neg, from_f, Option.bind_some, partsE, if_true]
    unfold checkT
    cases inB swap 0 1000 with
    | false => simpa using Ev.now 1
    | true =>
      simp only [if_true]
      by_cases h12 : 12 < looks.length
      · have : (looks.length : Int) > 12 := by omega
        simp only [this, h12, if_true]
        exact Ev.now 6
      · have : ¬ (looks.length : Int) > 12 := by omega
        simp only [this, h12, if_false]
        exact check_l1 parts swap looks wrong needs hp hl hn looks.length 0 (by omega)
  | succ d ih =>
    intro k hk
    have ihk := ih (k + 1) (by omega)
    have hk2 : k < parts.length := by omega
    have hpb := hb _ (getD_mem parts k z50 hk2)
    rw [drop_cons_rd parts k hk2 z50, partsE_cons]
    have hcp := checkPart_l0 (parts.getD k z50).f0 (parts.getD k z50).f1 (parts.getD k z50).f2 (parts.getD k z50).f3 k hpb (by omega) (parts.getD k z50).f0.length 0 (by omega)
    have e0 : rise ((k : Int) - 1) 3 (prevO (parts.getD k z50).f0 0) ((parts.getD k z50).f0.drop 0) = riseE ((k : Int) - 1) 3 (parts.getD k z50).f0 := rfl
    rw [e0] at hcp
    refine Ev.succ ?_
    simp (disch := omega) only [swarfref04_Check.l0, if_pos, rd50, wrapS]
    refine Ev.bind hcp ?_
    by_cases hr : riseE ((k : Int) - 1) 3 (parts.getD k z50).f0 = 0
    · simp only [hr, if_true]
      cases hh : (inB (parts.getD k z50).f2 1 4 && inB (parts.getD k z50).f3 0 1000) with
      | false => simpa using Ev.now 1
      | true =>
        simp only [if_true]
        exact ihk
    · simp only [hr, if_false]
      exact Ev.now _
theorem refCheck_ev (hp : parts.length ≤ 100000) (hb : ∀ p, p ∈ parts → p.f0.length ≤ 100000) (hl : looks.length ≤ 100000) (hn : needs.length ≤ 100000) : Ev (fun K => swarfref04_Check.f K parts swap looks wrong needs) (checkE parts swap looks wrong needs) := by
  unfold swarfref04_Check.f checkE
  by_cases h0 : parts.length = 0
  · have : (parts.length : Int) = 0 := by omega
    simp only [this, h0, if_true]
    exact Ev.now 7
  · have h0' : ¬ (parts.length : Int) = 0 := by omega
    simp only [h0, h0', if_false]
    by_cases h9 : 9 < parts.length
    · have : (parts.length : Int) > 9 := by omega
      simp only [this, h9, if_true]
      exact Ev.now 6
    · have : ¬ (parts.length : Int) > 9 := by omega
      simp only [this, h9, if_false]
      exact check_l0 parts swap looks wrong needs ⟨by omega, hp⟩ hb hl hn parts.length 0 (by omega)
theorem valid_parts (h : checkE parts swap looks wrong needs = 0) : parts.length ≤ 9 ∧ looks.length ≤ 12 ∧ needs.length ≤ 8 ∧ (∀ i, i < parts.length → (parts.getD i z50).f0.length ≤ i ∧ PartOK i (parts.getD i z50)) ∧ (0 ≤ swap ∧ swap ≤ 1000) ∧ (∀ l, l ∈ looks → 0 ≤ l.f0 ∧ l.f0 < parts.length) := by
  unfold checkE at h
  by_cases h0 : parts.length = 0
  · rw [if_pos h0] at h; cases h
  rw [if_neg h0] at h
  by_cases h9 : 9 < parts.length
  · rw [if_pos h9] at h; cases h
  rw [if_neg h9] at h
  by_cases hp : partsE 0 parts = 0
  case neg => rw [if_neg hp] at h; exact absurd h hp
  rw [if_pos hp] at h
  unfold checkT at h
  cases hs : inB swap 0 1000 with
  | false => rw [hs] at h; cases h
  | true =>
    rw [hs, if_pos rfl] at h
    by_cases h12 : 12 < looks.length
    · rw [if_pos h12] at h; cases h
    rw [if_neg h12] at h
    cases hlb : looks.any (lookBad parts.length) with
    | true => rw [hlb, if_pos rfl] at h; cases h
    | false =>
      rw [hlb, if_neg (by simp)] at h
      cases hw : inB wrong 0 12 with
      | false => rw [hw] at h; cases h
      | true =>
        rw [hw, if_pos rfl] at h
        by_cases h8 : 8 < needs.length
        · rw [if_pos h8] at h; cases h
        have rise_len : ∀ (most beyond : Int) (l : List Int) (p : Option Int) (lo : Int), beyond ≠ 0 → rise most beyond p l = 0 → (∀ q, p = some q → lo ≤ q + 1) → (p = none → lo ≤ 0) → (l.length : Int) ≤ most + 1 - lo ∨ l = [] := by
          intro most beyond l
          induction l with
          | nil => intro p lo _ _ _ _; exact .inr rfl
          | cons y l ih =>
            intro p lo hb hr hq hn
            rw [rise_cons] at hr
            cases hy : inB y 0 most with
            | false => rw [hy] at hr; exact absurd hr hb
            | true =>
              rw [hy, if_pos rfl] at hr
              have hy2 := inB_true.1 hy
              have hlo : lo ≤ y ∧ rise most beyond (some y) l = 0 := by
                cases p with
                | none => rw [if_neg (by simp)] at hr; exact ⟨by have := hn rfl; omega, hr⟩
                | some q =>
                  by_cases hle : y ≤ q
                  · rw [if_pos (by simpa using hle)] at hr; cases hr
                  · rw [if_neg (by simpa using hle)] at hr; exact ⟨by have := hq q rfl; omega, hr⟩
              rcases ih (some y) (y + 1) hb hlo.2 (fun q e => by injection e with e; omega) (fun e => by cases e) with h3 | h3
              · left; rw [List.length_cons]; omega
              · left; rw [h3, List.length_cons, List.length_nil]; omega
        have rise_mem : ∀ (most beyond : Int) (l : List Int) (p : Option Int), beyond ≠ 0 → rise most beyond p l = 0 → ∀ x, x ∈ l → 0 ≤ x ∧ x ≤ most := by
          intro most beyond l
          induction l with
          | nil => intro p _ _ x hx; cases hx
          | cons y l ih =>
            intro p hb hr x hx
            rw [rise_cons] at hr
            cases hy : inB y 0 most with
            | false => rw [hy] at hr; exact absurd hr hb
            | true =>
              rw [hy, if_pos rfl] at hr
              have hr2 : rise most beyond (some y) l = 0 := by
                cases p with
                | none => rw [if_neg (by simp)] at hr; exact hr
                | some q =>
                  by_cases hle : y ≤ q
                  · rw [if_pos (by simpa using hle)] at hr; cases hr
                  · rw [if_neg (by simpa using hle)] at hr; exact hr
              rcases List.mem_cons.1 hx with rfl | hx
              · exact inB_true.1 hy
              · exact ih (some y) hb hr2 x hx
        refine ⟨by omega, by omega, by omega, ?_, inB_true.1 hs, fun l hl => ?_⟩
        · have gen : ∀ (l : List S50) (i : Int), 0 ≤ i → partsE i l = 0 → ∀ k, k < l.length → riseE (i + k - 1) 3 (l.getD k z50).f0 = 0 ∧ inB (l.getD k z50).f2 1 4 = true ∧ inB (l.getD k z50).f3 0 1000 = true := by
            intro l
            induction l with
            | nil => intro i _ _ k hk; simp at hk
            | cons p l ih =>
              intro i hi he k hk
              rw [partsE_cons] at he
              by_cases hr : riseE (i - 1) 3 p.f0 = 0
              · rw [if_pos hr] at he
                cases hh : (inB p.f2 1 4 && inB p.f3 0 1000) with
                | false => rw [hh] at he; cases he
                | true =>
                  rw [hh, if_pos rfl] at he
                  rw [Bool.and_eq_true] at hh
                  cases k with
                  | zero => rw [List.getD_cons_zero]; exact ⟨by simpa using hr, hh.1, hh.2⟩
                  | succ k =>
                    have := ih (i + 1) (by omega) he k (by simpa using hk)
                    rw [List.getD_cons_succ]
                    rw [show i + ((k + 1 : Nat) : Int) - 1 = i + 1 + (k : Int) - 1 by omega]
                    exact this
              · rw [if_neg hr] at he; exact absurd he hr
          intro i hi
          obtain ⟨g1, g2, g3⟩ := gen parts 0 (Int.le_refl _) hp i hi
          rw [Int.zero_add] at g1
          have hmem := rise_mem _ _ _ none (by decide) g1
          have hlen : (parts.getD i z50).f0.length ≤ i := by
            rcases rise_len _ _ _ none 0 (by decide) g1 (fun q e => by cases e) (fun _ => Int.le_refl _) with h1 | h1
            · omega
            · rw [h1]; exact Nat.zero_le _
          exact ⟨hlen, g1, fun x hx => by have := hmem x hx; omega, hlen, inB_true.1 g2, inB_true.1 g3⟩
        · have h1 : lookBad parts.length l = false := by
            cases hb : lookBad parts.length l with
            | false => rfl
            | true => rw [List.any_eq_true.2 ⟨l, hl, hb⟩] at hlb; cases hlb
          have h2 : (!(inB l.f0 0 ((parts.length : Int) - 1))) = false := h1
          have h3 := inB_true.1 (by simpa using h2 : inB l.f0 0 ((parts.length : Int) - 1) = true)
          omega
end
end Go.Proofs.Ytkkmfcdikkiodaa.PC4
namespace Go.Proofs.Ytkkmfcdikkiodaa.PC4
open Go.RowKit Go.Proofs.YtkkmfcdikkiodaaW.PrintWords Go.Proofs.YtkkmfcdikkiodaaW.PrintLast Go.Proofs.YtkkmfcdikkiodaaW.PrintMore
attribute [local go_sem] max2_int min2_int max_two min_two max_three min_three max_four min_four
set_option linter.unusedVariables false
set_option linter.unusedSimpArgs false
end Go.Proofs.Ytkkmfcdikkiodaa.PC4
namespace Go.Proofs.Ytkkmfcdikkiodaa.PC4
set_option linter.unusedVariables false
set_option linter.unusedSimpArgs false
open Go.RowKit Go.Proofs.YtkkmfcdikkiodaaW.PrintWords Go.Proofs.YtkkmfcdikkiodaaW.PrintLast Go.Proofs.YtkkmfcdikkiodaaW.PrintMore
structure Small (parts : List S50) (looks : List S61) (needs : List Int) : Prop where
  p : parts.length ≤ 20
  l : looks.length ≤ 30
  n : needs.length ≤ 20
  b : ∀ q, q ∈ parts → q.f0.length ≤ 20
theorem Small.fits {parts : List S50} {looks : List S61} {needs : List Int} (h : Small parts looks needs) : carFits parts looks needs :=
  ⟨by have := h.p; omega, by have := h.l; omega, by have := h.n; omega, fun q hq => by have := h.b q hq; omega⟩
section
variable (parts : List S50) (swap : Int) (looks : List S61) (wrong : Int) (needs : List Int)
theorem huge_j1 (x3 : Nat) : Ev (fun K => swarflaw04_huge.j1 K (x3 : Int) false parts swap looks wrong needs) (decide (20 < parts.length) || decide (30 < looks.length) || decide (20 < needs.length)) := by
  refine Ev.succ ?_
  simp only [swarflaw04_huge.j1, Bool.false_eq_true, if_false]
  by_cases h1 : 20 < parts.length
  · have : (parts.length : Int) > 20 := by omega
    simp only [this, if_true, decide_eq_true h1, Bool.true_or]
    exact Ev.now _
  · have e1 : ¬ (parts.length : Int) > 20 := by omega
    by_cases h2 : 30 < looks.length
    · have : (looks.length : Int) > 30 := by omega
      simp only [e1, this, if_true, if_false, decide_eq_true h2, Bool.or_true, Bool.true_or]
      exact Ev.now _
    · have e2 : ¬ (looks.length : Int) > 30 := by omega
      have e3 : decide ((needs.length : Int) > 20) = decide (20 < needs.length) := by rw [decide_eq_decide]; omega
      simp only [e1, e2, if_false, decide_eq_false h1, decide_eq_false h2, Bool.false_or, e3]
      exact Ev.now _
theorem huge_ev : Res (fun K => swarflaw04_huge.f K parts swap looks wrong needs) (fun b => b = false → Small parts looks needs) := by
  have gen : ∀ (d k : Nat), k + d = min parts.length 20 → (∀ q, q ∈ parts.take k → q.f0.length ≤ 20) → Res (fun K => swarflaw04_huge.l0 K (k : Int) parts swap looks wrong needs) (fun b => b = false → Small parts looks needs) := by
    intro d
    induction d with
    | zero =>
      intro k hk hb
      have hj := huge_j1 parts swap looks wrong needs k
      have hfin : (decide (20 < parts.length) || decide (30 < looks.length) || decide (20 < needs.length)) = false → Small parts looks needs := by
        intro h
        simp only [Bool.or_eq_false_iff, decide_eq_false_iff_not] at h
        obtain ⟨⟨h1, h2⟩, h3⟩ := h
        refine ⟨by omega, by omega, by omega, ?_⟩
        rw [List.take_of_length_le (by omega)] at hb
        exact hb
      refine Res.succ ?_
      by_cases hlt : k < parts.length
      · have hd : decide ((k : Int) < 20) = false := decide_eq_false (by omega)
        simp (disch := omega) only [swarflaw04_huge.l0, if_pos, hd]
        exact Res.of hj hfin
      · simp (disch := omega) only [swarflaw04_huge.l0, if_neg]
        exact Res.of hj hfin
    | succ d ih =>
      intro k hk hb
      have hlt : k < parts.length := by omega
      have hd : decide ((k : Int) < 20) = true := decide_eq_true (by omega)
      refine Res.succ ?_
      simp (disch := omega) only [swarflaw04_huge.l0, if_pos, hd]
      refine Res.succ ?_
      simp (disch := omega) only [swarflaw04_huge.j1, if_true, if_pos, rd50]
      by_cases h20 : 20 < (parts.getD k z50).f0.length
      · have : (((parts.getD k z50).f0.length : Nat) : Int) > 20 := by omega
        simp only [this, if_true]
        exact Res.now (fun e => by cases e)
      · have : ¬ (((parts.getD k z50).f0.length : Nat) : Int) > 20 := by omega
        simp (disch := omega) only [this, if_false, wrapS]
        refine ih (k + 1) (by omega) (fun q hq => ?_)
        rw [List.take_succ_eq_append_getElem hlt, ← getD_get _ _ z50 hlt] at hq
        rcases List.mem_append.1 hq with hq | hq
        · exact hb q hq
        · rw [List.mem_singleton.1 hq]; omega
  exact gen (min parts.length 20) 0 (by omega) (fun q hq => by simp at hq)
def knownR : List (List Bool) × Int := if checkE parts swap looks wrong needs = 0 then (if truthsR parts looks wrong = [] then ([], 9) else (truthsR parts looks wrong, 0)) else ([], checkE parts swap looks wrong needs)
theorem known_ev (hs : Small parts looks needs) : Ev (fun K => swarfref04_known.f K parts swap looks wrong needs) (knownR parts swap looks wrong needs) := by
  have h1 := hs.p
  have h2 := hs.l
  have h3 := hs.n
  unfold swarfref04_known.f knownR
  refine Ev.bind (refCheck_ev parts swap looks wrong needs (by omega) (fun q hq => by have := hs.b q hq; omega) (by omega) (by omega)) ?_
  by_cases h0 : checkE parts swap looks wrong needs = 0
  · obtain ⟨v1, v2, v3, v4, v5, v6⟩ := valid_parts parts swap looks wrong needs h0
    simp only [h0, if_true]
    refine Ev.bind (truths_ev parts swap looks wrong needs v1 (fun i hi => (v4 i hi).2) (by omega) v6) ?_
    by_cases ht : truthsR parts looks wrong = []
    · simp only [ht, List.length_nil, if_true]
      exact Ev.now _
    · have : ¬ (((truthsR parts looks wrong).length : Nat) : Int) = 0 := fun e => ht (List.eq_nil_of_length_eq_zero (by omega))
      simp only [ht, this, if_false]
      exact Ev.now _
  · simp only [h0, if_false]
    exact Ev.now _
end
theorem truthsR_nil {parts : List S50} {looks : List S61} {wrong : Int} (hp : ∀ i, i < parts.length → PartOK i (parts.getD i z50)) : truthsR parts looks wrong = [] ↔ truthsL parts looks wrong = [] := by
  constructor
  · intro h
    refine List.eq_nil_iff_forall_not_mem.2 (fun s hs => ?_)
    obtain ⟨st, h1, _⟩ := truthsR_of hp hs
    rw [h] at h1; cases h1
  · intro h
    refine List.eq_nil_iff_forall_not_mem.2 (fun st hs => ?_)
    have := ((mem_truthsR hp st).1 hs).2
    rw [h] at this; cases this
theorem ref_verdict {parts : List S50} {looks : List S61} {wrong : Int} (hp : ∀ i, i < parts.length → PartOK i (parts.getD i z50)) (hne : truthsL parts looks wrong ≠ []) (p : Int → Bool) (q : Nat → Bool) (hq : ∀ s, s ∈ truthsL parts looks wrong → p (s : Int) = q s) (qb : List Bool → Bool) (hb : ∀ st, st ∈ truthsR parts looks wrong → qb st = q (stM st)) :
    swarfref04_verdict.f (((truthsR parts looks wrong).countP qb : Nat) : Int) (((truthsR parts looks wrong).length : Nat) : Int) = some (verdictS (setsI (truthsL parts looks wrong)) p) := by
  unfold swarfref04_verdict.f
  obtain ⟨s0, hs0⟩ := List.exists_mem_of_ne_nil _ hne
  have hin : ∀ st, st ∈ truthsR parts looks wrong → stM st ∈ truthsL parts looks wrong := fun st h => ((mem_truthsR hp st).1 h).2
  have hpos : 0 < (truthsR parts looks wrong).length := List.length_pos_iff.2 (fun e => hne ((truthsR_nil hp).1 e))
  rcases verdict_cases _ p q hq with ⟨h1, h2⟩ | ⟨h1, _, h2⟩ | ⟨h1, ⟨s, hs, h2⟩, t, ht, h3⟩
  · have : (truthsR parts looks wrong).countP qb = (truthsR parts looks wrong).length := List.countP_eq_length.2 (fun st h => by rw [hb st h]; exact h2 _ (hin st h))
    rw [h1, this, if_pos rfl]
  · have : (truthsR parts looks wrong).countP qb = 0 := List.countP_eq_zero.2 (fun st h => by rw [hb st h, h2 _ (hin st h)]; simp)
    rw [h1, this, if_neg (by omega)]; rfl
  · obtain ⟨st, hst, rfl⟩ := truthsR_of hp hs
    obtain ⟨tt, htt, rfl⟩ := truthsR_of hp ht
    have ha : (truthsR parts looks wrong).countP qb ≠ (truthsR parts looks wrong).length := fun e => by have := List.countP_eq_length.1 e tt htt; rw [hb tt htt, h3] at this; cases this
    have hb0 : (truthsR parts looks wrong).countP qb ≠ 0 := fun e => by have := List.countP_eq_zero.1 e st hst; rw [hb st hst] at this; exact this h2
    rw [h1, if_neg (by omega), if_neg (by omega)]
section
variable (parts : List S50) (swap : Int) (looks : List S61) (wrong : Int) (needs : List Int)
end
end Go.Proofs.Ytkkmfcdikkiodaa.PC4
namespace Go.Proofs.YtkkmfcdikkiodaaW.PrintWords
open Go.ChangeShapes Go.WideShapes
theorem sized_ints {H : Type} {enc : TypeId × Value → H} {P : Program} {W : World} {base : Nat} {spare : Nat → Bool} {held : Bool} {t e : TypeId} {k : IntKind} {a : Option Addr} {len cap : Nat} {d : DataW H} {ps : List MemPlace} {ts : List TypeId} {ds : List (DataW H)} {j : Nat}
    (hsz : (DataW.weightsEach P ts ds).all (· ≤ reachBytes) = true) (ht : ts[j]? = some t) (hd : ds[j]? = some d) (hu : P.underlying t = some (.slice e)) (he : P.underlying e = some (.int k)) (hc : P.cellsOf e = 1) {B : Nat} (hB : P.bytesOf e = B)
    (h : DataW.Trod enc P W base spare held t (.slice a len cap) d ps) : len * B ≤ 140737488351232 := by
  obtain ⟨fuel, hf⟩ := h
  rcases open_ints hu he hc hf with ⟨hcs, _⟩ | ⟨x, l, c, zs, hcs, _, hl, _, hz, hx, _, _⟩
  · simp [Value.cells] at hcs
    obtain ⟨rfl, rfl, rfl⟩ := hcs
    simp
  · simp [Value.cells] at hcs
    obtain ⟨rfl, rfl, rfl⟩ := hcs
    obtain ⟨hx, _⟩ := Prod.mk.inj hx
    subst hx
    have z := sized_slice hsz ht hd hu
    rw [hB] at z
    have hl2 : len ≤ zs.length := by
      rw [hz]
      split
      · exact hl
      · exact Nat.le_refl _
    have h1 : (lits (H := H) k (zs.take len)).length + (lits (H := H) k (zs.drop len)).length = zs.length := by
      simp [lits]
      omega
    rw [h1] at z
    exact Nat.le_trans (Nat.mul_le_mul_right _ hl2) z
end Go.Proofs.YtkkmfcdikkiodaaW.PrintWords
namespace Go.Proofs.Ytkkmfcdikkiodaa.PC4
set_option linter.unusedVariables false
set_option linter.unusedSimpArgs false
open Go.RowKit Go.ChangeShapes Go.WideShapes Go.Deep Go.Joins Go.Proofs.YtkkmfcdikkiodaaW.PrintWords Go.Proofs.YtkkmfcdikkiodaaW.PrintLast Go.Proofs.YtkkmfcdikkiodaaW.PrintMore
section
variable {H : Type} {enc : TypeId × Value → H} {P : Program} {w : World} {base : Nat} {spare : Nat → Bool} {held : Bool}
def Opens {α : Type} (P : Program) (enc : TypeId × Value → H) (w : World) (base : Nat) (spare : Nat → Bool) (held : Bool) (t : TypeId) (d : Kd α) : Prop :=
  ∀ (fuel : Nat) (cs : List Value) (x : DataW H × List MemPlace), DataW.trod enc P w base spare held fuel t cs = some x → ∃ v, d.K w v cs
theorem opens_int {k : IntKind} {t : TypeId} (ht : P.underlying t = some (.int k)) : Opens P enc w base spare held t (Kd.int k) := by
  intro fuel cs x h
  obtain ⟨n, rfl, _⟩ := DataW.trod_int ht h
  exact ⟨n, rfl⟩
theorem opens_bool {t : TypeId} (ht : P.underlying t = some .bool) : Opens P enc w base spare held t Kd.bool := by
  intro fuel cs x h
  obtain ⟨n, rfl, _⟩ := DataW.trod_bool ht h
  exact ⟨n, rfl⟩
theorem open_row {α : Type} {d : Kd α} {t e : TypeId} (ht : P.underlying t = some (.slice e)) (hs : P.cellsOf e = d.sz) (hd : Opens P enc w base spare held e d) {fuel : Nat} {cs : List Value} {x : DataW H × List MemPlace}
    (h : DataW.trod enc P w base spare held fuel t cs = some x) : ∃ (A : Option Addr) (c : Nat) (xs : List α), cs = [.slice A xs.length c] ∧ xs.length ≤ c ∧ c ≤ maxLen ∧ d.C w A xs.length xs := by
  rcases open_slice ht h with ⟨rfl, _⟩ | ⟨a, len, cap, m, n, D, Pl, rfl, hb, hl, hm, hmm, hx, hi⟩
  · exact ⟨none, 0, [], rfl, Nat.le_refl _, Nat.zero_le _, rfl, by simp, fun h => absurd h (by simp)⟩
  · have hel : ∀ i, i < len → ∃ v cs', d.K w v cs' ∧ cs'.length = d.sz ∧ ∀ j u, cs'[j]? = some u → w.cell? (a.add (i * d.sz + j)) = some u := by
      intro i hil
      obtain ⟨cs', hc, ht'⟩ := hi i (by rw [hmm]; split <;> omega)
      obtain ⟨v, hv⟩ := hd _ _ _ ht'
      obtain ⟨_, hcl, hat⟩ := World.cells?_some hc
      refine ⟨v, cs', hv, by rw [hcl, hs], fun j u hj => ?_⟩
      have hjl : j < cs'.length := by
        refine Classical.byContradiction fun hn => ?_
        rw [List.getElem?_eq_none (by omega)] at hj
        cases hj
      have := hat j (by omega)
      rw [hj, Go.Deep.add_add, hs] at this
      exact this
    have hrow : ∀ k, k ≤ len → ∃ xs : List α, xs.length = k ∧ ∀ j p, xs[j]? = some p → ∃ c, c.length = d.sz ∧ d.K w p c ∧ ∀ i u, c[i]? = some u → w.cell? (a.add (j * d.sz + i)) = some u := by
      intro k
      induction k with
      | zero => intro _; exact ⟨[], rfl, fun j p hj => by simp at hj⟩
      | succ k ih =>
        intro hk
        obtain ⟨xs, hxl, hxs⟩ := ih (by omega)
        obtain ⟨v, cs', hv, hcl, hat⟩ := hel k (by omega)
        refine ⟨xs ++ [v], by simp [hxl], fun j p hj => ?_⟩
        by_cases hjk : j < xs.length
        · rw [List.getElem?_append_left hjk] at hj
          exact hxs j p hj
        · rw [List.getElem?_append_right (by omega)] at hj
          have : j - xs.length = 0 := by
            refine Classical.byContradiction fun hn => ?_
            rw [List.getElem?_eq_none (by simp; omega)] at hj
            cases hj
          rw [this] at hj
          obtain rfl := Option.some.inj hj
          obtain rfl : j = k := by omega
          exact ⟨cs', hcl, hv, hat⟩
    obtain ⟨xs, hxl, hxs⟩ := hrow len (Nat.le_refl _)
    refine ⟨some a, cap, xs, by rw [hxl], by omega, hm, rfl, ?_, fun _ => ⟨a, rfl, hxs⟩⟩
    unfold maxLen at hm
    omega
theorem opens_slice {α : Type} {d : Kd α} {t e : TypeId} (ht : P.underlying t = some (.slice e)) (hs : P.cellsOf e = d.sz) (hd : Opens P enc w base spare held e d) : Opens P enc w base spare held t (Kd.slice e d) := by
  intro fuel cs x h
  obtain ⟨A, c, xs, rfl, hl, _, hC⟩ := open_row ht hs hd h
  exact ⟨xs, A, c, rfl, hl, hC⟩
theorem opens_struct {t : TypeId} {fs : Array Field} (ht : P.underlying t = some (.struct fs)) {α : Type} (d : Kd α)
    (h : ∀ (cs : List Value), cs.length = P.cellsOf t → (∀ (i : Nat) (f : Field), fs[i]? = some f → ∃ (n : Nat) (y : DataW H × List MemPlace), DataW.trod enc P w base spare held n f.type ((cs.drop f.offset).take (P.cellsOf f.type)) = some y) → ∃ v, d.K w v cs) : Opens P enc w base spare held t d := by
  intro fuel cs x hx
  obtain ⟨ys, n, _, _, hl, hyl, hf⟩ := DataW.trod_struct ht hx
  refine h cs hl (fun i f hi => ?_)
  have hil : i < fs.size := (Array.getElem?_eq_some_iff.1 hi).1
  have := hf i f hi
  rw [List.getElem?_eq_getElem (by omega)] at this
  exact ⟨n, _, this⟩
end
theorem four_cells {cs : List Value} (h : cs.length = 4) : ∃ a b c d, cs = [a, b, c, d] := by
  match cs, h with
  | [a, b, c, d], _ => exact ⟨a, b, c, d, rfl⟩
theorem two_cells {cs : List Value} (h : cs.length = 2) : ∃ a b, cs = [a, b] := by
  match cs, h with
  | [a, b], _ => exact ⟨a, b, rfl⟩
section
variable {H : Type} {enc : TypeId × Value → H} {w : World} {base : Nat} {spare : Nat → Bool} {held : Bool}
set_option maxRecDepth 100000 in
theorem opens50 : Opens Try.prog enc w base spare held 50 k50 := by
  refine opens_struct Try.underlying50 k50 (fun cs hl hf => ?_)
  obtain ⟨a, b, c, d, rfl⟩ := four_cells (hl.trans (by kernel_rfl))
  obtain ⟨_, _, h0⟩ := hf 0 _ rfl
  obtain ⟨_, _, h1⟩ := hf 1 _ rfl
  obtain ⟨_, _, h2⟩ := hf 2 _ rfl
  obtain ⟨_, _, h3⟩ := hf 3 _ rfl
  obtain ⟨v0, e0⟩ := opens_slice (d := Kd.int .i64) (e := 3) Try.underlying24 (by kernel_rfl) (opens_int Try.underlying3) _ _ _ h0
  obtain ⟨v1, e1⟩ := opens_bool Try.underlying4 _ _ _ h1
  obtain ⟨v2, e2⟩ := opens_int Try.underlying3 _ _ _ h2
  obtain ⟨v3, e3⟩ := opens_int Try.underlying3 _ _ _ h3
  refine ⟨⟨v0, v1, v2, v3⟩, [a], [b, c, d], rfl, ?_, [b], [c, d], rfl, ?_, [c], [d], rfl, ?_, ?_⟩
  · exact e0
  · exact e1
  · exact e2
  · exact e3
set_option maxRecDepth 100000 in
theorem opens61 : Opens Try.prog enc w base spare held 61 k61 := by
  refine opens_struct Try.underlying61 k61 (fun cs hl hf => ?_)
  obtain ⟨a, b, rfl⟩ := two_cells (hl.trans (by kernel_rfl))
  obtain ⟨_, _, h0⟩ := hf 0 _ rfl
  obtain ⟨_, _, h1⟩ := hf 1 _ rfl
  obtain ⟨v0, e0⟩ := opens_int Try.underlying3 _ _ _ h0
  obtain ⟨v1, e1⟩ := opens_bool Try.underlying4 _ _ _ h1
  exact ⟨⟨v0, v1⟩, [a], [b], rfl, e0, e1⟩
set_option maxRecDepth 100000 in
theorem open_car {b0 : Nat} {r : Reach} {v : Value} {d : DataW H} {p : List MemPlace} (hv : Value.okWide Try.prog w r b0 26 v) (h : DataW.Trod enc Try.prog w base spare held 26 v d p) :
    ∃ (A0 : Option Addr) (c0 : Nat) (parts : List S50) (swap : Int) (A2 : Option Addr) (c2 : Nat) (looks : List S61) (wrong : Int) (A4 : Option Addr) (c4 : Nat) (needs : List Int),
      v = .agg #[.slice A0 parts.length c0, .int .i64 swap, .slice A2 looks.length c2, .int .i64 wrong, .slice A4 needs.length c4] ∧ Kd.C k50 w A0 parts.length parts ∧ parts.length ≤ c0 ∧ Kd.C k61 w A2 looks.length looks ∧ looks.length ≤ c2 ∧ Kd.C (Kd.int .i64) w A4 needs.length needs ∧ needs.length ≤ c4 := by
  obtain ⟨cs, rfl, hsz⟩ := okWide_struct Try.underlying26 hv
  obtain ⟨l⟩ := cs
  match l, hsz.trans (show Try.prog.cellsOf 26 = 5 by kernel_rfl) with
  | [x0, x1, x2, x3, x4], _ =>
    obtain ⟨fuel, hf⟩ := h
    obtain ⟨ys, n, _, _, _, hyl, hg⟩ := DataW.trod_struct Try.underlying26 hf
    obtain ⟨A0, c0, parts, e0, h0, _, C0⟩ := open_row (d := k50) (e := 50) Try.underlying22 (by kernel_rfl) opens50 ((hg 0 _ rfl).trans (List.getElem?_eq_getElem (by rw [hyl]; decide)))
    obtain ⟨swap, e1⟩ := opens_int Try.underlying3 _ _ _ ((hg 1 _ rfl).trans (List.getElem?_eq_getElem (by rw [hyl]; decide)))
    obtain ⟨A2, c2, looks, e2, h2, _, C2⟩ := open_row (d := k61) (e := 61) Try.underlying23 (by kernel_rfl) opens61 ((hg 2 _ rfl).trans (List.getElem?_eq_getElem (by rw [hyl]; decide)))
    obtain ⟨wrong, e3⟩ := opens_int Try.underlying3 _ _ _ ((hg 3 _ rfl).trans (List.getElem?_eq_getElem (by rw [hyl]; decide)))
    obtain ⟨A4, c4, needs, e4, h4, _, C4⟩ := open_row (d := Kd.int .i64) (e := 3) Try.underlying24 (by kernel_rfl) (opens_int Try.underlying3) ((hg 4 _ rfl).trans (List.getElem?_eq_getElem (by rw [hyl]; decide)))
    refine ⟨A0, c0, parts, swap, A2, c2, looks, wrong, A4, c4, needs, ?_, C0, h0, C2, h2, C4, h4⟩
    have q0 : x0 = _ := List.singleton_inj.1 (e0 : [x0] = _)
    have q1 : x1 = _ := List.singleton_inj.1 (e1 : [x1] = _)
    have q2 : x2 = _ := List.singleton_inj.1 (e2 : [x2] = _)
    have q3 : x3 = _ := List.singleton_inj.1 (e3 : [x3] = _)
    have q4 : x4 = _ := List.singleton_inj.1 (e4 : [x4] = _)
    rw [q0, q1, q2, q3, q4]
end
end Go.Proofs.Ytkkmfcdikkiodaa.PC4
namespace Go.Proofs.Ytkkmfcdikkiodaa.PC4
set_option linter.unusedVariables false
set_option linter.unusedSimpArgs false
open Go.RowKit Go.WideShapes Go.ChangeShapes Go.ChangeAt Go.Proofs.YtkkmfcdikkiodaaW.PrintWords Go.Proofs.YtkkmfcdikkiodaaW.PrintLast
theorem equal_self (l : List Int) (h : l.length ≤ 1000000) : ∃ k, swarfkit_EqualInts.f k l l = some true := by
  have he := equal_ev l l (by omega) (by omega)
  rw [decide_eq_true rfl] at he
  exact he.rounds
theorem sameOK_of (x : CarV) (hs : Small x.parts x.looks x.needs) : SameOK x :=
  ⟨by have := hs.p; omega, by have := hs.l; omega, equal_self _ (by have := hs.n; omega), fun p hp => equal_self _ (by have := hs.b p hp; omega)⟩
theorem CarGood.small {a1 a2 : Int} {parts : List S50} {swap : Int} {looks : List S61} {wrong : Int} {needs : List Int} {st : List Bool} (h : CarGood a1 a2 parts swap looks wrong needs st) (h9 : a1 ≤ 9) (h12 : a2 ≤ 12) : Small parts looks needs :=
  ⟨by have := h.few; omega, by have := h.ll; omega, by have := h.nl; omega, fun q hq => by
    obtain ⟨i, hi, rfl⟩ := List.getElem_of_mem hq
    have := (h.p.ok i hi).len
    rw [getD_get _ _ _ hi] at this
    have := h.few
    omega⟩
set_option maxRecDepth 100000 in
theorem open_car1 {H : Type} {enc : TypeId × Value → H} {w : World} {base : Nat} {spare : Nat → Bool} {held : Bool} {b0 : Nat} {r : Reach} {v : Value} {d : DataW H} {p : List MemPlace} (hv : Value.okWide Try.prog w r b0 26 v) (h : DataW.Trod enc Try.prog w base spare held 26 v d p) :
    ∃ x : CarV, v = .agg #[.slice x.A0 x.parts.length x.c0, .int .i64 x.swap, .slice x.A2 x.looks.length x.c2, .int .i64 x.wrong, .slice x.A4 x.needs.length x.c4] ∧ x.Ok w := by
  obtain ⟨A0, c0, parts, swap, A2, c2, looks, wrong, A4, c4, needs, rfl, h0, h1, h2, h3, h4, h5⟩ := open_car hv h
  exact ⟨⟨A0, c0, parts, swap, A2, c2, looks, wrong, A4, c4, needs⟩, rfl, h0, h1, h2, h3, h4, h5⟩
end Go.Proofs.Ytkkmfcdikkiodaa.PC4
namespace Go.Proofs.Ytkkmfcdikkiodaa.PC4
set_option linter.unusedVariables false
set_option linter.unusedSimpArgs false
open Go.RowKit Go.Proofs.YtkkmfcdikkiodaaW.PrintWords Go.Proofs.YtkkmfcdikkiodaaW.PrintLast Go.Proofs.YtkkmfcdikkiodaaW.PrintMore
section
variable (parts : List S50) (swap : Int) (looks : List S61) (wrong : Int) (needs : List Int)
theorem refClean_ev (hs : Small parts looks needs) : Ev (fun K => swarfref04_Clean.f K parts swap looks wrong needs) (cleanE parts swap looks wrong needs) := by
  unfold swarfref04_Clean.f
  refine Ev.bind (known_ev parts swap looks wrong needs hs) ?_
  unfold knownR cleanE
  by_cases h0 : checkE parts swap looks wrong needs = 0
  · obtain ⟨v1, v2, v3, v4, v5, v6⟩ := valid_parts parts swap looks wrong needs h0
    have hp : ∀ i, i < parts.length → PartOK i (parts.getD i z50) := fun i hi => (v4 i hi).2
    simp only [h0, if_true]
    by_cases ht : truthsL parts looks wrong = []
    · have ht2 := (truthsR_nil hp).2 ht
      simp only [ht, ht2, if_true]
      simp only [show ¬ (9 : Int) = 0 by decide, if_false]
      exact Ev.now _
    · have ht2 : ¬ truthsR parts looks wrong = [] := fun e => ht ((truthsR_nil hp).1 e)
      simp only [ht, ht2, if_false, if_true]
      have hbits : ∀ s, s ∈ truthsL parts looks wrong → s < 65536 := fun s h => by have h1 := ((mem_truths s).1 h).1; have h2 := pow_le_512 v1; omega
      have hv := ref_verdict hp ht (rawAll (badMask parts : Nat)) (fun s => subM (badMask parts) s) (fun s h => rawAll_eq s _ (hbits s h) (bad_lt parts (by omega))) (fun st => subM (badMask parts) (stM st)) (fun st _ => rfl)
      have htl := truthsR_len parts looks wrong v1
      have gen : ∀ (d k : Nat), k + d = (truthsR parts looks wrong).length → Ev (fun K => swarfref04_Clean.l0 K (truthsR parts looks wrong) ((((truthsR parts looks wrong).take k).countP fun st => subM (badMask parts) (stM st) : Nat) : Int) (k : Int) parts swap looks wrong needs) (verdictS (setsI (truthsL parts looks wrong)) (rawAll (badMask parts : Nat)), 0) := by
        intro d
        induction d with
        | zero =>
          intro k hk
          rw [List.take_of_length_le (by omega)]
          refine Ev.succ ?_
          simp (disch := omega) only [swarfref04_Clean.l0, if_neg]
          refine Ev.take hv ?_
          exact Ev.now _
        | succ d ih =>
          intro k hk
          have hk2 : k < (truthsR parts looks wrong).length := by omega
          have ihk := ih (k + 1) (by omega)
          rw [List.take_succ_eq_append_getElem hk2, List.countP_append, List.countP_singleton, ← getD_get _ _ [] hk2] at ihk
          have hmem := (mem_truthsR hp _).1 (getD_mem (truthsR parts looks wrong) k [] hk2)
          have hc : (((truthsR parts looks wrong).take k).countP fun st => subM (badMask parts) (stM st)) ≤ ((truthsR parts looks wrong).take k).length := List.countP_le_length
          have htk : ((truthsR parts looks wrong).take k).length ≤ k := List.length_take_le _ _
          refine Ev.succ ?_
          simp (disch := omega) only [swarfref04_Clean.l0, if_pos, rdL, wrapS]
          refine Ev.bind (isClean_ev parts swap looks wrong needs _ hmem.1 (by omega)) ?_
          cases hb : subM (badMask parts) (stM ((truthsR parts looks wrong).getD k [])) with
          | false =>
            rw [hb] at ihk
            simp only [Bool.false_eq_true, if_false, Nat.add_zero] at ihk ⊢
            exact ihk
          | true =>
            rw [hb] at ihk
            simp only [if_true] at ihk ⊢
            exact ihk
      exact gen _ 0 (Nat.zero_add _)
  · simp only [h0, if_false]
    exact Ev.now _
end
section
variable (parts : List S50) (swap : Int) (looks : List S61) (wrong : Int) (needs : List Int)
def crushR : Int := if (cleanE parts swap looks wrong needs).2 = 0 then (if (cleanE parts swap looks wrong needs).1 = 1 then 0 else 15) else (cleanE parts swap looks wrong needs).2
theorem crush_l0 (hs : Small parts looks needs) (papers : List Int) (hpl : papers.length ≤ 100000) (d : Nat) : ∀ k : Nat, k + d = needs.length →
    Ev (fun K => swarfref04_Crush.l0 K papers (k : Int) parts swap looks wrong needs) (if (needs.drop k).any (needB papers) then 14 else crushR parts swap looks wrong needs) := by
  have h3 := hs.n
  induction d with
  | zero =>
    intro k hk
    rw [List.drop_of_length_le (by omega)]
    refine Ev.succ ?_
    simp (disch := omega) only [swarfref04_Crush.l0, if_neg]
    refine Ev.bind (refClean_ev parts swap looks wrong needs hs) ?_
    unfold crushR
    simp only [List.any_nil, Bool.false_eq_true, if_false]
    split
    · split
      · exact Ev.now _
      · exact Ev.now _
    · exact Ev.now _
  | succ d ih =>
    intro k hk
    have hk2 : k < needs.length := by omega
    have ihk := ih (k + 1) (by omega)
    rw [List.drop_eq_getElem_cons hk2, ← getD_get needs k 0 hk2, List.any_cons]
    have hh := has_ev papers hpl (rd needs (k : Int))
    have e : rd needs (k : Int) = needs.getD k 0 := by simp [rd]
    rw [e] at hh
    refine Ev.succ ?_
    simp (disch := omega) only [swarfref04_Crush.l0, if_pos, wrapS, e]
    refine Ev.bind hh ?_
    have hn : needB papers (needs.getD k 0) = !(papers.any fun y => y == needs.getD k 0) := rfl
    rw [hn]
    cases (papers.any fun y => y == needs.getD k 0) with
    | false =>
      simp only [Bool.not_false, Bool.true_or, Bool.false_eq_true, if_true, if_false]
      exact Ev.now _
    | true =>
      simp only [Bool.not_true, Bool.false_or, if_true]
      exact ihk
theorem refCrush_ev (hs : Small parts looks needs) (papers : List Int) (hpl : papers.length ≤ 100000) : Ev (fun K => swarfref04_Crush.f K parts swap looks wrong needs papers) (crushE parts swap looks wrong needs papers) := by
  have h1 := hs.p
  have h2 := hs.l
  have h3 := hs.n
  unfold swarfref04_Crush.f crushE
  refine Ev.bind (refCheck_ev parts swap looks wrong needs (by omega) (fun q hq => by have := hs.b q hq; omega) (by omega) (by omega)) ?_
  by_cases h0 : checkE parts swap looks wrong needs = 0
  · simp only [h0, if_true]
    have := crush_l0 parts swap looks wrong needs hs papers hpl needs.length 0 (by omega)
    rw [List.drop_zero] at this
    exact this
  · simp only [h0, if_false]
    exact Ev.now _
end
end Go.Proofs.Ytkkmfcdikkiodaa.PC4
namespace Go.Proofs.Ytkkmfcdikkiodaa.PC4
set_option linter.unusedVariables false
set_option linter.unusedSimpArgs false
open Go.RowKit Go.Proofs.YtkkmfcdikkiodaaW.PrintWords Go.Proofs.YtkkmfcdikkiodaaW.PrintLast
theorem crushEq_of (x : CarV) (l : List Int) (hs : Small x.parts x.looks x.needs) (hl : l.length ≤ 20) : CrushEq x l := by
  have h1 := hs.p
  have h2 := hs.l
  have h3 := hs.n
  refine ⟨(copyCar_ev x.parts x.swap x.looks x.wrong x.needs (by omega) (fun p hp => by have := hs.b p hp; omega) (by omega) (by omega)).rounds, ints_f l (by omega), ?_, sameOK_of x hs, equal_self l (by omega)⟩
  have hr := refCrush_ev x.parts x.swap x.looks x.wrong x.needs hs l (by omega)
  have hw : strip_Crush.f x.parts x.swap x.looks x.wrong x.needs l = some (crushE x.parts x.swap x.looks x.wrong x.needs l) := by unfold strip_Crush.f; rw [if_pos ⟨hs.fits, by omega⟩]
  exact ⟨_, hw, hr.rounds⟩
theorem healed_small (d : Nat) : ∀ (xs : List S50) (s : Int), (∀ q, q ∈ xs → q.f0.length ≤ 20) → (healed xs s d).1.length = xs.length ∧ ∀ q, q ∈ (healed xs s d).1 → q.f0.length ≤ 20 := by
  induction d with
  | zero => intro xs s h; exact ⟨rfl, h⟩
  | succ d ih =>
    intro xs s h
    have hset : ∀ (b : Bool) (k : Nat) (q : S50), q ∈ xs.set k (badTo b (xs.getD k z50)) → q.f0.length ≤ 20 := by
      intro b k q hq
      rcases Nat.lt_or_ge k xs.length with hk | hk
      · rcases List.mem_or_eq_of_mem_set hq with hq | hq
        · exact h q hq
        · rw [hq]
          show (xs.getD k z50).f0.length ≤ 20
          rw [getD_get _ _ _ hk]
          exact h _ (List.getElem_mem hk)
      · rw [List.set_eq_of_length_le hk] at hq
        exact h q hq
    simp only [healed]
    split
    · split
      · rename_i b s' _
        have := ih _ s' (hset b (xs.length - (d + 1)))
        rw [List.length_set] at this
        exact this
      · exact ih xs s h
    · have := ih _ s (hset false (xs.length - (d + 1)))
      rw [List.length_set] at this
      exact this
theorem orderC_l0 (d : Nat) : ∀ (i : Nat) (l : List Int) (s : Int), i + d = l.length → l.length ≤ 100000 → Res (fun K => swarfkit_Feed_Order.l0 K l (i : Int) s) (fun r => r.1.length = l.length) := by
  induction d with
  | zero =>
    intro i l s hi hl
    refine Res.succ ?_
    simp (disch := omega) only [swarfkit_Feed_Order.l0, if_neg]
    exact Res.now rfl
  | succ d ih =>
    intro i l s hi hl
    obtain ⟨r, s2, hb, h0, h1⟩ := below_ok s ((i + 1 : Nat) : Int) (by omega) (by omega)
    refine Res.succ ?_
    simp (disch := omega) only [swarfkit_Feed_Order.l0, if_pos, wrapS]
    refine Res.take hb ?_
    simp (disch := omega) only [if_pos, wrapS]
    refine (ih (i + 1) _ _ (by simp; omega) (by simpa using hl)).mono (fun q h => ?_)
    rw [h]; simp
theorem orderC_ok (s : Int) : Res (fun K => swarfkit_Feed_Order.f K s 9) (fun r => r.1.length = 9) := by
  have hm : mx 0 (9 : Int) = ((9 : Nat) : Int) := by unfold mx; omega
  unfold swarfkit_Feed_Order.f
  simp (disch := omega) only [hm, if_pos, Int.toNat_natCast]
  refine (orderC_l0 9 0 (List.replicate 9 0) s (by simp) (by simp)).mono (fun q h => ?_)
  rw [h]; simp
theorem stripCrushes_walk (x : CarV) (A1 : Option Addr) (c1 : Nat) (l1 : List Int) (A2 : Option Addr) (c2 : Nat) (l2 : List Int) (w : World) (hx : x.Ok w) (hr1 : Kd.C (Kd.int .i64) w A1 l1.length l1) (hc1 : l1.length ≤ c1) (hl1 : l1.length ≤ 140737488351232) (hr2 : Kd.C (Kd.int .i64) w A2 l2.length l2) (hc2 : l2.length ≤ c2) (hl2 : l2.length ≤ 140737488351232) :
    Calls Try.prog 10 #[.agg #[.slice x.A0 x.parts.length x.c0, .int .i64 x.swap, .slice x.A2 x.looks.length x.c2, .int .i64 x.wrong, .slice x.A4 x.needs.length x.c4], .slice A1 l1.length c1, .slice A2 l2.length c2] w fun e w' => e = .returned (.bool true) ∧ Below w.heap.size w w' := by
  obtain ⟨b, hhu, hsm⟩ := huge_ev x.parts x.swap x.looks x.wrong x.needs
  obtain ⟨ka, ha⟩ := awake_ev.rounds
  cases b with
  | true => exact crush_awake x A1 c1 l1 A2 c2 l2 w hx hhu.rounds (.inl rfl) ha
  | false =>
    by_cases h20 : l1.length ≤ 20
    case neg => exact crush_awake x A1 c1 l1 A2 c2 l2 w hx hhu.rounds (.inr ⟨rfl, by omega⟩) ha
    have hS := hsm rfl
    obtain ⟨r, hev, hg⟩ := carOf_ev (feedAll l2) 5 8 (by decide) (by decide) (by decide) (by decide)
    obtain ⟨parts, swap, looks, wrong, needs, st, s'⟩ := r
    have hG : CarGood 5 8 parts swap looks wrong needs st := hg
    have hSm := hG.small (by decide) (by decide)
    obtain ⟨kc, hcar⟩ := hev.rounds
    obtain ⟨km, hcm⟩ := (copyCar_ev parts swap looks wrong needs (by have := hSm.p; omega) (fun p hp => by have := hSm.b p hp; omega) (by have := hSm.l; omega) (by have := hSm.n; omega)).rounds
    have hfeed : swarfkit_FeedOf.f l2 = some (feedAll l2) := by unfold swarfkit_FeedOf.f; rw [if_pos hl2]
    obtain ⟨hh1, hh2⟩ := healed_small parts.length parts s' hSm.b
    obtain ⟨⟨lo, s3⟩, hlo, hlo9⟩ := orderC_ok (healed parts s' parts.length).2
    have hlo9 : lo.length = 9 := hlo9
    obtain ⟨ko, hord⟩ := hlo.rounds
    have hCl : Small (healed parts s' parts.length).1 looks needs := ⟨by rw [hh1]; exact hSm.p, hSm.l, hSm.n, hh2⟩
    exact crush_walk x A1 c1 l1 A2 c2 l2 w hx hr1 hc1 h20 hr2 hc2 hhu.rounds hfeed hcar hcm (by have := hSm.p; omega) (fun s => often_ok s 1 3 (by decide) (by decide)) rfl hord
      (crushEq_of x l1 hS h20) (fun m0 d0 m2 d2 m4 d4 => crushEq_of _ lo hSm (by omega)) (fun m0 d0 m2 d2 m4 d4 => crushEq_of _ needs hCl hSm.n) (fun m0 d0 m2 d2 m4 d4 => crushEq_of _ l1 hSm h20) ha
end Go.Proofs.Ytkkmfcdikkiodaa.PC4
namespace Go.Proofs.Ytkkmfcdikkiodaa.stripCrushes
open Go.ChangeShapes Go.WideShapes Go.ChangeAt Go.RowKit Go.Proofs.Ytkkmfcdikkiodaa Go.Proofs.YtkkmfcdikkiodaaW
open Go.ChangeMaps (open_string shut_string)
set_option linter.unusedVariables false
theorem own : ownKnob Try.prog.godebug = none := by kernel_rfl
theorem laidOut : laidOutB Try.prog = true := by kernel_rfl
set_option maxRecDepth 100000 in
theorem lifted (os : Os) (started : os.Started) (H : Type) (enc : TypeId × Value → H) :
    ReturnsInHanded {} Try.checked os 10 .any (Rows.stripCrushesSpec.pre6 enc Try.prog Try.f10 Rows.stripCrushesRow.domain false) (Rows.stripCrushesSpec.post enc Try.prog Try.f10 false true false false) := by
  refine returnsInHanded_of_change_sized (C := Try.checked) own started (by kernel_rfl) Try.func10
    (ChangeSpec.witness6 (enc := enc) (C := Try.checked) false ⟨#[], #[.agg #[.slice none 0 0, .int .i64 0, .slice none 0 0, .int .i64 0, .slice none 0 0], .slice none 0 0, .slice none 0 0], []⟩ 8 (by kernel_rfl) (by kernel_rfl) (by kernel_rfl) (by kernel_rfl)) ?_
  intro W base args ds gs before hval0 hW hcnd hsz0 _
  have hsz : (DataW.weightsEach Try.prog (Try.f10.params.toList ++ Rows.stripCrushesSpec.plain.varTypes Try.prog) (ds ++ gs)).all (· ≤ reachBytes) = true := hsz0
  have hval : ∀ (j : Nat) t v, Try.f10.params[j]? = some t → args[j]? = some v → Value.okWide Try.prog W .any base t v := hval0
  have hW' := hW
  obtain ⟨p, q, hA0, hV, rfl, hfz, hnd⟩ := hW
  have hA : DataW.TrodAll enc Try.prog W 0 (fun _ => true) true Try.f10.params.toList args.toList ds p := hA0
  rw [Try.params10] at hA hval hsz
  obtain ⟨v0, vs0, d0, ds0, p0, q0, hargs, rfl, rfl, h0, r0⟩ := trodAll_cons hA
  obtain ⟨v1, vs1, d1, ds1, p1, q1, rfl, rfl, rfl, h1, r1⟩ := trodAll_cons r0
  obtain ⟨v2, vs2, d2, ds2, p2, q2, rfl, rfl, rfl, h2, r2⟩ := trodAll_cons r1
  obtain ⟨rfl, rfl, rfl⟩ := trodAll_nil r2
  obtain rfl : args = #[v0, v1, v2] := by cases args; simp_all
  obtain ⟨rfl, rfl⟩ := trodVars_none hV
  have k0 := h0
  have lt0 : ∀ x ∈ p0, x.block < W.heap.size := by obtain ⟨m, hm⟩ := k0; exact DataW.trod_lt m _ _ _ hm
  obtain ⟨x0, rfl, hx0⟩ := PC4.open_car1 (hval 0 26 v0 rfl rfl) h0
  obtain ⟨a1, len1, cap1, rfl⟩ := okWide_slice Try.underlying24 (hval 1 24 v1 rfl rfl)
  have k1 := h1
  have lt1 : ∀ x ∈ p1, x.block < W.heap.size := by obtain ⟨m, hm⟩ := k1; exact DataW.trod_lt m _ _ _ hm
  have y1 : len1 * 8 ≤ 140737488351232 := Go.Proofs.YtkkmfcdikkiodaaW.PrintWords.sized_ints hsz (j := 1) (t := 24) rfl rfl Try.underlying24 Try.underlying3 (by kernel_rfl) (by kernel_rfl) h1
  obtain ⟨A1, c1, l1, e1, hl1, _, hC1⟩ := (fun h => let ⟨_, hf⟩ := h; PC4.open_row (d := PrintWords.Kd.int .i64) (e := 3) Try.underlying24 (by kernel_rfl) (PC4.opens_int Try.underlying3) hf : _ → _) h1
  have f1 : [Value.slice a1 len1 cap1] = [Value.slice A1 l1.length c1] := e1
  injection f1 with f1 _
  injection f1 with f1 g1 k_1
  subst f1; subst g1; subst k_1
  obtain ⟨a2, len2, cap2, rfl⟩ := okWide_slice Try.underlying24 (hval 2 24 v2 rfl rfl)
  have k2 := h2
  have lt2 : ∀ x ∈ p2, x.block < W.heap.size := by obtain ⟨m, hm⟩ := k2; exact DataW.trod_lt m _ _ _ hm
  have y2 : len2 * 8 ≤ 140737488351232 := Go.Proofs.YtkkmfcdikkiodaaW.PrintWords.sized_ints hsz (j := 2) (t := 24) rfl rfl Try.underlying24 Try.underlying3 (by kernel_rfl) (by kernel_rfl) h2
  obtain ⟨A2, c2, l2, e2, hl2, _, hC2⟩ := (fun h => let ⟨_, hf⟩ := h; PC4.open_row (d := PrintWords.Kd.int .i64) (e := 3) Try.underlying24 (by kernel_rfl) (PC4.opens_int Try.underlying3) hf : _ → _) h2
  have f2 : [Value.slice a2 len2 cap2] = [Value.slice A2 l2.length c2] := e2
  injection f2 with f2 _
  injection f2 with f2 g2 k_2
  subst f2; subst g2; subst k_2
  clear hA0 hval0 hsz0 hsz
  refine (PC4.stripCrushes_walk x0 a1 cap1 l1 a2 cap2 l2 W hx0 hC1 hl1 (by omega) hC2 hl2 (by omega)).mono fun e W' ⟨he, bel⟩ => ?_
  subst he
  exact ⟨_, rfl, _, _, _, [], _, [], hW', trodAll_mk1 (shut_bool Try.underlying4 _), (trodAll_cons_mk (Below.trod laidOut (by kernel_rfl) (of_decide_eq_true (by kernel_rfl)) k0 bel lt0) (trodAll_cons_mk (Below.trod laidOut (by kernel_rfl) (of_decide_eq_true (by kernel_rfl)) k1 bel lt1) (trodAll_cons_mk (Below.trod laidOut (by kernel_rfl) (of_decide_eq_true (by kernel_rfl)) k2 bel lt2) trodAll_mk0))), rfl, bel.frame _, fun h => by cases h⟩
theorem over : Rows.stripCrushesRow.holds Try.pinned (OpenSpec.ofChange Rows.stripCrushesSpec) :=
  OpenClaim.holds_of_wide 10 Try.f10 rfl rfl rfl rfl rfl rfl rfl ⟨rfl, rfl, rfl, rfl, rfl⟩ rfl rfl rfl rfl rfl (by kernel_rfl) Try.func10 (by kernel_rfl)
    (of_decide_eq_true (by kernel_rfl)) (by unfold Func.isWrapper; first | (rw [if_pos (by decide +kernel)]; kernel_rfl) | (rw [if_neg (by decide +kernel)]; exact ⟨rfl, rfl⟩))
    (fun os started H enc _ => lifted os started H enc)
theorem proved : Rows.StripCrushesSaid := over
#print axioms proved
end Go.Proofs.Ytkkmfcdikkiodaa.stripCrushes
namespace Go.Proofs.Ytkkmfcdikkiodaa
theorem stripCrushes_holds : Rows.StripCrushesSaid := stripCrushes.proved
end Go.Proofs.Ytkkmfcdikkiodaa
