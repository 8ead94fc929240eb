/- Lemmas on the way to this: Crush says what the reference says, for every car, every list of papers and every list of numbers. -/
import Derived.Test.YtkkmfcdikkiodaaCStripCrushes1
import Derived.RangeFuncNested
import Derived.RangeFuncBound
import Derived.RangeFuncCalls
import Derived.RangeFuncLeaves
import Derived.Shelf.Abstract
import Derived.Shelf.RegionOpen
import Derived.OwnWalkIn
import Derived.TacticsInMore
import Derived.LoopNIn
import Derived.LoopIn
import Derived.Deep.DeepCutAuto
import Derived.Deep.LoopGhost
import Derived.WalkMore
import Derived.RangeFuncBox
import Derived.Maps.AppendAt
import Derived.Laws.EntriesVeiled
import Derived.Deep.RegionWith
import Derived.Maps.Own
import Derived.Maps.OwnOps
import Derived.Maps.OwnSet
import Derived.Maps.Views
import Derived.DeepKeys4
import Derived.Deep.RegionLaw
import Derived.Deep.AppendLies
import Derived.BigRegion
import Derived.RegionTactic
import Derived.ChangeAlike
namespace Go.Proofs.Ytkkmfcdikkiodaa.PC4
set_option linter.unusedVariables false
open Go.RowKit Go.Proofs.YtkkmfcdikkiodaaW.PrintWords Go.Proofs.YtkkmfcdikkiodaaW.PrintLast Go.Proofs.YtkkmfcdikkiodaaW.PrintMore
def strip_Check.f (l0_0 : List (S50)) (a0_1 : Int) (l0_2 : List (S61)) (a0_3 : Int) (l0_4 : List Int) : Option (Int) :=
  if carFits l0_0 l0_2 l0_4 then some (checkE l0_0 a0_1 l0_2 a0_3 l0_4) else none
theorem partsE_cons (i : Int) (p : S50) (l : List S50) : partsE i (p :: l) = if riseE (i - 1) 3 p.f0 = 0 then (if inB p.f2 1 4 && inB p.f3 0 1000 then partsE (i + 1) l else 1) else riseE (i - 1) 3 p.f0 := rfl
set_option maxHeartbeats 8000000 in
set_option maxRecDepth 100000 in
theorem strip_Check.calls (A0_0 : Option Addr) (c0_0 : Nat) (l0_0 : List (S50)) (a0_1 : Int) (A0_2 : Option Addr) (c0_2 : Nat) (l0_2 : List (S61)) (a0_3 : Int) (A0_4 : Option Addr) (c0_4 : Nat) (l0_4 : List Int) (r : Int) (w : World) (hr0_0 : Kd.C k50 w A0_0 l0_0.length l0_0) (hc0_0 : l0_0.length ≤ c0_0) (hr0_2 : Kd.C k61 w A0_2 l0_2.length l0_2) (hc0_2 : l0_2.length ≤ c0_2) (hr0_4 : Kd.C (Kd.int .i64) w A0_4 l0_4.length l0_4) (hc0_4 : l0_4.length ≤ c0_4) (h : strip_Check.f l0_0 a0_1 l0_2 a0_3 l0_4 = some r) :
    Calls Try.prog 40 #[.agg #[.slice A0_0 l0_0.length c0_0, .int .i64 a0_1, .slice A0_2 l0_2.length c0_2, .int .i64 a0_3, .slice A0_4 l0_4.length c0_4]] w fun e w' => e = .returned (.int .i64 r) ∧ Below w.heap.size w w' := by
  unfold strip_Check.f at h
  by_cases hf : carFits l0_0 l0_2 l0_4
  case neg => rw [if_neg hf] at h; cases h
  rw [if_pos hf] at h
  obtain rfl := Option.some.inj h
  clear h
  obtain ⟨hl0, hl2, hl4, hlp⟩ := hf
  have HR0 := Aside0.mk hr0_0
  have HR2 := Aside0.mk hr0_2
  have HR4 := Aside0.mk hr0_4
  have HLP := Aside0.mk hlp
  clear hr0_0 hr0_2 hr0_4 hlp
  have hu26 := Try.underlying26
  have hu50 := Try.underlying50
  by_cases z0 : l0_0.length = 0
  · have e : checkE l0_0 a0_1 l0_2 a0_3 l0_4 = 7 := by rw [checkE, if_pos z0]
    rw [e]
    have zb : (((l0_0.length : Nat) : Int) == 0) = true := by rw [z0]; rfl
    clear e z0
    go_enter Try.func40, Try.ntmps40
    go_wp2_with ((with_reducible refine gate_dst (N := 1) rfl ?_); refine box_event ?hg (N := 1) ?hd (cs := #[.slice A0_0 l0_0.length c0_0, .int .i64 a0_1, .slice A0_2 l0_2.length c0_2, .int .i64 a0_3, .slice A0_4 l0_4.length c0_4]) (t := 26) ?hr ?_; (case hd => rfl); (case hg => rfl); (case hr => first | (go_simp; done) | (go_simp; rfl)); intro gb hg w2 hbox hb2; have hz0 := (blk_cell hbox 0).trans rfl; have hz1 := (blk_cell hbox 1).trans rfl; have hz2 := (blk_cell hbox 2).trans rfl; have hz3 := (blk_cell hbox 3).trans rfl; have hz4 := (blk_cell hbox 4).trans rfl; have BK := Aside0.mk hbox; have HB := Aside0.mk hb2; have HG := Aside0.mk hg; clear hg hbox hb2)
    go_ret
    exact ⟨rfl, HB.out⟩
  by_cases z9 : 9 < l0_0.length
  · have e : checkE l0_0 a0_1 l0_2 a0_3 l0_4 = 6 := by rw [checkE, if_neg z0, if_pos z9]
    rw [e]
    have zb : (((l0_0.length : Nat) : Int) == 0) = false := beq_eq_false_iff_ne.2 (by omega)
    clear e z0
    have zc : (9 : Int) < ((l0_0.length : Nat) : Int) := by omega
    go_enter Try.func40, Try.ntmps40
    go_wp2_with ((with_reducible refine gate_dst (N := 1) rfl ?_); refine box_event ?hg (N := 1) ?hd (cs := #[.slice A0_0 l0_0.length c0_0, .int .i64 a0_1, .slice A0_2 l0_2.length c0_2, .int .i64 a0_3, .slice A0_4 l0_4.length c0_4]) (t := 26) ?hr ?_; (case hd => rfl); (case hg => rfl); (case hr => first | (go_simp; done) | (go_simp; rfl)); intro gb hg w2 hbox hb2; have hz0 := (blk_cell hbox 0).trans rfl; have hz1 := (blk_cell hbox 1).trans rfl; have hz2 := (blk_cell hbox 2).trans rfl; have hz3 := (blk_cell hbox 3).trans rfl; have hz4 := (blk_cell hbox 4).trans rfl; have BK := Aside0.mk hbox; have HB := Aside0.mk hb2; have HG := Aside0.mk hg; clear hg hbox hb2)
    go_ret
    exact ⟨rfl, HB.out⟩
  have zb : (((l0_0.length : Nat) : Int) == 0) = false := beq_eq_false_iff_ne.2 (by omega)
  have zc : ¬ (9 : Int) < ((l0_0.length : Nat) : Int) := by omega
  have E := Aside0.mk (show checkE l0_0 a0_1 l0_2 a0_3 l0_4 = _ by rw [checkE, if_neg z0, if_neg z9])
  clear z0 z9
  generalize checkE l0_0 a0_1 l0_2 a0_3 l0_4 = res at *
  go_enter Try.func40, Try.ntmps40
  go_wp2_with ((with_reducible refine gate_dst (N := 1) rfl ?_); refine box_event ?hg (N := 1) ?hd (cs := #[.slice A0_0 l0_0.length c0_0, .int .i64 a0_1, .slice A0_2 l0_2.length c0_2, .int .i64 a0_3, .slice A0_4 l0_4.length c0_4]) (t := 26) ?hr ?_; (case hd => rfl); (case hg => rfl); (case hr => first | (go_simp; done) | (go_simp; rfl)); intro gb hg w2 hbox hb2; have hz0 := (blk_cell hbox 0).trans rfl; have hz1 := (blk_cell hbox 1).trans rfl; have hz2 := (blk_cell hbox 2).trans rfl; have hz3 := (blk_cell hbox 3).trans rfl; have hz4 := (blk_cell hbox 4).trans rfl; have BK := Aside0.mk hbox; have HB := Aside0.mk hb2; have HG := Aside0.mk hg; clear hg hbox hb2)
  go_loopw [19] (fun i wr => ∃ k : Nat, k ≤ l0_0.length ∧ i = .int .i64 k ∧ Aside0 (wr.heap[gb]? = some (.cells #[.slice A0_0 l0_0.length c0_0, .int .i64 a0_1, .slice A0_2 l0_2.length c0_2, .int .i64 a0_3, .slice A0_4 l0_4.length c0_4] 26 (0, 0))) ∧ Aside0 (Below w.heap.size w wr) ∧ Aside0 (partsE k (l0_0.drop k) = partsE 0 l0_0)) (fun i _ => l0_0.length - (intOf i).toNat)
  case atStart => exact ⟨0, Nat.zero_le _, rfl, BK, HB, ⟨rfl⟩⟩
  case round =>
    clear hz0 hz1 hz2 hz3 hz4 BK HB HG
    obtain ⟨k, hk, rfl, BK, HB, HI⟩ := hrel
    by_cases hlt : k < l0_0.length
    · have hlz : (k : Int) < (l0_0.length : Int) := by omega
      obtain ⟨ad, A1, c1, e, hx0, hx1, hx2, hx3, hl1, hi1⟩ := at_T50 HR0.out (k : Int) (by omega) hlz
      cases e
      rw [Int.toNat_natCast] at hx0 hx1 hx2 hx3
      replace hx0 := (HB.out.cell (World.block_lt_of_cell? w _ hx0)).trans hx0
      replace hx1 := (HB.out.cell (World.block_lt_of_cell? w _ hx1)).trans hx1
      replace hx2 := (HB.out.cell (World.block_lt_of_cell? w _ hx2)).trans hx2
      replace hx3 := (HB.out.cell (World.block_lt_of_cell? w _ hx3)).trans hx3
      have HY : Aside0 (l0_0.getD k z50 = rd_T50 l0_0 k) := ⟨by simp [rd_T50]⟩
      have HD := Aside0.mk (drop_cons_rd l0_0 k hlt z50)
      have HL : Aside0 ((l0_0.getD k z50).f0.length ≤ 140737488351232) := ⟨HLP.out _ (by rw [List.getD, List.getElem?_eq_getElem hlt]; exact List.getElem_mem hlt)⟩
      rw [HY.out] at HD HL
      clear HY
      generalize rd_T50 l0_0 k = y at *
      have HI1 := Aside0.mk hi1
      have HL1 := Aside0.mk hl1
      clear hi1 hl1
      rw [HD.out, partsE_cons] at HI
      by_cases h1 : riseE ((k : Int) - 1) 3 y.f0 = 0
      · have HRI := Aside0.mk ((rising_f y.f0 HL.out ((k : Int) - 1) 3).trans (congrArg some h1))
        have HI2 : Aside0 ((if inB y.f2 1 4 && inB y.f3 0 1000 then partsE ((k : Int) + 1) (l0_0.drop (k + 1)) else 1) = partsE 0 l0_0) := ⟨by rw [← HI.out, if_pos h1]⟩
        clear h1 HI
        have HIN1 := Aside0.mk (fun W => strip_in.calls y.f2 1 4 (inB y.f2 1 4) W (in_f _ _ _))
        have HIN2 := Aside0.mk (fun W => strip_in.calls y.f3 0 1000 (inB y.f3 0 1000) W (in_f _ _ _))
        generalize inB y.f2 1 4 = b1 at *
        generalize inB y.f3 0 1000 = b2 at *
        go_wp2_with (first | (go_at_call 72; refine (strip_rising.calls (y.f0.length + 1) A1 c1 y.f0 ((k : Int) - 1) 3 0 _ ?h1 HL1.out HRI.out).mono ?_; (case h1 => exact Kd.C_below HI1.out (by repeat (first | (with_reducible first | exact HB.out | apply below_alloc | apply pw_below_drewN | apply below_drew1) | exact HB.out))); rintro e w3 ⟨rfl, ⟨m3, rfl⟩⟩))
        refine (HIN1.out _).mono ?_
        rintro e w4 ⟨rfl, ⟨m4, rfl⟩⟩
        clear HIN1
        cases b1 with
        | false =>
          go_wp2
          go_ret
          exact ⟨by rw [E.out, if_neg (by rw [← HI2.out]; simp), ← HI2.out]; rfl, (by repeat (first | (with_reducible first | exact HB.out | apply below_alloc | apply pw_below_drewN | apply below_drew1) | exact HB.out))⟩
        | true =>
          go_wp2_with (fail)
          refine (HIN2.out _).mono ?_
          rintro e w5 ⟨rfl, ⟨m5, rfl⟩⟩
          clear HIN2
          cases b2 with
          | false =>
            go_wp2
            go_ret
            exact ⟨by rw [E.out, if_neg (by rw [← HI2.out]; simp), ← HI2.out]; rfl, (by repeat (first | (with_reducible first | exact HB.out | apply below_alloc | apply pw_below_drewN | apply below_drew1) | exact HB.out))⟩
          | true =>
            go_wp2
            go_roundw
            case rel => exact ⟨k + 1, by omega, by go_num, ⟨by (with_reducible repeat (first | refine blk_drewN ?_ _ | refine blk_drew ?_ | refine blk_alloc ?_ _)); exact BK.out⟩, ⟨(by repeat (first | (with_reducible first | exact HB.out | apply below_alloc | apply pw_below_drewN | apply below_drew1) | exact HB.out))⟩, ⟨by rw [← HI2.out]; rfl⟩⟩
            case measure => simp [intOf]; omega
      · have HRI := Aside0.mk (rising_f y.f0 HL.out ((k : Int) - 1) 3)
        have HI2 : Aside0 (riseE ((k : Int) - 1) 3 y.f0 = partsE 0 l0_0) := ⟨by rw [← HI.out, if_neg h1]⟩
        generalize riseE ((k : Int) - 1) 3 y.f0 = e1 at *
        have h1b : (e1 == 0) = false := beq_eq_false_iff_ne.2 h1
        clear HI
        have H1 := Aside0.mk h1
        clear h1
        go_wp2_with (first | (go_at_call 72; refine (strip_rising.calls (y.f0.length + 1) A1 c1 y.f0 ((k : Int) - 1) 3 e1 _ ?h1 HL1.out HRI.out).mono ?_; (case h1 => exact Kd.C_below HI1.out (by repeat (first | (with_reducible first | exact HB.out | apply below_alloc | apply pw_below_drewN | apply below_drew1) | exact HB.out))); rintro e w3 ⟨rfl, ⟨m3, rfl⟩⟩))
        go_ret
        exact ⟨by rw [E.out, ← HI2.out, if_neg H1.out]; rfl, (by repeat (first | (with_reducible first | exact HB.out | apply below_alloc | apply pw_below_drewN | apply below_drew1) | exact HB.out))⟩
    · have : k = l0_0.length := by omega
      subst this
      rw [List.drop_length] at HI
      replace E := E.out.trans (if_pos HI.out.symm)
      clear HI hk hlt
      have hz0 := (blk_cell BK.out 0).trans rfl
      have hz1 := (blk_cell BK.out 1).trans rfl
      have hz2 := (blk_cell BK.out 2).trans rfl
      have hz3 := (blk_cell BK.out 3).trans rfl
      have hz4 := (blk_cell BK.out 4).trans rfl
      rw [checkT] at E
      have E' := Aside0.mk E
      clear E
      have HIN1 := Aside0.mk (fun W => strip_in.calls a0_1 0 1000 (inB a0_1 0 1000) W (in_f _ _ _))
      have HIN2 := Aside0.mk (fun W => strip_in.calls a0_3 0 12 (inB a0_3 0 12) W (in_f _ _ _))
      generalize inB a0_1 0 1000 = b1 at *
      generalize inB a0_3 0 12 = b2 at *
      go_wp2_with (fail)
      refine (HIN1.out _).mono ?_
      rintro e w4 ⟨rfl, ⟨m4, rfl⟩⟩
      clear HIN1
      cases b1 with
      | false =>
        go_wp2
        go_ret
        exact ⟨by rw [E'.out]; rfl, (by repeat (first | (with_reducible first | exact HB.out | apply below_alloc | apply pw_below_drewN | apply below_drew1) | exact HB.out))⟩
      | true =>
      by_cases g1 : 12 < l0_2.length
      · have E2 := Aside0.mk (E'.out.trans ((if_pos rfl).trans (if_pos g1)))
        have g1z : (12 : Int) < ((l0_2.length : Nat) : Int) := by omega
        go_wp2
        go_ret
        exact ⟨by rw [E2.out]; rfl, (by repeat (first | (with_reducible first | exact HB.out | apply below_alloc | apply pw_below_drewN | apply below_drew1) | exact HB.out))⟩
      have E2 := Aside0.mk (E'.out.trans ((if_pos rfl).trans (if_neg g1)))
      have g1z : ¬ (12 : Int) < ((l0_2.length : Nat) : Int) := by omega
      clear E' g1
      go_wp2_with (fail)
      refine (containsFunc_look #[.pointer (some ⟨gb, 0, none⟩)] (lookBad l0_0.length) A0_2 c0_2 l0_2 _ ?h1 hl2 ?h2).mono ?_
      case h1 => exact Kd.C_below HR2.out (by repeat (first | (with_reducible first | exact HB.out | apply below_alloc | apply pw_below_drewN | apply below_drew1) | exact HB.out))
      case h2 => exact look_pred gb _ A0_0 l0_0.length c0_0 _ hl0 (by (with_reducible repeat (first | refine blk_drewN ?_ _ | refine blk_drew ?_ | refine blk_alloc ?_ _)); exact BK.out) rfl
      rintro e w6 ⟨rfl, hb6⟩
      have HB6 := Aside0.mk (below_step (by repeat (first | (with_reducible first | exact HB.out | apply below_alloc | apply pw_below_drewN | apply below_drew1) | exact HB.out)) hb6)
      have BK6 := Aside0.mk (blk_below (show (World.drewN wr m4).heap[gb]? = _ from (by (with_reducible repeat (first | refine blk_drewN ?_ _ | refine blk_drew ?_ | refine blk_alloc ?_ _)); exact BK.out)) hb6)
      clear hb6 hz0 hz1 hz2 hz3 hz4 BK HB
      have BK := BK6
      have HB := HB6
      clear BK6 HB6
      have hz3 := (blk_cell BK.out 3).trans rfl
      have hz4 := (blk_cell BK.out 4).trans rfl
      generalize l0_2.any (lookBad l0_0.length) = b3 at *
      cases b3 with
      | true =>
        go_wp2
        go_ret
        exact ⟨by rw [E2.out]; rfl, (by repeat (first | (with_reducible first | exact HB.out | apply below_alloc | apply pw_below_drewN | apply below_drew1) | exact HB.out))⟩
      | false =>
        go_wp2_with (fail)
        refine (HIN2.out _).mono ?_
        rintro e w7 ⟨rfl, ⟨m7, rfl⟩⟩
        clear HIN2
        cases b2 with
        | false =>
          go_wp2
          go_ret
          exact ⟨by rw [E2.out]; rfl, (by repeat (first | (with_reducible first | exact HB.out | apply below_alloc | apply pw_below_drewN | apply below_drew1) | exact HB.out))⟩
        | true =>
          by_cases g2 : 8 < l0_4.length
          · have E3 := Aside0.mk (E2.out.trans ((if_neg (by decide)).trans ((if_pos rfl).trans (if_pos g2))))
            have g2z : (8 : Int) < ((l0_4.length : Nat) : Int) := by omega
            clear g2
            go_wp2
            go_ret
            exact ⟨by rw [E3.out]; rfl, (by repeat (first | (with_reducible first | exact HB.out | apply below_alloc | apply pw_below_drewN | apply below_drew1) | exact HB.out))⟩
          · have E3 := Aside0.mk (E2.out.trans ((if_neg (by decide)).trans ((if_pos rfl).trans (if_neg g2))))
            have g2z : ¬ (8 : Int) < ((l0_4.length : Nat) : Int) := by omega
            clear g2
            go_wp2_with (fail)
            refine (strip_rising.calls (l0_4.length + 1) A0_4 c0_4 l0_4 8 1 _ _ ?h1 hc0_4 (rising_f l0_4 hl4 8 1)).mono ?_
            case h1 => exact Kd.C_below HR4.out (by repeat (first | (with_reducible first | exact HB.out | apply below_alloc | apply pw_below_drewN | apply below_drew1) | exact HB.out))
            rintro e w8 ⟨rfl, ⟨m8, rfl⟩⟩
            go_wp2
            go_ret
            exact ⟨by rw [E3.out]; rfl, (by repeat (first | (with_reducible first | exact HB.out | apply below_alloc | apply pw_below_drewN | apply below_drew1) | exact HB.out))⟩
theorem rise_zero (most beyond : Int) (hb : beyond ≠ 0) (l : List Int) : ∀ p, rise most beyond p l = 0 → ∀ x, x ∈ l → 0 ≤ x ∧ x ≤ most := by
  induction l with
  | nil => intro p _ x hx; cases hx
  | cons n l ih =>
    intro p h x hx
    rw [rise_cons] at h
    cases hin : inB n 0 most with
    | false => rw [hin] at h; exact absurd h hb
    | true =>
      rw [hin, if_pos rfl] at h
      have h2 : rise most beyond (some n) l = 0 := by
        cases p with
        | none => simpa using h
        | some q =>
          by_cases hc : n ≤ q
          · simp [hc] at h
          · simpa [hc] using h
      rcases List.mem_cons.1 hx with rfl | hx
      · exact inB_true.1 hin
      · exact ih _ h2 x hx
theorem partsE_zero (l : List S50) : ∀ i : Int, partsE i l = 0 → ∀ k (h : k < l.length), riseE (i + k - 1) 3 (l[k]).f0 = 0 ∧ inB (l[k]).f2 1 4 = true ∧ inB (l[k]).f3 0 1000 = true := by
  induction l with
  | nil => intro i _ k h; cases h
  | cons p l ih =>
    intro i h k hk
    rw [partsE_cons] at h
    by_cases h1 : riseE (i - 1) 3 p.f0 = 0
    · rw [if_pos h1] at h
      by_cases h2 : (inB p.f2 1 4 && inB p.f3 0 1000) = true
      · rw [if_pos h2] at h
        rw [Bool.and_eq_true] at h2
        cases k with
        | zero => exact ⟨by simpa using h1, h2.1, h2.2⟩
        | succ k =>
          have := ih (i + 1) h k (by simpa using hk)
          rw [show i + 1 + (k : Int) - 1 = i + ((k + 1 : Nat) : Int) - 1 by omega] at this
          exact this
      · rw [if_neg h2] at h; cases h
    · rw [if_neg h1] at h; exact absurd h h1
theorem checkE_zero {parts : List S50} {swap : Int} {looks : List S61} {wrong : Int} {needs : List Int} (h : checkE parts swap looks wrong needs = 0) :
    0 < parts.length ∧ parts.length ≤ 9 ∧ partsE 0 parts = 0 ∧ inB swap 0 1000 = true ∧ looks.length ≤ 12 ∧ looks.any (lookBad parts.length) = false ∧ inB wrong 0 12 = true ∧ needs.length ≤ 8 ∧ riseE 8 1 needs = 0 := by
  unfold checkE checkT at h
  by_cases h1 : parts.length = 0
  · rw [if_pos h1] at h; cases h
  rw [if_neg h1] at h
  by_cases h2 : 9 < parts.length
  · rw [if_pos h2] at h; cases h
  rw [if_neg h2] at h
  by_cases h3 : partsE 0 parts = 0
  · rw [if_pos h3] at h
    cases h4 : inB swap 0 1000 with
    | false => rw [h4] at h; cases h
    | true =>
      rw [h4, if_pos rfl] at h
      by_cases h5 : 12 < looks.length
      · rw [if_pos h5] at h; cases h
      rw [if_neg h5] at h
      cases h6 : looks.any (lookBad parts.length) with
      | true => rw [h6] at h; cases h
      | false =>
        rw [h6, if_neg (by decide)] at h
        cases h7 : inB wrong 0 12 with
        | false => rw [h7] at h; cases h
        | true =>
          rw [h7, if_pos rfl] at h
          by_cases h8 : 8 < needs.length
          · rw [if_pos h8] at h; cases h
          rw [if_neg h8] at h
          exact ⟨by omega, by omega, h3, rfl, by omega, rfl, rfl, by omega, h⟩
  · rw [if_neg h3] at h; exact absurd h h3
theorem carOK_of_check {parts : List S50} {swap : Int} {looks : List S61} {wrong : Int} {needs : List Int} (hf : carFits parts looks needs) (h : checkE parts swap looks wrong needs = 0) : CarOK parts looks := by
  obtain ⟨h0, h9, hp, _, hl, hlk, _⟩ := checkE_zero h
  refine ⟨h9, fun p hpm => ⟨hf.2.2.2 p hpm, fun x hx => ?_⟩, by omega, fun l hlm => ?_⟩
  · obtain ⟨k, hk, rfl⟩ := List.getElem_of_mem hpm
    have := rise_zero _ _ (by decide) _ _ (partsE_zero parts 0 hp k hk).1 x hx
    omega
  · have := List.any_eq_false.1 hlk l hlm
    simp [lookBad] at this
    have h2 := this
    constructor
    · exact h2.1
    · omega
def stepV (parts : List S50) (swap : Int) (all d : Nat) (l : Int) (i : Nat) : Int :=
  if all.testBit i && !d.testBit i && subM (maskOf (parts.getD i z50).f0 &&& all) d then
    (if 0 ≤ l ∧ (parts.getD l.toNat z50).f2 ≠ (parts.getD i z50).f2 then (parts.getD i z50).f3 + swap else (parts.getD i z50).f3)
  else 1073741824
def remM (n all d : Nat) : Nat := ((List.range n).filter fun i => all.testBit i && !d.testBit i).length
def bestGo (f : Nat → Int → Int) (step : Nat → Int) (d : Nat) : Int → List Nat → Int
  | b, [] => b
  | b, i :: r => bestGo f step d (if step i < 1073741824 then min b (step i + f (d ||| 2 ^ i) i) else b) r
def restV (parts : List S50) (swap : Int) (all : Nat) : Nat → Nat → Int → Int
  | 0, d, l => if d = all then 0 else 1073741824
  | f + 1, d, l => if d = all then 0 else bestGo (restV parts swap all f) (stepV parts swap all d l) d 1073741824 (List.range parts.length)
def restG (parts : List S50) (swap : Int) (all d : Nat) (l : Int) : Int := restV parts swap all (remM parts.length all d) d l
structure WorkOK (parts : List S50) (swap : Int) : Prop where
  sw : 0 ≤ swap ∧ swap ≤ 1000
  mi : ∀ i, i < parts.length → 0 ≤ (parts.getD i z50).f3 ∧ (parts.getD i z50).f3 ≤ 1000
theorem step_lt {parts : List S50} {swap : Int} (h : WorkOK parts swap) {all d : Nat} {l : Int} {i : Nat} (hi : i < parts.length) :
    0 ≤ stepV parts swap all d l i ∧ (stepV parts swap all d l i ≤ 2000 ∨ stepV parts swap all d l i = 1073741824) := by
  have h1 := h.mi i hi
  have h2 := h.sw
  unfold stepV
  split
  · split
    · exact ⟨by omega, .inl (by omega)⟩
    · exact ⟨by omega, .inl (by omega)⟩
  · exact ⟨by omega, .inr rfl⟩
theorem step_can {parts : List S50} {swap : Int} {all d : Nat} {l : Int} {i : Nat} (h : stepV parts swap all d l i < 1073741824) : all.testBit i = true ∧ d.testBit i = false ∧ subM (maskOf (parts.getD i z50).f0 &&& all) d = true := by
  unfold stepV at h
  by_cases hc : (all.testBit i && !d.testBit i && subM (maskOf (parts.getD i z50).f0 &&& all) d) = true
  · simp only [Bool.and_eq_true, Bool.not_eq_true'] at hc
    exact ⟨hc.1.1, hc.1.2, hc.2⟩
  · rw [if_neg hc] at h; omega
theorem filter_len_drop (p q : Nat → Bool) (i : Nat) : ∀ (l : List Nat), l.Nodup → i ∈ l → p i = true → q i = false → (∀ j, j ≠ i → q j = p j) → (l.filter q).length + 1 = (l.filter p).length := by
  intro l
  induction l with
  | nil => intro _ h; cases h
  | cons a l ih =>
    intro hn hm hp hq he
    rw [List.nodup_cons] at hn
    by_cases ha : a = i
    · subst ha
      have e1 : (a :: l).filter q = l.filter q := List.filter_cons_of_neg (by rw [hq]; simp)
      have e2 : (a :: l).filter p = a :: l.filter p := List.filter_cons_of_pos hp
      rw [e1, e2, List.length_cons, List.filter_congr (fun x hx => he x (fun e => hn.1 (e ▸ hx)))]
    · have hm2 : i ∈ l := by
        rcases List.mem_cons.1 hm with h | h
        · exact absurd h.symm ha
        · exact h
      have := ih hn.2 hm2 hp hq he
      have hqa := he a ha
      cases hpa : p a with
      | true => rw [List.filter_cons_of_pos (by rw [hqa]; exact hpa), List.filter_cons_of_pos hpa, List.length_cons, List.length_cons, this]
      | false => rw [List.filter_cons_of_neg (by rw [hqa, hpa]; simp), List.filter_cons_of_neg (by rw [hpa]; simp), this]
theorem remM_step {n all d i : Nat} (hi : i < n) (h1 : all.testBit i = true) (h2 : d.testBit i = false) : remM n all (d ||| 2 ^ i) + 1 = remM n all d := by
  refine filter_len_drop _ _ i _ List.nodup_range (List.mem_range.2 hi) (by simp [h1, h2]) (by simp [Nat.testBit_two_pow_self]) (fun j hj => ?_)
  rw [Nat.testBit_or, Nat.testBit_two_pow]
  have : decide (i = j) = false := by simpa using fun e => hj e.symm
  rw [this, Bool.or_false]
theorem bestGo_congr (f g : Nat → Int → Int) (step : Nat → Int) (d : Nat) : ∀ (l : List Nat) (b : Int), (∀ i, i ∈ l → step i < 1073741824 → f (d ||| 2 ^ i) i = g (d ||| 2 ^ i) i) → bestGo f step d b l = bestGo g step d b l := by
  intro l
  induction l with
  | nil => intro b _; rfl
  | cons a l ih =>
    intro b h
    have ha := h a List.mem_cons_self
    show bestGo f step d _ l = bestGo g step d _ l
    have e : (if step a < 1073741824 then min b (step a + f (d ||| 2 ^ a) a) else b) = (if step a < 1073741824 then min b (step a + g (d ||| 2 ^ a) a) else b) := by
      by_cases hs : step a < 1073741824
      · rw [if_pos hs, if_pos hs, ha hs]
      · rw [if_neg hs, if_neg hs]
    rw [e]
    exact ih _ (fun i hi => h i (List.mem_cons_of_mem _ hi))
theorem restG_eq (parts : List S50) (swap : Int) (all d : Nat) (l : Int) : restG parts swap all d l = if d = all then 0 else bestGo (restG parts swap all) (stepV parts swap all d l) d 1073741824 (List.range parts.length) := by
  unfold restG
  by_cases hd : d = all
  · rw [if_pos hd]
    cases remM parts.length all d <;> simp [restV, hd]
  · rw [if_neg hd]
    cases hr : remM parts.length all d with
    | zero =>
      rw [restV, if_neg hd]
      have : ∀ (r : List Nat) (b : Int), (∀ i, i ∈ r → ¬ stepV parts swap all d l i < 1073741824) → bestGo (fun d l => restV parts swap all (remM parts.length all d) d l) (stepV parts swap all d l) d b r = b := by
        intro r
        induction r with
        | nil => intro b _; rfl
        | cons a r ih =>
          intro b h
          show bestGo _ _ d (if _ then _ else b) r = b
          rw [if_neg (h a List.mem_cons_self)]
          exact ih b (fun i hi => h i (List.mem_cons_of_mem _ hi))
      rw [this]
      intro i hi hs
      have h2 := step_can hs
      have := remM_step (List.mem_range.1 hi) h2.1 h2.2.1
      omega
    | succ f =>
      rw [restV, if_neg hd]
      refine bestGo_congr _ _ _ _ _ _ (fun i hi hs => ?_)
      have h2 := step_can hs
      have := remM_step (List.mem_range.1 hi) h2.1 h2.2.1
      show restV parts swap all f (d ||| 2 ^ i) i = restV parts swap all (remM parts.length all (d ||| 2 ^ i)) (d ||| 2 ^ i) i
      rw [show remM parts.length all (d ||| 2 ^ i) = f by omega]
theorem bestGo_bd (f : Nat → Int → Int) (step : Nat → Int) (d : Nat) : ∀ (l : List Nat) (b : Int), 0 ≤ b → (∀ i, i ∈ l → 0 ≤ step i) → (∀ i, i ∈ l → 0 ≤ f (d ||| 2 ^ i) i) → 0 ≤ bestGo f step d b l ∧ bestGo f step d b l ≤ b := by
  intro l
  induction l with
  | nil => intro b hb _ _; exact ⟨hb, Int.le_refl _⟩
  | cons a l ih =>
    intro b hb hs hf
    have h1 := hs a List.mem_cons_self
    have h2 := hf a List.mem_cons_self
    show 0 ≤ bestGo f step d _ l ∧ bestGo f step d _ l ≤ b
    have key : 0 ≤ (if step a < 1073741824 then min b (step a + f (d ||| 2 ^ a) a) else b) ∧ (if step a < 1073741824 then min b (step a + f (d ||| 2 ^ a) a) else b) ≤ b := by
      split
      · omega
      · omega
    have := ih _ key.1 (fun i hi => hs i (List.mem_cons_of_mem _ hi)) (fun i hi => hf i (List.mem_cons_of_mem _ hi))
    omega
theorem restV_bd {parts : List S50} {swap : Int} (h : WorkOK parts swap) (all : Nat) : ∀ (f d : Nat) (l : Int), 0 ≤ restV parts swap all f d l ∧ restV parts swap all f d l ≤ 1073741824 := by
  intro f
  induction f with
  | zero => intro d l; rw [restV]; split <;> omega
  | succ f ih =>
    intro d l
    rw [restV]
    split
    · omega
    · exact bestGo_bd _ _ _ _ _ (by omega) (fun i hi => (step_lt h (List.mem_range.1 hi)).1) (fun i hi => (ih _ _).1)
theorem restG_bd {parts : List S50} {swap : Int} (h : WorkOK parts swap) (all d : Nat) (l : Int) : 0 ≤ restG parts swap all d l ∧ restG parts swap all d l ≤ 1073741824 := restV_bd h all _ _ _
theorem bestGo_snoc (f : Nat → Int → Int) (step : Nat → Int) (d : Nat) (i : Nat) : ∀ (l : List Nat) (b : Int), bestGo f step d b (l ++ [i]) = if step i < 1073741824 then min (bestGo f step d b l) (step i + f (d ||| 2 ^ i) i) else bestGo f step d b l := by
  intro l
  induction l with
  | nil => intro b; rfl
  | cons a l ih => intro b; exact ih _
end Go.Proofs.Ytkkmfcdikkiodaa.PC4
namespace Go.Proofs.Ytkkmfcdikkiodaa.PC4
open Go.RowKit Go.Proofs.YtkkmfcdikkiodaaW.PrintWords Go.Proofs.YtkkmfcdikkiodaaW.PrintLast Go.Proofs.YtkkmfcdikkiodaaW.PrintMore
attribute [local go_sem] max2_int min2_int max_two min_two max_three min_three max_four min_four
set_option linter.unusedVariables false
set_option linter.unusedSimpArgs false
def slices_Index_int_int.l0 : Nat → List Int → Int → Int → Int → Option (Int)
 | 0, _, _, _, _ => none
 | k + 1, x0, x1, x7, x8 => if x8 < x7 then (if 0 ≤ x8 then (if x8 < (x0.length : Int) then (if x1 = (rd x0 x8) then (some x8) else (slices_Index_int_int.l0 k x0 x1 x7 (wrap64 (x8 + 1)))) else (none)) else (none)) else (some (-1))
def slices_Index_int_int.f (k : Nat) (l0 : List Int) (a1 : Int) : Option (Int) := slices_Index_int_int.l0 k l0 a1 (l0.length : Int) 0
theorem slices_Index_int_int.mono_l : ∀ k, (∀ y0 y1 y2 y3, LeO (slices_Index_int_int.l0 k y0 y1 y2 y3) (slices_Index_int_int.l0 (k + 1) y0 y1 y2 y3))
 | 0 => fun _ _ _ _ r h => by simp [slices_Index_int_int.l0] at h
 | k + 1 => by
  have ih0 := slices_Index_int_int.mono_l k
  ·
   intro y0 y1 y2 y3
   unfold slices_Index_int_int.l0
   repeat' first
   | (with_reducible exact ih0 _ _ _ _)
   | (with_reducible exact LeO.refl _)
   | (with_reducible exact LeO.none _)
   | (with_reducible refine LeO.ite ?_ ?_)
   | (with_reducible refine LeO.bind ?_ (fun _ => ?_))
   | exact ih0 _ _ _ _
   | exact LeO.none _
   | refine LeO.ite ?_ ?_
   | refine LeO.bind ?_ (fun _ => ?_)
theorem slices_Index_int_int.mono : ∀ a0 a1 k, LeO (slices_Index_int_int.f k a0 a1) (slices_Index_int_int.f (k + 1) a0 a1) := by
 intro a0 a1 k
 have ih0 := slices_Index_int_int.mono_l k
 unfold slices_Index_int_int.f
 repeat' first
   | (with_reducible exact ih0 _ _ _ _)
   | (with_reducible exact LeO.refl _)
   | (with_reducible exact LeO.none _)
   | (with_reducible refine LeO.ite ?_ ?_)
   | (with_reducible refine LeO.bind ?_ (fun _ => ?_))
   | exact ih0 _ _ _ _
   | exact LeO.none _
   | refine LeO.ite ?_ ?_
   | refine LeO.bind ?_ (fun _ => ?_)
set_option maxHeartbeats 8000000 in
set_option maxRecDepth 100000 in
theorem slices_Index_int_int.calls (k : Nat) (A0 : Option Addr) (c0 : Nat) (l0 : List Int) (a1 : Int) (r : Int) (w : World) (hr0 : Kd.C (Kd.int .i64) w A0 l0.length l0) (hc0 : l0.length ≤ c0) (h : slices_Index_int_int.f k l0 a1 = some r) :
  Calls Try.prog 93 #[.slice A0 l0.length c0, .int .i64 a1] w fun e w' => e = .returned (.int .i64 r) ∧ Drawn0 w w' := by
 have HR0 := Aside0.mk hr0
 have HC0 := Aside0.mk hc0
 clear hr0 hc0
 have H : (slices_Index_int_int.l0 k l0 a1 (l0.length : Int) 0) = some r := h
 clear h
 have H' := Aside0.mk H
 clear H
 go_enter Try.func93, Try.ntmps93
 go_wp2
 go_loopg [8] k (fun kq v8 w' => ∃ (x8_1 : Int), v8 = .int .i64 x8_1 ∧ Aside0 (slices_Index_int_int.l0 kq l0 a1 (l0.length : Int) x8_1 = some r) ∧ Aside0 (kq ≤ k) ∧ Drawn0 w w')
 case atStart => exact ⟨(0), (by first | rfl | (simp; done) | (simp [*]; done)), H', ⟨Nat.le_refl _⟩, by repeat (first | exact Drawn0.refl _ | apply Drawn0.step)⟩
 case round =>
  clear H'
  obtain ⟨x8_1, rfl, HA, HK1, ⟨m1, rfl⟩⟩ := hrel
  cases gk with
  | zero => exact absurd HA.out (by simp [slices_Index_int_int.l0])
  | succ k1 =>
   have H := HA.out
   clear HA
   simp only [slices_Index_int_int.l0] at H
   by_cases c3 : x8_1 < (l0.length : Int)
   ·
    rw [if_pos c3] at H
    have c3b0 : decide (x8_1 < (l0.length : Int)) = true := decide_eq_true c3
    clear c3
    by_cases c4 : 0 ≤ x8_1
    ·
     rw [if_pos c4] at H
     have c4b0 : decide (0 ≤ x8_1) = true := decide_eq_true c4
     clear c4
     by_cases c5 : x8_1 < (l0.length : Int)
     ·
      rw [if_pos c5] at H
      have c5b0 : decide (x8_1 < (l0.length : Int)) = true := decide_eq_true c5
      clear c5
      by_cases c6 : a1 = (rd l0 x8_1)
      ·
       rw [if_pos c6] at H
       have c6b0 : (a1 == (rd l0 x8_1)) = true := beq_iff_eq.mpr c6
       have c6b1 : (a1 != (rd l0 x8_1)) = false := bne_eq_false_iff_eq.mpr c6
       clear c6
       obtain rfl := Option.some.inj H
       have p108 : 0 ≤ (x8_1 : Int) := of_x
       have q108 : x8_1 < (l0.length : Int) := of_x
       obtain ⟨ad108, e108, hx108_0⟩ := Kd.at_int HR0.out x8_1 p108 q108
       cases e108
       replace p108 := eq_true p108
       replace q108 := eq_true q108
       go_wp2
       go_ret
       exact ⟨by first | rfl | (simp; done) | (simp [*]; done), by repeat (first | exact Drawn0.refl _ | apply Drawn0.step)⟩
      ·
       rw [if_neg c6] at H
       have c6b0 : (a1 == (rd l0 x8_1)) = false := beq_eq_false_iff_ne.mpr c6
       have c6b1 : (a1 != (rd l0 x8_1)) = true := bne_iff_ne.mpr c6
       have H' := Aside0.mk H
       clear H
       have p108 : 0 ≤ (x8_1 : Int) := of_x
       have q108 : x8_1 < (l0.length : Int) := of_x
       obtain ⟨ad108, e108, hx108_0⟩ := Kd.at_int HR0.out x8_1 p108 q108
       cases e108
       replace p108 := eq_true p108
       replace q108 := eq_true q108
       go_wp2
       go_roundg k1
       case measure => have := HK1.out; omega
       case rel => exact ⟨(wrap64 (x8_1 + 1)), (by first | rfl | (simp; done) | (simp [*]; done)), H', ⟨by have := HK1.out; omega⟩, by repeat (first | exact Drawn0.refl _ | apply Drawn0.step)⟩
     ·
      rw [if_neg c5] at H
      exact absurd H (by simp)
    ·
     rw [if_neg c4] at H
     exact absurd H (by simp)
   ·
    rw [if_neg c3] at H
    have c3b0 : decide (x8_1 < (l0.length : Int)) = false := decide_eq_false c3
    clear c3
    obtain rfl := Option.some.inj H
    go_wp2
    go_ret
    exact ⟨by first | rfl | (simp; done) | (simp [*]; done), by repeat (first | exact Drawn0.refl _ | apply Drawn0.step)⟩
def slices_Contains_int_int.f (k : Nat) (l0 : List Int) (a1 : Int) : Option (Bool) := (slices_Index_int_int.f k l0 a1).bind fun t109 => (some (decide (t109 ≥ 0)))
theorem slices_Contains_int_int.mono : ∀ a0 a1 k, LeO (slices_Contains_int_int.f k a0 a1) (slices_Contains_int_int.f (k + 1) a0 a1) := by
 intro a0 a1 k
 unfold slices_Contains_int_int.f
 repeat' first
   | (with_reducible exact slices_Index_int_int.mono _ _ _)
   | (with_reducible exact LeO.refl _)
   | (with_reducible exact LeO.none _)
   | (with_reducible refine LeO.ite ?_ ?_)
   | (with_reducible refine LeO.bind ?_ (fun _ => ?_))
   | exact slices_Index_int_int.mono _ _ _
   | exact LeO.none _
   | refine LeO.ite ?_ ?_
   | refine LeO.bind ?_ (fun _ => ?_)
set_option maxHeartbeats 8000000 in
set_option maxRecDepth 100000 in
theorem slices_Contains_int_int.calls (k : Nat) (A0 : Option Addr) (c0 : Nat) (l0 : List Int) (a1 : Int) (r : Bool) (w : World) (hr0 : Kd.C (Kd.int .i64) w A0 l0.length l0) (hc0 : l0.length ≤ c0) (h : slices_Contains_int_int.f k l0 a1 = some r) :
  Calls Try.prog 78 #[.slice A0 l0.length c0, .int .i64 a1] w fun e w' => e = .returned (.bool r) ∧ Drawn0 w w' := by
 have HR0 := Aside0.mk hr0
 have HC0 := Aside0.mk hc0
 clear hr0 hc0
 have H : ((slices_Index_int_int.f k l0 a1).bind fun t109 => (some (decide (t109 ≥ 0)))) = some r := h
 clear h
 replace H := Option.bind_eq_some_iff.mp H
 obtain ⟨t109, A30, H⟩ := H
 replace H : (some (decide (t109 ≥ 0))) = some r := H
 have A3 := Aside0.mk A30
 clear A30
 obtain rfl := Option.some.inj H
 go_enter Try.func78, Try.ntmps78
 go_wp2_with (first | ((with_reducible refine gate_callee (f := 93) rfl ?_); refine goesL_ (some 7) rfl rfl Try.func93 (by kernel_rfl) rfl #[.slice A0 l0.length c0, .int .i64 a1] rfl (by (try simp only [List.map_toArray, List.map_cons, List.map_nil]); first | done | rfl | (simp only [List.length_drop, List.length_take]; rfl)) ?_; (with_reducible refine (slices_Index_int_int.calls k _ _ l0 a1 t109 _ ?side1 ?side2 A3.out).mono ?_); (case side1 => repeat (first | exact HR0.out | (with_reducible refine Kd.C_alloc ?_ _) | (with_reducible refine Kd.C_drewN ?_ _) | (with_reducible refine Kd.C_drew ?_))); (case side2 => exact HC0.out); rintro e w' ⟨rfl, ⟨nd, rfl⟩⟩; refine ⟨_, rfl, ?_⟩))
 go_ret
 exact ⟨by first | rfl | (simp; done) | (simp [*]; done), by repeat (first | exact Drawn0.refl _ | apply Drawn0.step)⟩
mutual
def strip_left.l0 : Nat → List Int → Int → Int → List (S50) → Int → List (S61) → Int → List Int → Option (Int)
 | 0, _, _, _, _, _, _, _, _ => none
 | k + 1, x1, x5, x6, x111000, x111001, x111002, x111003, x111004 => if x6 ≥ 0 then (if 0 ≤ x6 then (if x6 < (x111000.length : Int) then (strip_left.l1 k x1 x5 x6 ((rd_T50 x111000 x6).f1) x111000 (x111000.length : Int) 0 x111000 x111001 x111002 x111003 x111004) else (none)) else (none)) else (some x5)
def strip_left.l1 : Nat → List Int → Int → Int → Bool → List (S50) → Int → Int → List (S50) → Int → List (S61) → Int → List Int → Option (Int)
 | 0, _, _, _, _, _, _, _, _, _, _, _, _ => none
 | k + 1, x1, x5, x6, x7, x25, x26, x27, x111000, x111001, x111002, x111003, x111004 => if x27 < x26 then (if 0 ≤ x27 then (if x27 < (x25.length : Int) then (if x7 = true then (strip_left.l1 k x1 x5 x6 true x25 x26 (wrap64 (x27 + 1)) x111000 x111001 x111002 x111003 x111004) else ((strip_set_has.f x5 x27).bind fun t114 => (if t114 = true then ((slices_Contains_int_int.f k ((rd_T50 x25 x27).f0) x6).bind fun t115 => (strip_left.l1 k x1 x5 x6 t115 x25 x26 (wrap64 (x27 + 1)) x111000 x111001 x111002 x111003 x111004)) else (strip_left.l1 k x1 x5 x6 false x25 x26 (wrap64 (x27 + 1)) x111000 x111001 x111002 x111003 x111004)))) else (none)) else (none)) else (if x7 = true then (if 0 ≤ x6 then (if x6 < (x1.length : Int) then (if (rd x1 x6) = 1 then (strip_left.l0 k x1 x5 (wrap64 (x6 - 1)) x111000 x111001 x111002 x111003 x111004) else (strip_left.l0 k x1 (Go.bits .or .u16 x5 (shl .u16 1 x6)) (wrap64 (x6 - 1)) x111000 x111001 x111002 x111003 x111004)) else (none)) else (none)) else (strip_left.l0 k x1 x5 (wrap64 (x6 - 1)) x111000 x111001 x111002 x111003 x111004))
end
def strip_left.f (k : Nat) (l0_0 : List (S50)) (a0_1 : Int) (l0_2 : List (S61)) (a0_3 : Int) (l0_4 : List Int) (l1 : List Int) : Option (Int) := strip_left.l0 k l1 0 (wrap64 ((l0_0.length : Int) - 1)) l0_0 a0_1 l0_2 a0_3 l0_4
set_option maxHeartbeats 8000000 in
set_option maxRecDepth 100000 in
theorem strip_left.calls (k : Nat) (A0_0 : Option Addr) (c0_0 : Nat) (l0_0 : List (S50)) (a0_1 : Int) (A0_2 : Option Addr) (c0_2 : Nat) (l0_2 : List (S61)) (a0_3 : Int) (A0_4 : Option Addr) (c0_4 : Nat) (l0_4 : List Int) (A1 : Option Addr) (c1 : Nat) (l1 : List Int) (r : Int) (w : World) (hr0_0 : Kd.C k50 w A0_0 l0_0.length l0_0) (hc0_0 : l0_0.length ≤ c0_0) (hr0_2 : Kd.C k61 w A0_2 l0_2.length l0_2) (hc0_2 : l0_2.length ≤ c0_2) (hr0_4 : Kd.C (Kd.int .i64) w A0_4 l0_4.length l0_4) (hc0_4 : l0_4.length ≤ c0_4) (hr1 : Kd.C (Kd.int .i64) w A1 l1.length l1) (hc1 : l1.length ≤ c1) (h : strip_left.f k l0_0 a0_1 l0_2 a0_3 l0_4 l1 = some r) :
  Calls Try.prog 57 #[.agg #[.slice A0_0 l0_0.length c0_0, .int .i64 a0_1, .slice A0_2 l0_2.length c0_2, .int .i64 a0_3, .slice A0_4 l0_4.length c0_4], .slice A1 l1.length c1] w fun e w' => e = .returned (.int .u16 r) ∧ Below w.heap.size w w' := by
 have hu26 := Try.underlying26
 have hu50 := Try.underlying50
 have HR0_0 := Aside0.mk hr0_0
 have HC0_0 := Aside0.mk hc0_0
 clear hr0_0 hc0_0
 have HR0_2 := Aside0.mk hr0_2
 have HC0_2 := Aside0.mk hc0_2
 clear hr0_2 hc0_2
 have HR0_4 := Aside0.mk hr0_4
 have HC0_4 := Aside0.mk hc0_4
 clear hr0_4 hc0_4
 have HR1 := Aside0.mk hr1
 have HC1 := Aside0.mk hc1
 clear hr1 hc1
 have HB := Aside0.mk (Below.refl w.heap.size w)
 have H : (strip_left.l0 k l1 0 (wrap64 ((l0_0.length : Int) - 1)) l0_0 a0_1 l0_2 a0_3 l0_4) = some r := h
 clear h
 have H' := Aside0.mk H
 clear H
 go_enter Try.func57, Try.ntmps57
 go_wp2_with (first | ((with_reducible refine gate_dst (N := 2) rfl ?_); refine box_event ?hg (N := 2) ?hd (cs := #[.slice A0_0 l0_0.length c0_0, .int .i64 a0_1, .slice A0_2 l0_2.length c0_2, .int .i64 a0_3, .slice A0_4 l0_4.length c0_4]) (t := 26) ?hr ?_; (case hd => rfl); (case hg => rfl); (case hr => first | (go_simp; done) | (go_simp; rfl)); intro gb110 hg w3 hbox hb; have BK110 := Aside0.mk (hbox); have GW110 := Aside0.mk ((by rw [hg]; exact (below_size (below_x HB.out)) : w.heap.size ≤ gb110)); have GE110 := Aside0.mk ((by rw [hg]; exact (below_size (below_x HB.out)) : w.heap.size ≤ gb110)); replace HB := Aside0.mk (below_step (below_x HB.out) hb); clear hb hbox hg; obtain ⟨_, _, _, _, _⟩ := cz5 BK110; have hfz4_0 := blk_frozen BK110.out))
 go_loopg [5, 6] k (fun kq v5 v6 w' => ∃ (x5_1 : Int) (x6_1 : Int), v5 = .int .u16 x5_1 ∧ v6 = .int .i64 x6_1 ∧ Aside0 (strip_left.l0 kq l1 x5_1 x6_1 l0_0 a0_1 l0_2 a0_3 l0_4 = some r) ∧ Aside0 (kq ≤ k) ∧ Aside0 (w'.heap[gb110]? = some (.cells #[(.slice A0_0 l0_0.length c0_0), .int .i64 a0_1, (.slice A0_2 l0_2.length c0_2), .int .i64 a0_3, (.slice A0_4 l0_4.length c0_4)] 26 (0, 0))) ∧ Aside0 (Below w.heap.size w w'))
 case atStart => exact ⟨(0), (wrap64 ((l0_0.length : Int) - 1)), (by first | rfl | (simp; done) | (simp [*]; done)), (by first | rfl | (simp; done) | (simp [*]; done)), H', ⟨Nat.le_refl _⟩, ⟨blk_x BK110.out⟩, ⟨by exact below_y HB.out⟩⟩
 case round =>
  clear H'
  obtain ⟨x5_1, x6_1, rfl, rfl, HA, HK1, BK110, HB⟩ := hrel
  cases gk with
  | zero => exact absurd HA.out (by simp [strip_left.l0])
  | succ k1 =>
   have H := HA.out
   clear HA
   simp only [strip_left.l0] at H
   by_cases c5 : x6_1 ≥ 0
   ·
    rw [if_pos c5] at H
    have c5b0 : decide (0 ≤ x6_1) = true := decide_eq_true c5
    clear c5
    by_cases c6 : 0 ≤ x6_1
    ·
     rw [if_pos c6] at H
     have c6b0 : decide (0 ≤ x6_1) = true := decide_eq_true c6
     clear c6
     by_cases c7 : x6_1 < (l0_0.length : Int)
     ·
      rw [if_pos c7] at H
      have c7b0 : decide (x6_1 < (l0_0.length : Int)) = true := decide_eq_true c7
      clear c7
      have H' := Aside0.mk H
      clear H
      obtain ⟨_, _, _, _, _⟩ := cz5 BK110
      have hfz8_0 := blk_frozen BK110.out
      have p111 : 0 ≤ (x6_1 : Int) := of_x
      have q111 : x6_1 < (l0_0.length : Int) := of_x
      obtain ⟨ad111, A111_0, c111_0, e111, hx111_0, hx111_1, hx111_2, hx111_3, hl111_0, hi111_0⟩ := at_T50 HR0_0.out x6_1 p111 q111
      cases e111
      replace hx111_0 := cell_x HB hx111_0
      replace hx111_1 := cell_x HB hx111_1
      replace hx111_2 := cell_x HB hx111_2
      replace hx111_3 := cell_x HB hx111_3
      have HR111_0 := Aside0.mk hi111_0
      have HC111_0 := Aside0.mk hl111_0
      clear hi111_0 hl111_0
      replace p111 := eq_true p111
      replace q111 := eq_true q111
      go_wp2
      go_loopg [7, 27] k1 (fun kq v7 v27 w' => ∃ (x7_2 : Bool) (x27_2 : Int), v7 = .bool x7_2 ∧ v27 = .int .i64 x27_2 ∧ Aside0 (strip_left.l1 kq l1 x5_1 x6_1 x7_2 l0_0 (l0_0.length : Int) x27_2 l0_0 a0_1 l0_2 a0_3 l0_4 = some r) ∧ Aside0 (kq ≤ k1) ∧ Aside0 (w'.heap[gb110]? = some (.cells #[(.slice (some ad111) l0_0.length c0_0), .int .i64 a0_1, (.slice A0_2 l0_2.length c0_2), .int .i64 a0_3, (.slice A0_4 l0_4.length c0_4)] 26 (0, 0))) ∧ Aside0 (Below w.heap.size w w'))
      case atStart => exact ⟨((rd_T50 l0_0 x6_1).f1), (0), (by first | rfl | (simp; done) | (simp [*]; done)), (by first | rfl | (simp; done) | (simp [*]; done)), H', ⟨Nat.le_refl _⟩, ⟨blk_x BK110.out⟩, ⟨by exact below_y HB.out⟩⟩
      case round =>
       clear H'
       obtain ⟨x7_2, x27_2, rfl, rfl, HA, HK2, BK110, HB⟩ := hrel
       cases gk with
       | zero => exact absurd HA.out (by simp [strip_left.l1])
       | succ k2 =>
        have H := HA.out
        clear HA
        simp only [strip_left.l1] at H
        by_cases c9 : x27_2 < (l0_0.length : Int)
        ·
         rw [if_pos c9] at H
         have c9b0 : decide (x27_2 < (l0_0.length : Int)) = true := decide_eq_true c9
         clear c9
         by_cases c10 : 0 ≤ x27_2
         ·
          rw [if_pos c10] at H
          have c10b0 : decide (0 ≤ x27_2) = true := decide_eq_true c10
          clear c10
          by_cases c11 : x27_2 < (l0_0.length : Int)
          ·
           rw [if_pos c11] at H
           have c11b0 : decide (x27_2 < (l0_0.length : Int)) = true := decide_eq_true c11
           clear c11
           by_cases c12 : x7_2 = true
           ·
            subst c12
            have H1 : (strip_left.l1 k2 l1 x5_1 x6_1 true l0_0 (l0_0.length : Int) (wrap64 (x27_2 + 1)) l0_0 a0_1 l0_2 a0_3 l0_4) = some r := by rw [if_pos rfl] at H; exact H
            clear H
            have H := H1
            clear H1
            have H' := Aside0.mk H
            clear H
            have p112 : 0 ≤ (x27_2 : Int) := of_x
            have q112 : x27_2 < (l0_0.length : Int) := of_x
            obtain ⟨ad112, A112_0, c112_0, e112, hx112_0, hx112_1, hx112_2, hx112_3, hl112_0, hi112_0⟩ := at_T50 HR0_0.out x27_2 p112 q112
            obtain rfl : ad111 = ad112 := (by injection e112)
            replace hx112_0 := cell_x HB hx112_0
            replace hx112_1 := cell_x HB hx112_1
            replace hx112_2 := cell_x HB hx112_2
            replace hx112_3 := cell_x HB hx112_3
            have HR112_0 := Aside0.mk hi112_0
            have HC112_0 := Aside0.mk hl112_0
            clear hi112_0 hl112_0
            replace p112 := eq_true p112
            replace q112 := eq_true q112
            go_wp2_with (first | ((with_reducible refine gate_dst (N := 9) rfl ?_); refine box_event ?hg (N := 9) ?hd (cs := #[.slice none 0 0, .bool false, .int .i64 0, .int .i64 0]) (t := 50) ?hr ?_; (case hd => rfl); (case hg => rfl); (case hr => first | (go_simp; done) | (go_simp; rfl)); intro gb113 hg w13 hbox hb; have BK113 := Aside0.mk (hbox); have GW113 := Aside0.mk ((by rw [hg]; exact (below_size (by exact below_y HB.out)) : w.heap.size ≤ gb113)); have GE113 := Aside0.mk ((by rw [hg]; exact (below_size (by exact below_y HB.out)) : w.heap.size ≤ gb113)); replace HB := bl_x HB hb; have NB110_113 := Aside0.mk ((by rw [hg]; exact Nat.ne_of_lt (blk_lt (g := gb110) (o := .cells #[.slice (some ad111) l0_0.length c0_0, .int .i64 a0_1, .slice A0_2 l0_2.length c0_2, .int .i64 a0_3, .slice A0_4 l0_4.length c0_4] 26 (0, 0)) (blk_x BK110.out)) : gb110 ≠ gb113)); have NB113_110 := Aside0.mk ((by rw [hg]; exact Nat.ne_of_gt (blk_lt (g := gb110) (o := .cells #[.slice (some ad111) l0_0.length c0_0, .int .i64 a0_1, .slice A0_2 l0_2.length c0_2, .int .i64 a0_3, .slice A0_4 l0_4.length c0_4] 26 (0, 0)) (blk_x BK110.out)) : gb113 ≠ gb110)); replace BK110 := Aside0.mk (blk_below (blk_x BK110.out) hb); clear hb hbox hg; have hnb14 := NB113_110.out; have hnc14 := NB110_113.out; obtain ⟨_, _, _, _⟩ := cz4 BK113; have hfz15_0 := blk_frozen BK113.out))
            go_roundg k2
            case measure => have := HK1.out; have := HK2.out; omega
            case rel => exact ⟨(true), (wrap64 (x27_2 + 1)), (by first | rfl | (simp; done) | (simp [*]; done)), (by first | rfl | (simp; done) | (simp [*]; done)), H', ⟨by have := HK1.out; have := HK2.out; omega⟩, ⟨blk_w BK110.out⟩, ⟨by exact below_y HB.out⟩⟩
           ·
            replace c12 := Bool.eq_false_iff.mpr c12
            subst c12
            have H1 : ((strip_set_has.f x5_1 x27_2).bind fun t114 => (if t114 = true then ((slices_Contains_int_int.f k2 ((rd_T50 l0_0 x27_2).f0) x6_1).bind fun t115 => (strip_left.l1 k2 l1 x5_1 x6_1 t115 l0_0 (l0_0.length : Int) (wrap64 (x27_2 + 1)) l0_0 a0_1 l0_2 a0_3 l0_4)) else (strip_left.l1 k2 l1 x5_1 x6_1 false l0_0 (l0_0.length : Int) (wrap64 (x27_2 + 1)) l0_0 a0_1 l0_2 a0_3 l0_4))) = some r := by rw [if_neg (show ¬ (false = true) by decide)] at H; exact H
            clear H
            have H := H1
            clear H1
            replace H := Option.bind_eq_some_iff.mp H
            obtain ⟨t114, A160, H⟩ := H
            try dsimp only at H
            have A16 := Aside0.mk A160
            clear A160
            by_cases c17 : t114 = true
            ·
             subst c17
             have H1 : ((slices_Contains_int_int.f k2 ((rd_T50 l0_0 x27_2).f0) x6_1).bind fun t115 => (strip_left.l1 k2 l1 x5_1 x6_1 t115 l0_0 (l0_0.length : Int) (wrap64 (x27_2 + 1)) l0_0 a0_1 l0_2 a0_3 l0_4)) = some r := by rw [if_pos rfl] at H; exact H
             clear H
             have H := H1
             clear H1
             replace H := Option.bind_eq_some_iff.mp H
             obtain ⟨t115, A180, H⟩ := H
             try dsimp only at H
             have A18 := Aside0.mk A180
             clear A180
             have H' := Aside0.mk H
             clear H
             have p112 : 0 ≤ (x27_2 : Int) := of_x
             have q112 : x27_2 < (l0_0.length : Int) := of_x
             obtain ⟨ad112, A112_0, c112_0, e112, hx112_0, hx112_1, hx112_2, hx112_3, hl112_0, hi112_0⟩ := at_T50 HR0_0.out x27_2 p112 q112
             obtain rfl : ad111 = ad112 := (by injection e112)
             replace hx112_0 := cell_x HB hx112_0
             replace hx112_1 := cell_x HB hx112_1
             replace hx112_2 := cell_x HB hx112_2
             replace hx112_3 := cell_x HB hx112_3
             have HR112_0 := Aside0.mk hi112_0
             have HC112_0 := Aside0.mk hl112_0
             clear hi112_0 hl112_0
             replace p112 := eq_true p112
             replace q112 := eq_true q112
             go_wp2_with (first | ((with_reducible refine gate_dst (N := 9) rfl ?_); refine box_event ?hg (N := 9) ?hd (cs := #[.slice none 0 0, .bool false, .int .i64 0, .int .i64 0]) (t := 50) ?hr ?_; (case hd => rfl); (case hg => rfl); (case hr => first | (go_simp; done) | (go_simp; rfl)); intro gb113 hg w19 hbox hb; have BK113 := Aside0.mk (hbox); have GW113 := Aside0.mk ((by rw [hg]; exact (below_size (by exact below_y HB.out)) : w.heap.size ≤ gb113)); have GE113 := Aside0.mk ((by rw [hg]; exact (below_size (by exact below_y HB.out)) : w.heap.size ≤ gb113)); replace HB := bl_x HB hb; have NB110_113 := Aside0.mk ((by rw [hg]; exact Nat.ne_of_lt (blk_lt (g := gb110) (o := .cells #[.slice (some ad111) l0_0.length c0_0, .int .i64 a0_1, .slice A0_2 l0_2.length c0_2, .int .i64 a0_3, .slice A0_4 l0_4.length c0_4] 26 (0, 0)) (blk_x BK110.out)) : gb110 ≠ gb113)); have NB113_110 := Aside0.mk ((by rw [hg]; exact Nat.ne_of_gt (blk_lt (g := gb110) (o := .cells #[.slice (some ad111) l0_0.length c0_0, .int .i64 a0_1, .slice A0_2 l0_2.length c0_2, .int .i64 a0_3, .slice A0_4 l0_4.length c0_4] 26 (0, 0)) (blk_x BK110.out)) : gb113 ≠ gb110)); replace BK110 := Aside0.mk (blk_below (blk_x BK110.out) hb); clear hb hbox hg; have hnb20 := NB113_110.out; have hnc20 := NB110_113.out; obtain ⟨_, _, _, _⟩ := cz4 BK113; have hfz21_0 := blk_frozen BK113.out) | (go_at_call 59; (with_reducible refine (strip_set_has.calls x5_1 x27_2 true _ A16.out).mono ?_); rintro e w' ⟨rfl, ⟨nd, rfl⟩⟩) | (go_at_call 78; (with_reducible refine (slices_Contains_int_int.calls k2 _ _ ((rd_T50 l0_0 x27_2).f0) x6_1 t115 _ ?side1 ?side2 A18.out).mono ?_); (case side1 => exact Kd.C_below HR112_0.out (by exact below_y HB.out)); (case side2 => exact HC112_0.out); rintro e w' ⟨rfl, ⟨nd, rfl⟩⟩))
             go_roundg k2
             case measure => have := HK1.out; have := HK2.out; omega
             case rel => exact ⟨(t115), (wrap64 (x27_2 + 1)), (by first | rfl | (simp; done) | (simp [*]; done)), (by first | rfl | (simp; done) | (simp [*]; done)), H', ⟨by have := HK1.out; have := HK2.out; omega⟩, ⟨blk_w BK110.out⟩, ⟨by exact below_y HB.out⟩⟩
            ·
             replace c17 := Bool.eq_false_iff.mpr c17
             subst c17
             have H1 : (strip_left.l1 k2 l1 x5_1 x6_1 false l0_0 (l0_0.length : Int) (wrap64 (x27_2 + 1)) l0_0 a0_1 l0_2 a0_3 l0_4) = some r := by rw [if_neg (show ¬ (false = true) by decide)] at H; exact H
             clear H
             have H := H1
             clear H1
             have H' := Aside0.mk H
             clear H
             have p112 : 0 ≤ (x27_2 : Int) := of_x
             have q112 : x27_2 < (l0_0.length : Int) := of_x
             obtain ⟨ad112, A112_0, c112_0, e112, hx112_0, hx112_1, hx112_2, hx112_3, hl112_0, hi112_0⟩ := at_T50 HR0_0.out x27_2 p112 q112
             obtain rfl : ad111 = ad112 := (by injection e112)
             replace hx112_0 := cell_x HB hx112_0
             replace hx112_1 := cell_x HB hx112_1
             replace hx112_2 := cell_x HB hx112_2
             replace hx112_3 := cell_x HB hx112_3
             have HR112_0 := Aside0.mk hi112_0
             have HC112_0 := Aside0.mk hl112_0
             clear hi112_0 hl112_0
             replace p112 := eq_true p112
             replace q112 := eq_true q112
             go_wp2_with (first | ((with_reducible refine gate_dst (N := 9) rfl ?_); refine box_event ?hg (N := 9) ?hd (cs := #[.slice none 0 0, .bool false, .int .i64 0, .int .i64 0]) (t := 50) ?hr ?_; (case hd => rfl); (case hg => rfl); (case hr => first | (go_simp; done) | (go_simp; rfl)); intro gb113 hg w22 hbox hb; have BK113 := Aside0.mk (hbox); have GW113 := Aside0.mk ((by rw [hg]; exact (below_size (by exact below_y HB.out)) : w.heap.size ≤ gb113)); have GE113 := Aside0.mk ((by rw [hg]; exact (below_size (by exact below_y HB.out)) : w.heap.size ≤ gb113)); replace HB := bl_x HB hb; have NB110_113 := Aside0.mk ((by rw [hg]; exact Nat.ne_of_lt (blk_lt (g := gb110) (o := .cells #[.slice (some ad111) l0_0.length c0_0, .int .i64 a0_1, .slice A0_2 l0_2.length c0_2, .int .i64 a0_3, .slice A0_4 l0_4.length c0_4] 26 (0, 0)) (blk_x BK110.out)) : gb110 ≠ gb113)); have NB113_110 := Aside0.mk ((by rw [hg]; exact Nat.ne_of_gt (blk_lt (g := gb110) (o := .cells #[.slice (some ad111) l0_0.length c0_0, .int .i64 a0_1, .slice A0_2 l0_2.length c0_2, .int .i64 a0_3, .slice A0_4 l0_4.length c0_4] 26 (0, 0)) (blk_x BK110.out)) : gb113 ≠ gb110)); replace BK110 := Aside0.mk (blk_below (blk_x BK110.out) hb); clear hb hbox hg; have hnb23 := NB113_110.out; have hnc23 := NB110_113.out; obtain ⟨_, _, _, _⟩ := cz4 BK113; have hfz24_0 := blk_frozen BK113.out) | (go_at_call 59; (with_reducible refine (strip_set_has.calls x5_1 x27_2 false _ A16.out).mono ?_); rintro e w' ⟨rfl, ⟨nd, rfl⟩⟩))
             go_roundg k2
             case measure => have := HK1.out; have := HK2.out; omega
             case rel => exact ⟨(false), (wrap64 (x27_2 + 1)), (by first | rfl | (simp; done) | (simp [*]; done)), (by first | rfl | (simp; done) | (simp [*]; done)), H', ⟨by have := HK1.out; have := HK2.out; omega⟩, ⟨blk_w BK110.out⟩, ⟨by exact below_y HB.out⟩⟩
          ·
           rw [if_neg c11] at H
           exact absurd H (by simp)
         ·
          rw [if_neg c10] at H
          exact absurd H (by simp)
        ·
         rw [if_neg c9] at H
         have c9b0 : decide (x27_2 < (l0_0.length : Int)) = false := decide_eq_false c9
         clear c9
         by_cases c25 : x7_2 = true
         ·
          subst c25
          have H1 : (if 0 ≤ x6_1 then (if x6_1 < (l1.length : Int) then (if (rd l1 x6_1) = 1 then (strip_left.l0 k2 l1 x5_1 (wrap64 (x6_1 - 1)) l0_0 a0_1 l0_2 a0_3 l0_4) else (strip_left.l0 k2 l1 (Go.bits .or .u16 x5_1 (shl .u16 1 x6_1)) (wrap64 (x6_1 - 1)) l0_0 a0_1 l0_2 a0_3 l0_4)) else (none)) else (none)) = some r := by rw [if_pos rfl] at H; exact H
          clear H
          have H := H1
          clear H1
          by_cases c26 : 0 ≤ x6_1
          ·
           rw [if_pos c26] at H
           have c26b0 : decide (0 ≤ x6_1) = true := decide_eq_true c26
           clear c26
           by_cases c27 : x6_1 < (l1.length : Int)
           ·
            rw [if_pos c27] at H
            have c27b0 : decide (x6_1 < (l1.length : Int)) = true := decide_eq_true c27
            clear c27
            by_cases c28 : (rd l1 x6_1) = 1
            ·
             rw [if_pos c28] at H
             have c28b0 : ((rd l1 x6_1) == 1) = true := beq_iff_eq.mpr c28
             have c28b1 : ((rd l1 x6_1) != 1) = false := bne_eq_false_iff_eq.mpr c28
             clear c28
             have H' := Aside0.mk H
             clear H
             have p116 : 0 ≤ (x6_1 : Int) := of_x
             have q116 : x6_1 < (l1.length : Int) := of_x
             obtain ⟨ad116, e116, hx116_0⟩ := Kd.at_int HR1.out x6_1 p116 q116
             cases e116
             replace hx116_0 := cell_x HB hx116_0
             replace p116 := eq_true p116
             replace q116 := eq_true q116
             go_wp2
             go_roundg k2
             case measure => have := HK1.out; have := HK2.out; omega
             case rel => exact ⟨(x5_1), (wrap64 (x6_1 - 1)), (by first | rfl | (simp; done) | (simp [*]; done)), (by first | rfl | (simp; done) | (simp [*]; done)), H', ⟨by have := HK1.out; have := HK2.out; omega⟩, ⟨blk_x BK110.out⟩, ⟨by exact below_y HB.out⟩⟩
            ·
             rw [if_neg c28] at H
             have c28b0 : ((rd l1 x6_1) == 1) = false := beq_eq_false_iff_ne.mpr c28
             have c28b1 : ((rd l1 x6_1) != 1) = true := bne_iff_ne.mpr c28
             have c29b0 := eq_true (of_x : 0 ≤ x6_1)
             obtain ⟨ji30, hji30⟩ : ∃ j_ : Int, (shl .u16 1 x6_1) = j_ := ⟨_, rfl⟩
             replace H : (strip_left.l0 k2 l1 (Go.bits .or .u16 x5_1 (ji30)) (wrap64 (x6_1 - 1)) l0_0 a0_1 l0_2 a0_3 l0_4) = some r := by first | (rw [hji30] at H; exact H) | (simp only [hji30] at H ⊢; exact H)
             have hji30_ : (IntKind.u16.wrap (1 * 2 ^ min x6_1.toNat 16)) = ji30 := hji30
             have hji30z : x6_1 ≤ 16 → (IntKind.u16.wrap (1 * 2 ^ x6_1.toNat)) = ji30 := shl_small hji30
             have hji30u : (IntKind.u16.wrap (2 ^ min x6_1.toNat 16)) = ji30 := by have h_ := hji30_; rw [Int.one_mul] at h_; exact h_
             have hji30v : x6_1 ≤ 16 → (IntKind.u16.wrap (2 ^ x6_1.toNat)) = ji30 := fun hle_ => by have h_ := hji30z hle_; rw [Int.one_mul] at h_; exact h_
             have H' := Aside0.mk H
             clear H
             have p116 : 0 ≤ (x6_1 : Int) := of_x
             have q116 : x6_1 < (l1.length : Int) := of_x
             obtain ⟨ad116, e116, hx116_0⟩ := Kd.at_int HR1.out x6_1 p116 q116
             cases e116
             replace hx116_0 := cell_x HB hx116_0
             replace p116 := eq_true p116
             replace q116 := eq_true q116
             go_wp2
             go_roundg k2
             case measure => have := HK1.out; have := HK2.out; omega
             case rel => exact ⟨(Go.bits .or .u16 x5_1 (ji30)), (wrap64 (x6_1 - 1)), (by first | rfl | (simp; done) | (simp only [← hji30] <;> (first | rfl | simp)) | (simp [*]; done)), (by first | rfl | (simp; done) | (simp [*]; done)), H', ⟨by have := HK1.out; have := HK2.out; omega⟩, ⟨blk_x BK110.out⟩, ⟨by exact below_y HB.out⟩⟩
           ·
            rw [if_neg c27] at H
            exact absurd H (by simp)
          ·
           rw [if_neg c26] at H
           exact absurd H (by simp)
         ·
          replace c25 := Bool.eq_false_iff.mpr c25
          subst c25
          have H1 : (strip_left.l0 k2 l1 x5_1 (wrap64 (x6_1 - 1)) l0_0 a0_1 l0_2 a0_3 l0_4) = some r := by rw [if_neg (show ¬ (false = true) by decide)] at H; exact H
          clear H
          have H := H1
          clear H1
          have H' := Aside0.mk H
          clear H
          go_wp2
          go_roundg k2
          case measure => have := HK1.out; have := HK2.out; omega
          case rel => exact ⟨(x5_1), (wrap64 (x6_1 - 1)), (by first | rfl | (simp; done) | (simp [*]; done)), (by first | rfl | (simp; done) | (simp [*]; done)), H', ⟨by have := HK1.out; have := HK2.out; omega⟩, ⟨blk_x BK110.out⟩, ⟨by exact below_y HB.out⟩⟩
     ·
      rw [if_neg c7] at H
      exact absurd H (by simp)
    ·
     rw [if_neg c6] at H
     exact absurd H (by simp)
   ·
    rw [if_neg c5] at H
    have c5b0 : decide (0 ≤ x6_1) = false := decide_eq_false c5
    clear c5
    obtain rfl := Option.some.inj H
    go_wp2
    go_ret
    exact ⟨by first | rfl | (simp [errW_none, errW_some] <;> rfl) | (simp [*, errW_none, errW_some] <;> rfl), by exact below_y HB.out⟩
end Go.Proofs.Ytkkmfcdikkiodaa.PC4
namespace Go.Proofs.Ytkkmfcdikkiodaa.PC4
set_option linter.unusedVariables false
open Go.RowKit Go.Shelf Go.Proofs.YtkkmfcdikkiodaaW.PrintWords Go.Proofs.YtkkmfcdikkiodaaW.PrintLast Go.Proofs.YtkkmfcdikkiodaaW.PrintMore
attribute [local go_sem] Oper.semAt_some
def encState (x : Nat × Nat) : Array Value := #[.int .u16 (x.1 : Int), .int .i64 (x.2 : Int)]
def KpS (n₀ gb : Nat) (W W' : World) : Prop := Below n₀ W W' ∧ W'.heap[gb]? = W.heap[gb]?
set_option maxHeartbeats 8000000 in
set_option maxRecDepth 100000 in
theorem states_stops (n gb n₀ : Nat) (hn : 1 ≤ n) (A0 : Option Addr) (c0 : Nat) (parts : List S50) (swap : Int) (A2 : Option Addr) (c2 : Nat) (looks : List S61) (wrong : Int) (A4 : Option Addr) (c4 : Nat) (needs : List Int) (w wc : World)
    (hp : Kd.C k50 wc A0 parts.length parts) (hl : Kd.C k61 wc A2 looks.length looks) (hwc : Below wc.heap.size wc w) (hn0 : wc.heap.size ≤ n₀)
    (hb : w.heap[gb]? = some (.cells #[.slice A0 parts.length c0, .int .i64 swap, .slice A2 looks.length c2, .int .i64 wrong, .slice A4 needs.length c4] 26 (0, 0))) (hok : CarOK parts looks) :
    SeqStopsK Fence.wide n Try.prog 90 #[.pointer (some ⟨gb, 0, none⟩)] encState (KpS wc.heap.size gb) (fun xs => xs = statesL parts looks) (fun pre => pre <+: statesL parts looks) (statesL parts looks).length w := by
  intro l J Jx W hW hJ hJx hY h0
  refine callsIn_wide.2 ?_
  have BK := Aside0.mk (blk_below hb hW)
  have hz0 := (blk_cell BK.out 0).trans rfl
  have HY := Aside0.mk hY
  have H0 := Aside0.mk h0
  clear hb hY h0
  have hu50 := Try.underlying50
  have hu61 := Try.underlying61
  go_enter Try.func90, Try.ntmps90
  go_wp2
  go_step3
  go_wp2
  go_step3
  go_wp2
  rw [shl_len hok.few]
  have HOK := Aside0.mk hok
  have hM9 := pow_le_512 hok.few
  obtain ⟨M, hM⟩ : ∃ M : Nat, M = 2 ^ parts.length := ⟨_, rfl⟩
  rw [← hM] at hM9 ⊢
  have HM := Aside0.mk hM
  have HBc := Aside0.mk (hwc.trans (hW.mono hwc.size))
  have HP := Aside0.mk hp
  have HL := Aside0.mk hl
  clear hM hok hp hl hW hwc
  have hpl : parts.length ≤ 9 := HOK.out.few
  have hll : looks.length ≤ 140737488351232 := HOK.out.lks
  go_loopg [13] M (fun gk v13 wr => ∃ m : Nat, m ≤ M ∧ M - m ≤ gk ∧ v13 = .int .u16 m ∧ Aside0 (J (statesTo parts looks m) wr) ∧ Aside0 (wr.heap[gb]? = some (.cells #[.slice A0 parts.length c0, .int .i64 swap, .slice A2 looks.length c2, .int .i64 wrong, .slice A4 needs.length c4] 26 (0, 0))) ∧ Aside0 (Below wc.heap.size wc wr) ∧ Aside0 (W.heap.size ≤ wr.heap.size))
  case atStart => exact ⟨0, Nat.zero_le _, by omega, rfl, H0, BK, HBc, ⟨Nat.le_refl _⟩⟩
  case round =>
    clear hz0 BK HBc H0
    obtain ⟨m, hm, hgk, rfl, HJm, BK, HB, HS⟩ := hrel
    by_cases hlt : m < M
    · have hlz : (m : Int) < (M : Int) := by omega
      have hz0 := (blk_cell BK.out 0).trans rfl
      have hz2 := (blk_cell BK.out 2).trans rfl
      go_wp2
      obtain ⟨wo, hwo⟩ : ∃ wo : World, wo = wr := ⟨_, rfl⟩
      rw [← hwo] at HJm BK HB HS ⊢
      clear hz0 hz2 hwo
      go_loopg [19] parts.length (fun gk2 v19 wr2 => ∃ k : Nat, k ≤ parts.length ∧ parts.length - k ≤ gk2 ∧ v19 = .int .i64 k ∧ Aside0 (okGo m k (parts.drop k) = okM parts m) ∧ Aside0 (J (statesTo parts looks m) wr2) ∧ Aside0 (wr2.heap[gb]? = some (.cells #[.slice A0 parts.length c0, .int .i64 swap, .slice A2 looks.length c2, .int .i64 wrong, .slice A4 needs.length c4] 26 (0, 0))) ∧ Aside0 (Below wc.heap.size wc wr2) ∧ Aside0 (W.heap.size ≤ wr2.heap.size))
      case atStart => exact ⟨0, Nat.zero_le _, by omega, rfl, ⟨rfl⟩, HJm, BK, HB, HS⟩
      case round =>
        clear HJm BK HB HS
        obtain ⟨k, hk, hgk2, rfl, HO, HJm, BK, HB, HS⟩ := hrel
        by_cases hlt2 : k < parts.length
        · have hlz2 : (k : Int) < (parts.length : Int) := by omega
          obtain ⟨ad, A1, c1, e, hx0, hx1, hx2, hx3, hl1, hi1⟩ := at_T50 HP.out (k : Int) (by omega) hlz2
          cases e
          rw [Int.toNat_natCast] at hx0 hx1 hx2 hx3
          replace hx0 := (HB.out.cell (World.block_lt_of_cell? wc _ hx0)).trans hx0
          replace hx1 := (HB.out.cell (World.block_lt_of_cell? wc _ hx1)).trans hx1
          replace hx2 := (HB.out.cell (World.block_lt_of_cell? wc _ hx2)).trans hx2
          replace hx3 := (HB.out.cell (World.block_lt_of_cell? wc _ hx3)).trans hx3
          have HY2 : Aside0 (parts.getD k z50 = rd_T50 parts k) := ⟨by simp [rd_T50]⟩
          have HD := Aside0.mk (drop_cons_rd parts k hlt2 z50)
          have HQ := Aside0.mk (HOK.out.bef (parts.getD k z50) (by rw [List.getD, List.getElem?_eq_getElem hlt2]; exact List.getElem_mem hlt2))
          rw [HY2.out] at HD HQ
          clear HY2
          generalize rd_T50 parts k = y at *
          have HI1 := Aside0.mk hi1
          have HL1 := Aside0.mk hl1
          clear hi1 hl1
          rw [HD.out, okGo_cons] at HO
          have HH := Aside0.mk (fun W => strip_set_has.calls m k (m.testBit k) W (has_f m k (by omega) (by omega)))
          have HA := Aside0.mk (fun W => strip_set_all.calls m (maskOf y.f0 : Nat) (subM (maskOf y.f0) m) W (all_f m _ (by omega) (maskOf_lt _ HQ.out.2)))
          have HS2 := Aside0.mk (setOf_f y.f0 HQ.out.1 HQ.out.2)
          generalize m.testBit k = b1 at *
          generalize subM (maskOf y.f0) m = b2 at *
          generalize ((maskOf y.f0 : Nat) : Int) = mk at *
          go_wp2_with (fail)
          refine (HH.out _).mono ?_
          rintro e w4 ⟨rfl, ⟨m4, rfl⟩⟩
          clear HH
          cases b1 with
          | false =>
            go_wp2
            go_roundg (parts.length - (k + 1))
            case measure => omega
            case rel => exact ⟨k + 1, by omega, by omega, by go_num, ⟨by rw [← HO.out]; rfl⟩, ⟨hJ _ _ _ _ HJm.out (grown_of_below (by repeat (first | exact Below.refl _ _ | apply below_alloc | apply pw_below_drewN | apply below_drew1)) none) (by simp)⟩, ⟨(by (with_reducible repeat (first | refine blk_drewN ?_ _ | refine blk_drew ?_ | refine blk_alloc ?_ _)); exact BK.out)⟩, ⟨(by repeat (first | (with_reducible first | exact HB.out | apply below_alloc | apply pw_below_drewN | apply below_drew1) | exact HB.out))⟩, ⟨by simp; have := HS.out; omega⟩⟩
          | true =>
            go_wp2_with (fail)
            refine (strip_setOf.calls (y.f0.length + 1) A1 c1 y.f0 mk _ ?h1 HL1.out HS2.out).mono ?_
            case h1 => exact Kd.C_below HI1.out (by repeat (first | (with_reducible first | exact HB.out | apply below_alloc | apply pw_below_drewN | apply below_drew1) | exact HB.out))
            rintro e w5 ⟨rfl, ⟨m5, rfl⟩⟩
            go_wp2_with (fail)
            refine (HA.out _).mono ?_
            rintro e w6 ⟨rfl, ⟨m6, rfl⟩⟩
            clear HA HS2
            cases b2 with
            | false =>
              have hmw : IntKind.u16.wrap ((m : Int) + 1) = ((m + 1 : Nat) : Int) := by rw [u16_wrap]; omega
              go_wp2
              go_roundg (M - (m + 1))
              case measure => omega
              case rel => exact ⟨m + 1, by omega, by omega, by first | rfl | go_num, ⟨by rw [statesTo_succ, ← HO.out]; exact hJ _ _ _ _ HJm.out (grown_of_below (by repeat (first | exact Below.refl _ _ | apply below_alloc | apply pw_below_drewN | apply below_drew1)) none) (by simp)⟩, ⟨(by (with_reducible repeat (first | refine blk_drewN ?_ _ | refine blk_drew ?_ | refine blk_alloc ?_ _)); exact BK.out)⟩, ⟨(by repeat (first | (with_reducible first | exact HB.out | apply below_alloc | apply pw_below_drewN | apply below_drew1) | exact HB.out))⟩, ⟨by simp; have := HS.out; omega⟩⟩
            | true =>
              go_wp2
              go_roundg (parts.length - (k + 1))
              case measure => omega
              case rel => exact ⟨k + 1, by omega, by omega, by go_num, ⟨by rw [← HO.out]; rfl⟩, ⟨hJ _ _ _ _ HJm.out (grown_of_below (by repeat (first | exact Below.refl _ _ | apply below_alloc | apply pw_below_drewN | apply below_drew1)) none) (by simp)⟩, ⟨(by (with_reducible repeat (first | refine blk_drewN ?_ _ | refine blk_drew ?_ | refine blk_alloc ?_ _)); exact BK.out)⟩, ⟨(by repeat (first | (with_reducible first | exact HB.out | apply below_alloc | apply pw_below_drewN | apply below_drew1) | exact HB.out))⟩, ⟨by simp; have := HS.out; omega⟩⟩
        · have : k = parts.length := by omega
          subst this
          rw [List.drop_length] at HO
          have HO2 : Aside0 (okM parts m = true) := ⟨HO.out.symm⟩
          have hz2 := (blk_cell BK.out 2).trans rfl
          clear HO hk hgk2 hlt2
          go_wp2
          obtain ⟨wp, hwp⟩ : ∃ wp : World, wp = wr := ⟨_, rfl⟩
          rw [← hwp] at HJm BK HB HS ⊢
          clear hz2 hwp
          go_loopg [6, 39] looks.length (fun gk2 v6 v39 wr2 => ∃ k : Nat, k ≤ looks.length ∧ looks.length - k ≤ gk2 ∧ v6 = .int .i64 (wrongM m (looks.take k) : Nat) ∧ v39 = .int .i64 k ∧ Aside0 (J (statesTo parts looks m) wr2) ∧ Aside0 (wr2.heap[gb]? = some (.cells #[.slice A0 parts.length c0, .int .i64 swap, .slice A2 looks.length c2, .int .i64 wrong, .slice A4 needs.length c4] 26 (0, 0))) ∧ Aside0 (Below wc.heap.size wc wr2) ∧ Aside0 (W.heap.size ≤ wr2.heap.size))
          case atStart => exact ⟨0, Nat.zero_le _, by omega, rfl, rfl, HJm, BK, HB, HS⟩
          case round =>
            clear HJm BK HB HS
            obtain ⟨k, hk, hgk2, rfl, rfl, HJm, BK, HB, HS⟩ := hrel
            have hwle := wrongM_le m (looks.take k)
            have htl : (looks.take k).length ≤ k := List.length_take_le _ _
            by_cases hlt2 : k < looks.length
            · have hlz2 : (k : Int) < (looks.length : Int) := by omega
              have HTS : Aside0 (wrongM m (looks.take (k + 1)) = wrongM m (looks.take k) + (if m.testBit (looks.getD k z61).f0.toNat != (looks.getD k z61).f1 then 1 else 0)) := ⟨by rw [List.take_succ_eq_append_getElem hlt2, wrongM_snoc, List.getD, List.getElem?_eq_getElem hlt2]; rfl⟩
              obtain ⟨ad, e, hx0, hx1⟩ := at_T61 HL.out (k : Int) (by omega) hlz2
              cases e
              rw [Int.toNat_natCast] at hx0 hx1
              replace hx0 := (HB.out.cell (World.block_lt_of_cell? wc _ hx0)).trans hx0
              replace hx1 := (HB.out.cell (World.block_lt_of_cell? wc _ hx1)).trans hx1
              have HQ := Aside0.mk (HOK.out.prt (looks.getD k z61) (by rw [List.getD, List.getElem?_eq_getElem hlt2]; exact List.getElem_mem hlt2))
              have HY2 : Aside0 (looks.getD k z61 = rd_T61 looks k) := ⟨by simp [rd_T61]⟩
              rw [HY2.out] at HTS HQ
              clear HY2
              generalize rd_T61 looks k = y at *
              generalize wrongM m (looks.take k) = c at *
              obtain ⟨f, o⟩ := y
              obtain ⟨q, hq⟩ := Int.eq_ofNat_of_zero_le HQ.out.1
              obtain rfl : f = (q : Int) := hq
              have hq16 : q < 16 := by have := HQ.out.2; simp at this; omega
              have HH := Aside0.mk (fun W => (strip_set_has.calls m q (m.testBit q) W (has_f m q (by omega) (by omega))).mono (fun e w' h => (⟨h.1, h.2.out⟩ : _ ∧ ∃ m, w' = W.drewN m)))
              have HTS2 : Aside0 (wrongM m (looks.take (k + 1)) = c + (if m.testBit q != o then 1 else 0)) := ⟨HTS.out⟩
              clear HTS HQ
              generalize m.testBit q = b1 at *
              go_wp2
              go_quiet ((go_at_call 59; exact Calls.quiet_of (HH.out _)))
              clear HH
              cases b1 <;> cases o <;> go_wp2
              all_goals
                go_roundg (looks.length - (k + 1))
                case measure => omega
                case rel => exact ⟨k + 1, by omega, by omega, by rw [HTS2.out]; first | rfl | go_num, by go_num, ⟨hJ _ _ _ _ HJm.out (grown_of_below (by repeat (first | exact Below.refl _ _ | apply below_alloc | apply pw_below_drewN | apply below_drew1)) none) (by simp)⟩, ⟨(by (with_reducible repeat (first | refine blk_drewN ?_ _ | refine blk_drew ?_ | refine blk_alloc ?_ _)); exact BK.out)⟩, ⟨(by repeat (first | (with_reducible first | exact HB.out | apply below_alloc | apply pw_below_drewN | apply below_drew1) | exact HB.out))⟩, ⟨by simp; have := HS.out; omega⟩⟩
            · have : k = looks.length := by omega
              subst this
              rw [List.take_length] at hwle ⊢
              clear htl hk hgk2 hlt2
              have hlen : (statesTo parts looks m).length < (statesL parts looks).length := by rw [statesL, ← HM.out]; exact statesTo_lt parts looks hlt HO2.out
              obtain ⟨fn, tmps, assign, body, hy, hR⟩ := HY.out (statesTo parts looks m) (m, wrongM m looks) wr HJm.out hlen
              dsimp only [encState] at hy
              have HR := Aside0.mk hR
              clear hR
              go_upto_region 15 with (fail)
              refine (wpIn_wide (n := n)).1 ?_
              gi_wp2
              refine HR.out.mono ?_
              rintro e W3 (⟨rfl, hJ3, hk3⟩ | ⟨rfl, hJx3⟩)
              · have HJ3 := Aside0.mk hJ3
                have HB3 := Aside0.mk (HB.out.trans hk3.1)
                have BK3 := Aside0.mk (hk3.2.trans BK.out)
                have HS3 := Aside0.mk (Nat.le_trans HS.out hk3.1.size)
                clear hJ3 hk3 HR hy
                have hmw : IntKind.u16.wrap ((m : Int) + 1) = ((m + 1 : Nat) : Int) := by rw [u16_wrap]; omega
                gi_wp2
                go_wp2
                go_roundg (M - (m + 1))
                case measure => omega
                case rel => exact ⟨m + 1, by omega, by omega, by first | rfl | go_num, ⟨by rw [statesTo_succ, if_pos HO2.out]; exact HJ3.out⟩, BK3, HB3, HS3⟩
              · have HX := Aside0.mk hJx3
                clear hJx3 HR hy
                gi_wp2
                go_wp2
                rw [Exit.noGoto_ret]
                refine bodyPost_ret (results_none rfl _ _ _) rfl ?_
                refine ⟨⟨_, rfl⟩, .inr ⟨_, ?_, HX.out⟩⟩
                have h1 := statesTo_prefix parts looks (show m + 1 ≤ M from hlt)
                rw [statesTo_succ, if_pos HO2.out] at h1
                rw [statesL, ← HM.out]
                exact h1
    · have : m = M := by omega
      subst this
      go_wp2
      unfold Exit.noGoto
      go_end0
      refine ⟨⟨_, rfl⟩, .inl ⟨_, rfl, ?_⟩⟩
      rw [statesL, ← HM.out]
      exact HJm.out
theorem R_of_owns (k : IntKind) {e : Nat} {W : World} {base : Nat} {v : Value} {xs : List Int} (h : W.ownsRow base e 1 v xs.length (xs.map (Value.int k))) : Kd.R (Kd.int k) e W base (fun _ => True) v xs := by
  refine ⟨fun _ _ => trivial, xs.map (Value.int k), h, by rw [List.length_map]; exact (Nat.mul_one _).symm, fun j p hj => ?_⟩
  have hlt : j < xs.length := by
    by_cases hh : j < xs.length
    · exact hh
    · rw [List.getElem?_eq_none (by omega)] at hj; cases hj
  rw [List.getElem?_eq_getElem hlt] at hj
  obtain rfl := Option.some.inj hj
  show (List.take 1 (List.drop (j * 1) (xs.map (Value.int k)))) = [Value.int k xs[j]]
  rw [Nat.mul_one, List.drop_eq_getElem_cons (by simpa using hlt)]
  simp
theorem kpS_t {n₀ gb : Nat} {A B C : World} (h : KpS n₀ gb A B) (k : KpS n₀ gb B C) : KpS n₀ gb A C := ⟨h.1.trans k.1, k.2.trans h.2⟩
theorem kpS_b {n₀ gb : Nat} {w : World} (hn : n₀ ≤ w.heap.size) (hg : gb < w.heap.size) (W : World) (l : Nat) (o o' : Obj) (hl : w.heap.size ≤ l) (h : W.heap[l]? = some o) (hc : o.isCells = false) (hw : o.isWalk = false) : KpS n₀ gb W (W.putObj l o') :=
  ⟨belowK_b hn W l o o' hl h hc hw, World.putObj_heap_other (by omega)⟩
set_option maxHeartbeats 8000000 in
set_option maxRecDepth 100000 in
theorem states_calls (A0 : Option Addr) (c0 : Nat) (parts : List S50) (swap : Int) (A2 : Option Addr) (c2 : Nat) (looks : List S61) (wrong : Int) (A4 : Option Addr) (c4 : Nat) (needs : List Int) (w : World) :
    Calls Try.prog 70 #[.agg #[.slice A0 parts.length c0, .int .i64 swap, .slice A2 looks.length c2, .int .i64 wrong, .slice A4 needs.length c4]] w fun e w' => ∃ gb, e = .returned (.func (.func 90) #[] #[.pointer (some ⟨gb, 0, none⟩)]) ∧ w.heap.size ≤ gb ∧ gb < w'.heap.size ∧
      w'.heap[gb]? = some (.cells #[.slice A0 parts.length c0, .int .i64 swap, .slice A2 looks.length c2, .int .i64 wrong, .slice A4 needs.length c4] 26 (0, 0)) ∧ Below w.heap.size w w' := by
  have hu26 := Try.underlying26
  have hmf : ∀ (fn : Fn) (first cap : Array Value) (w : World), (Instr.makeFunc fn first cap).run Try.prog w = .ok (.func fn first cap) w := fun _ _ _ _ => rfl
  go_enter Try.func70, Try.ntmps70
  go_wp2_with ((with_reducible refine gate_dst (N := 1) rfl ?_); refine box_event ?hg (N := 1) ?hd (cs := #[.slice A0 parts.length c0, .int .i64 swap, .slice A2 looks.length c2, .int .i64 wrong, .slice A4 needs.length c4]) (t := 26) ?hr ?_; (case hd => rfl); (case hg => rfl); (case hr => first | (go_simp; done) | (go_simp; rfl)); intro gb hg w2 hbox hb2; have BK := Aside0.mk hbox; have HB := Aside0.mk hb2; have HG := Aside0.mk hg; clear hg hbox hb2)
  go_ret
  exact ⟨gb, rfl, Nat.le_of_eq HG.out.symm, blk_lt BK.out, BK.out, HB.out⟩
theorem ownsRow_slice {W : World} {base : Nat} {e : TypeId} {size : Nat} {v : Value} {k : Nat} {xs : List Value} (h : W.ownsRow base e size v k xs) : ∃ A c, v = .slice A k c := by
  rcases h.2 with ⟨rfl, rfl⟩ | ⟨g, cap, _, rfl, _⟩
  · exact ⟨none, 0, rfl⟩
  · exact ⟨_, _, rfl⟩
theorem blk_own {β : Type} (b : Nat) (cs : Array Value) (t : TypeId) (fr : Nat × Nat) : Own (fun (_ : β) W => W.heap[b]? = some (.cells cs t fr)) := by
  intro s A B row h hg hr
  refine (hg.block b (blk_lt h) (fun e => ?_)).trans h
  obtain ⟨o, ho, hc⟩ := hr b e.symm
  rw [h] at ho; cases ho; cases hc
theorem blk_append {W w1 : World} {n₀ b gl t e size k : Nat} {cs : Array Value} {v : Value} {xs : List Value} {tmp : Obj} (hb : W.heap[b]? = some (.cells cs t (0, 0))) (hte : t ≠ e) (hne : b ≠ gl)
    (hrow : W.ownsRow n₀ e size v k xs) (hgrow : (W.alloc tmp).grownBy w1 v.ownBlock) (v' : Value) : (w1.setCell ⟨gl, 0, none⟩ v').heap[b]? = W.heap[b]? := by
  rw [Below.heap_setCell _ _ _ _ hne]
  have hlt := blk_lt hb
  rw [hgrow.block b (by simp; omega) (fun e' => ?_)]
  · exact Below.heap_alloc _ _ _ hlt
  · obtain ⟨cells, hc⟩ := own_typed hrow b e'.symm
    rw [hb] at hc
    injection hc with hc
    injection hc with _ hc
    exact hte hc
def truthsOf (wrong : Int) (l : List (Nat × Nat)) : List Nat := (l.filter fun x => decide ((x.2 : Int) ≤ wrong)).map (·.1)
theorem truthsOf_hit (wrong : Int) (l : List (Nat × Nat)) (x : Nat × Nat) (h : (x.2 : Int) ≤ wrong) : truthsOf wrong (l ++ [x]) = truthsOf wrong l ++ [x.1] := by simp [truthsOf, h]
theorem truthsOf_miss (wrong : Int) (l : List (Nat × Nat)) (x : Nat × Nat) (h : ¬ (x.2 : Int) ≤ wrong) : truthsOf wrong (l ++ [x]) = truthsOf wrong l := by simp [truthsOf, h]
theorem truthsOf_len (wrong : Int) (l : List (Nat × Nat)) : (truthsOf wrong l).length ≤ l.length := by
  simp only [truthsOf, List.length_map]; exact List.length_filter_le _ _
def truthsL (parts : List S50) (looks : List S61) (wrong : Int) : List Nat := truthsOf wrong (statesL parts looks)
theorem statesL_len (parts : List S50) (looks : List S61) (h : parts.length ≤ 9) : (statesL parts looks).length ≤ 512 := by
  have h1 := pow_le_512 h
  simp only [statesL, statesTo, List.length_map]
  have := List.length_filter_le (okM parts) (List.range (2 ^ parts.length))
  rw [List.length_range] at this
  omega
def setsV (l : List Nat) : List Value := l.map fun (s : Nat) => Value.int .u16 (s : Int)
theorem infoSet : (Try.prog.info? 82).map (fun i => (i.zero, i.size, i.bytes)) = some (some (.int .u16 0), 1, 2) := by kernel_rfl
set_option maxHeartbeats 8000000 in
set_option maxRecDepth 100000 in
theorem truths_calls (A0 : Option Addr) (c0 : Nat) (parts : List S50) (swap : Int) (A2 : Option Addr) (c2 : Nat) (looks : List S61) (wrong : Int) (A4 : Option Addr) (c4 : Nat) (needs : List Int) (w : World)
    (hp : Kd.C k50 w A0 parts.length parts) (hpc : parts.length ≤ c0) (hl : Kd.C k61 w A2 looks.length looks) (hlc : looks.length ≤ c2) (hn : Kd.C (Kd.int .i64) w A4 needs.length needs) (hnc : needs.length ≤ c4)
    (hf : carFits parts looks needs) (hok : checkE parts swap looks wrong needs = 0 → CarOK parts looks) :
    Calls Try.prog 63 #[.agg #[.slice A0 parts.length c0, .int .i64 swap, .slice A2 looks.length c2, .int .i64 wrong, .slice A4 needs.length c4]] w fun e w' => ∃ v, ∃ l : List Nat, ∃ er : Int, e = .returned (.tuple #[v, .int .i64 er]) ∧
      ((checkE parts swap looks wrong needs ≠ 0 ∧ er = checkE parts swap looks wrong needs ∧ l = []) ∨ (checkE parts swap looks wrong needs = 0 ∧ l = truthsL parts looks wrong ∧ er = if l = [] then 9 else 0)) ∧
      w'.ownsRow w.heap.size 82 1 v l.length (setsV l) ∧ Below w.heap.size w w' := by
  have hu26 := Try.underlying26
  have HP := Aside0.mk hp
  have HL := Aside0.mk hl
  have HN := Aside0.mk hn
  have HF := Aside0.mk hf
  clear hp hl hn hf
  obtain ⟨i0, hi, hz0, hz1, hz2⟩ := info_parts infoSet
  refine (callsIn_wide (n := 6)).1 ?_
  refine callsIn_of_wp_marks Try.func63 rfl trivial ?_ rfl
  simp only [Try.ntmps63, List.size_toArray, List.length_cons, List.length_nil, Nat.reduceAdd, Nat.reduceSub, Array.replicate_succ, Array.replicate_zero, List.push_toArray, List.append_toArray, List.nil_append, List.cons_append]
  refine wpIn_wide.2 ?_
  go_wp2_with ((with_reducible refine gate_dst (N := 1) rfl ?_); refine box_event ?hg (N := 1) ?hd (cs := #[.slice A0 parts.length c0, .int .i64 swap, .slice A2 looks.length c2, .int .i64 wrong, .slice A4 needs.length c4]) (t := 26) ?hr ?_; (case hd => rfl); (case hg => rfl); (case hr => first | (go_simp; done) | (go_simp; rfl)); intro gb hg w2 hbox hb2; have hz0_ := (blk_cell hbox 0).trans rfl; have hz1_ := (blk_cell hbox 1).trans rfl; have hz2_ := (blk_cell hbox 2).trans rfl; have hz3_ := (blk_cell hbox 3).trans rfl; have hz4_ := (blk_cell hbox 4).trans rfl; have BK := Aside0.mk hbox; have HB := Aside0.mk hb2; have HG := Aside0.mk hg; clear hg hbox hb2)
  refine (strip_Check.calls A0 c0 parts swap A2 c2 looks wrong A4 c4 needs _ w2 (Kd.C_below HP.out HB.out) hpc (Kd.C_below HL.out HB.out) hlc (Kd.C_below HN.out HB.out) hnc (by rw [strip_Check.f, if_pos HF.out])).mono ?_
  rintro e w3 ⟨rfl, hb3⟩
  have HB3 := Aside0.mk (below_step HB.out hb3)
  have BK3 := Aside0.mk (blk_below BK.out hb3)
  have HG3 := Aside0.mk hb3.size
  clear hz0_ hz1_ hz2_ hz3_ hz4_ hb3 HB BK
  by_cases h0 : checkE parts swap looks wrong needs = 0
  case neg =>
    have HE := Aside0.mk h0
    generalize hge : checkE parts swap looks wrong needs = er at *
    have HGE := Aside0.mk hge
    clear hge
    have hnb : (er == 0) = false := beq_eq_false_iff_ne.2 h0
    clear h0
    go_wp2
    exact ⟨.tuple #[.slice none 0 0, .int .i64 er], by simp [results, Try.results63, go_sem], _, [], er, rfl, .inl ⟨by rw [HGE.out]; exact HE.out, HGE.out.symm, rfl⟩, World.ownsRow_nil _ _ _ _, HB3.out⟩
  have HOK := Aside0.mk (hok h0)
  rw [h0]
  have HE := Aside0.mk h0
  have HS3 := Aside0.mk HB3.out.size
  have HLT3 := Aside0.mk (blk_lt BK3.out)
  clear hok h0
  have hz0 := (blk_cell BK3.out 0).trans rfl
  have hz1 := (blk_cell BK3.out 1).trans rfl
  have hz2 := (blk_cell BK3.out 2).trans rfl
  have hz3 := (blk_cell BK3.out 3).trans rfl
  have hz4 := (blk_cell BK3.out 4).trans rfl
  go_wp2_with ((with_reducible refine gate_dst (N := 5) rfl ?_); refine box_event ?hg (N := 5) ?hd (cs := #[.slice none 0 0]) (t := 94) ?hr ?_; (case hd => rfl); (case hg => rfl); (case hr => first | (go_simp; done) | (go_simp; rfl)); intro gl hgl w4 hbox hb4; have BL := Aside0.mk hbox; have BK4 := Aside0.mk (blk_below BK3.out hb4); have HB4 := Aside0.mk (below_step HB3.out hb4); have HGl := Aside0.mk hgl; have HG4 := Aside0.mk (blk_lt hbox); clear hbox hb4 hgl BK3 HB3 hz0 hz1 hz2 hz3 hz4; have hz0 := (blk_cell BK4.out 0).trans rfl; have hz1 := (blk_cell BK4.out 1).trans rfl; have hz2 := (blk_cell BK4.out 2).trans rfl; have hz3 := (blk_cell BK4.out 3).trans rfl; have hz4 := (blk_cell BK4.out 4).trans rfl)
  refine (states_calls A0 c0 parts swap A2 c2 looks wrong A4 c4 needs w4).mono ?_
  rintro e w5 ⟨gb2, rfl, hge, hlt2, hbk2, hb5⟩
  have BL5 := Aside0.mk (blk_below BL.out hb5)
  have BK5 := Aside0.mk (blk_below BK4.out hb5)
  have HB5 := Aside0.mk (below_step HB4.out hb5)
  have HG5 := Aside0.mk hb5.size
  have BS := Aside0.mk hbk2
  have HGS := Aside0.mk hge
  have HLS := Aside0.mk hlt2
  clear hz0 hz1 hz2 hz3 hz4 hb5 hbk2 hge hlt2 BK4 HB4
  go_wp2
  refine (wpIn_wide (n := 6)).1 ?_
  have hnl : w.heap.size ≤ gl := by rw [HGl.out]; exact HS3.out
  have hlt5 : gl < w5.heap.size := blk_lt BL5.out
  have hne1 : gb ≠ gl := by have := HLT3.out; have := HGl.out; omega
  have hne2 : gb2 ≠ gl := by have := HG4.out; have := HGS.out; omega
  refine wpIn_rangeFunc_ownF (F := Fence.wide) (n := 6) rfl (by decide) (gf := 90) (lb := #[.pointer (some ⟨gb2, 0, none⟩)]) rfl trivial (enters_of Try.func90 (by kernel_rfl) rfl)
    (states_stops 5 gb2 w.heap.size (by decide) A0 c0 parts swap A2 c2 looks wrong A4 c4 needs w5 w HP.out HL.out HB5.out (Nat.le_refl _) BS.out HOK.out) kpS_t (kpS_b HB5.out.size HLS.out) (Below.refl _ _) (fun _ => rfl)
    (fun pre W => (∃ v, Boxed W gl 94 v ∧ W.ownsRow w.heap.size 82 1 v (truthsOf wrong pre).length (setsV (truthsOf wrong pre)) ∧ True) ∧ W.heap[gb]? = some (.cells #[.slice A0 parts.length c0, .int .i64 swap, .slice A2 looks.length c2, .int .i64 wrong, .slice A4 needs.length c4] 26 (0, 0)) ∧ W.heap[gb2]? = some (.cells #[.slice A0 parts.length c0, .int .i64 swap, .slice A2 looks.length c2, .int .i64 wrong, .slice A4 needs.length c4] 26 (0, 0)) ∧ Below w.heap.size w W)
    (fun _ _ _ => False)
    (OwnFrom.and (Own.from (holdsRow_own w.heap.size gl 94 82 1 (fun pre => (truthsOf wrong pre).length) (fun pre => setsV (truthsOf wrong pre)) (fun _ _ => True)) _) (OwnFrom.and (Own.from (blk_own gb _ _ _) _) (OwnFrom.and (Own.from (blk_own gb2 _ _ _) _) (ownFrom_below (Nat.le_refl _) HB5.out.size))))
    (fun _ _ _ _ _ hs _ _ => hs)
    ⟨⟨_, BL5.out, World.ownsRow_nil _ _ _ _, trivial⟩, BK5.out, BS.out, HB5.out⟩
    (fun x => { tmps := #[.agg #[.slice A0 parts.length c0, .int .i64 swap, .slice A2 looks.length c2, .int .i64 wrong, .slice A4 needs.length c4], .pointer (some ⟨gb, 0, none⟩), .slice none 0 0, .int .i64 0, .int .i64 0, .pointer (some ⟨gl, 0, none⟩), .int .u16 (x.1 : Int), .int .i64 (x.2 : Int), .agg #[.slice A0 parts.length c0, .int .i64 swap, .slice A2 looks.length c2, .int .i64 wrong, .slice A4 needs.length c4], .int .i64 0, .int .i64 0, .bool false, undef, .agg #[.slice A0 parts.length c0, .int .i64 swap, .slice A2 looks.length c2, .int .i64 wrong, .slice A4 needs.length c4], .func (.func 90) #[] #[.pointer (some ⟨gb2, 0, none⟩)], .int .u16 (x.1 : Int), .int .i64 (x.2 : Int), undef, undef, undef, undef, undef, undef, undef, undef, undef, undef, undef, undef], defers := [] }) ?assign ?body ?done ?stop
  case assign =>
    intro l x W K hK
    unfold encState
    gi_wp2
    exact hK
  case body =>
    rintro l pre x W ⟨⟨v, hv, hrow, _⟩, hbk, hbs, hB⟩ hlt
    have hc := hv.cell
    have hpl : (truthsOf wrong pre).length ≤ pre.length := truthsOf_len _ _
    have h512 := statesL_len parts looks HOK.out.few
    have hz3 := (blk_cell hbk 3).trans rfl
    have BK := Aside0.mk hbk
    have BS2 := Aside0.mk hbs
    clear hbk hbs
    by_cases hx : (x.2 : Int) ≤ wrong
    · have HH := Aside0.mk (truthsOf_hit wrong pre x hx)
      gi_wp2_with (gi_at_builtin; refine wpListIn_append_own _ rfl _ _ 94 rfl w.heap.size 82 i0 (.int .u16 0) 1 2 Try.underlying94 hi hz0 hz1 hz2 rfl (by decide) _ _ _ rfl (hrow.alloc _) ⟨W.heap.size, 0, none⟩ 1 1 [.int .u16 (x.1 : Int)] rfl rfl (cell_one_new _ _ _) (by simp [Value.oneCell']) (by unfold maxLen; omega) (by omega) (by have := hB.size; simp; omega) ?_; intro v' w1 hown' hgrow _; obtain ⟨g', cap', rfl⟩ := ownsRow_succ hown'; obtain ⟨hv1, hv2, hr2, hk2, hb2⟩ := hv.appended (by decide) hrow hB.size hnl hown' hgrow; have hq1 := blk_append BK.out (by decide) hne1 hrow hgrow (.slice (some ⟨g', 0, none⟩) ((truthsOf wrong pre).length + 1) cap'); have hq2 := blk_append BS2.out (by decide) hne2 hrow hgrow (.slice (some ⟨g', 0, none⟩) ((truthsOf wrong pre).length + 1) cap'); have Q1 := Aside0.mk hq1; have Q2 := Aside0.mk hq2; clear hq1 hq2; have hc1 := hv1.cell; have hf1 := hv1.frozen)
      exact ⟨hk2, ⟨hb2, Q2.out⟩, ⟨_, hv2, by rw [HH.out]; simpa [setsV] using hr2, trivial⟩, Q1.out.trans BK.out, Q2.out.trans BS2.out, hB.trans hb2⟩
    · have HH := Aside0.mk (truthsOf_miss wrong pre x hx)
      gi_wp2
      exact ⟨KeepsOthers.refl _, ⟨Below.refl _ _, rfl⟩, (by first | exact ⟨v, hv, by rw [HH.out]; exact hrow, trivial⟩ | exact ⟨v, hv, by rw [HH.out]; exact hrow⟩), BK.out, BS2.out, hB⟩
  case done =>
    rintro D ys W hD rfl ⟨⟨v, hv, hrow, _⟩, hbk, hbs, hB⟩ hK
    obtain ⟨Ar, cr, rfl⟩ := ownsRow_slice hrow
    have hc := hv.cell
    have HR := Aside0.mk hrow
    have HV := Aside0.mk hv
    have HB6 := Aside0.mk hB
    have HK := Aside0.mk hK
    have HD := Aside0.mk hD
    clear hrow hv hB hK hD hbk hbs
    have hBe : ∀ W', W' = W.putObj D (.deferred none) → Below w.heap.size w W' := fun W' e => e ▸ HB6.out.trans (belowK_b (w := w) (Nat.le_refl _) W D _ _ (by have := HD.out; have := HB5.out.size; omega) HK.out rfl rfl)
    have HBE := Aside0.mk hBe
    clear hBe
    by_cases hT : (truthsOf wrong (statesL parts looks)).length = 0
    · have hb : (((truthsOf wrong (statesL parts looks)).length : Int) == 0) = true := by rw [hT]; rfl
      have HT := Aside0.mk hT
      clear hT
      go_wp2
      refine ⟨by simp, .inl ⟨_, _, rfl, run_takeDeferred HK.out, ?_⟩⟩
      exact ⟨.tuple #[.slice none 0 0, .int .i64 9], by simp [results, Try.results63, go_sem], _, [], 9, rfl, .inr ⟨HE.out, (List.eq_nil_of_length_eq_zero HT.out).symm, rfl⟩, World.ownsRow_nil _ _ _ _, HBE.out _ rfl⟩
    · have hb : (((truthsOf wrong (statesL parts looks)).length : Int) == 0) = false := beq_eq_false_iff_ne.2 (by omega)
      have HT := Aside0.mk hT
      clear hT
      go_wp2
      refine ⟨by simp, .inl ⟨_, _, rfl, run_takeDeferred HK.out, ?_⟩⟩
      exact ⟨.tuple #[.slice Ar (truthsOf wrong (statesL parts looks)).length cr, .int .i64 0], by simp [results, Try.results63, go_sem], _, truthsL parts looks wrong, 0, rfl, .inr ⟨HE.out, rfl, (if_neg (fun e => HT.out (congrArg List.length e))).symm⟩, ownsRow_putObj HR.out _ HK.out rfl, HBE.out _ rfl⟩
  case stop =>
    rintro D c pre W _ _ h _
    exact h.elim
end Go.Proofs.Ytkkmfcdikkiodaa.PC4
namespace Go.Proofs.Ytkkmfcdikkiodaa.PC4
set_option linter.unusedVariables false
open Go.RowKit Go.Proofs.YtkkmfcdikkiodaaW.PrintWords Go.Proofs.YtkkmfcdikkiodaaW.PrintLast Go.Proofs.YtkkmfcdikkiodaaW.PrintMore
def encSet (x : Int) : Value := .int .u16 x
def rawHas (i x : Int) : Bool := (Go.bits .and .u16 (shr .u16 x i) 1) == 1
def rawAll (o x : Int) : Bool := (Go.bits .andNot .u16 o x) == 0
def PredC (g : Nat) (lb : Array Value) (p : Int → Bool) (w : World) : Prop :=
  ∀ (W : World) (x : Int), Below w.heap.size w W → Calls Try.prog g (#[encSet x] ++ lb) W fun e w' => e = .returned (.bool (p x)) ∧ Below W.heap.size W w'
theorem PredC.below {g : Nat} {lb : Array Value} {p : Int → Bool} {w w1 : World} (h : PredC g lb p w) (hb : Below w.heap.size w w1) : PredC g lb p w1 :=
  fun W x hW => h W x (hb.trans (hW.mono hb.size))
def verdictS (l : List Int) (p : Int → Bool) : Int := if l.any (fun x => !p x) then (if l.any p then 3 else 2) else 1
set_option maxHeartbeats 4000000 in
set_option maxRecDepth 100000 in
theorem idxFunc_65 (lb : Array Value) (p : Int → Bool) (A0 : Option Addr) (c0 : Nat) (l0 : List Int) (w : World)
    (hr0 : Kd.C (Kd.int .u16) w A0 l0.length l0) (hl : l0.length ≤ 140737488351232) (hp : PredC 65 lb p w) :
    Calls Try.prog 97 #[.slice A0 l0.length c0, .func (.func 65) #[] lb] w fun e w' => e = .returned (.int .i64 (idxP p 0 l0)) ∧ Below w.heap.size w w' := by
  have HR0 := Aside0.mk hr0
  have HP := Aside0.mk hp
  clear hr0 hp
  go_enter Try.func97, Try.ntmps97
  go_wp2
  go_loopw [8] (fun i wr => ∃ k : Nat, k ≤ l0.length ∧ i = .int .i64 k ∧ Aside0 (Below w.heap.size w wr) ∧ Aside0 (idxP p k (l0.drop k) = idxP p 0 l0)) (fun i _ => l0.length - (intOf i).toNat)
  case atStart => exact ⟨0, Nat.zero_le _, rfl, ⟨by repeat (first | exact Below.refl _ _ | apply below_drew1)⟩, ⟨rfl⟩⟩
  case round =>
    obtain ⟨k, hk, rfl, HB, HI⟩ := hrel
    by_cases hlt : k < l0.length
    · have hlz : (k : Int) < (l0.length : Int) := by omega
      obtain ⟨ad, e, hx0⟩ := Kd.at_int HR0.out (k : Int) (by omega) hlz
      cases e
      rw [Int.toNat_natCast] at hx0
      replace hx0 := (HB.out.cell (World.block_lt_of_cell? w _ hx0)).trans hx0
      have HD := Aside0.mk (drop_cons_rd l0 k hlt 0)
      have hcall := HP.out wr (rd l0 k) HB.out
      have HY : Aside0 (rd l0 k = l0.getD k 0) := ⟨rd_getD l0 k⟩
      generalize rd l0 k = y at *
      rw [← HY.out] at HD
      cases hq : p y with
      | true =>
        rw [hq] at hcall
        have HQ := Aside0.mk hq
        clear hq
        have HC := Aside0.mk hcall
        clear hcall
        go_wp2_with (go_at_call 65; refine HC.out.mono ?_; rintro e w' ⟨rfl, hb'⟩)
        go_ret
        exact ⟨by rw [← HI.out, HD.out, idxP, if_pos HQ.out]; rfl, below_step HB.out hb'⟩
      | false =>
        rw [hq] at hcall
        have HQ := Aside0.mk hq
        clear hq
        have HC := Aside0.mk hcall
        clear hcall
        go_wp2_with (go_at_call 65; refine HC.out.mono ?_; rintro e w' ⟨rfl, hb'⟩)
        go_roundw
        case rel => exact ⟨k + 1, by omega, by go_num, ⟨below_step HB.out hb'⟩, ⟨by rw [← HI.out, HD.out, idxP, if_neg (by rw [HQ.out]; simp)]; rfl⟩⟩
        case measure => simp [intOf]; omega
    · have : k = l0.length := by omega
      subst this
      go_wp2
      go_ret
      refine ⟨?_, HB.out⟩
      rw [← HI.out, List.drop_length]
      rfl
set_option maxHeartbeats 4000000 in
set_option maxRecDepth 100000 in
theorem containsFunc_65 (lb : Array Value) (p : Int → Bool) (A0 : Option Addr) (c0 : Nat) (l0 : List Int) (w : World)
    (hr0 : Kd.C (Kd.int .u16) w A0 l0.length l0) (hl : l0.length ≤ 140737488351232) (hp : PredC 65 lb p w) :
    Calls Try.prog 86 #[.slice A0 l0.length c0, .func (.func 65) #[] lb] w fun e w' => e = .returned (.bool (l0.any p)) ∧ Below w.heap.size w w' := by
  have HC := Aside0.mk (idxFunc_65 lb p A0 c0 l0 w hr0 hl hp)
  rw [← idxP_any p l0 0 (Int.le_refl 0)]
  clear hr0 hp
  go_enter Try.func86, Try.ntmps86
  go_wp2_with (go_at_call 97; refine HC.out.mono ?_; rintro e w' ⟨rfl, hb'⟩)
  go_ret
  exact ⟨rfl, hb'⟩
set_option maxHeartbeats 4000000 in
set_option maxRecDepth 100000 in
theorem idxFunc_88 (lb : Array Value) (p : Int → Bool) (A0 : Option Addr) (c0 : Nat) (l0 : List Int) (w : World)
    (hr0 : Kd.C (Kd.int .u16) w A0 l0.length l0) (hl : l0.length ≤ 140737488351232) (hp : PredC 88 lb p w) :
    Calls Try.prog 97 #[.slice A0 l0.length c0, .func (.func 88) #[] lb] w fun e w' => e = .returned (.int .i64 (idxP p 0 l0)) ∧ Below w.heap.size w w' := by
  have HR0 := Aside0.mk hr0
  have HP := Aside0.mk hp
  clear hr0 hp
  go_enter Try.func97, Try.ntmps97
  go_wp2
  go_loopw [8] (fun i wr => ∃ k : Nat, k ≤ l0.length ∧ i = .int .i64 k ∧ Aside0 (Below w.heap.size w wr) ∧ Aside0 (idxP p k (l0.drop k) = idxP p 0 l0)) (fun i _ => l0.length - (intOf i).toNat)
  case atStart => exact ⟨0, Nat.zero_le _, rfl, ⟨by repeat (first | exact Below.refl _ _ | apply below_drew1)⟩, ⟨rfl⟩⟩
  case round =>
    obtain ⟨k, hk, rfl, HB, HI⟩ := hrel
    by_cases hlt : k < l0.length
    · have hlz : (k : Int) < (l0.length : Int) := by omega
      obtain ⟨ad, e, hx0⟩ := Kd.at_int HR0.out (k : Int) (by omega) hlz
      cases e
      rw [Int.toNat_natCast] at hx0
      replace hx0 := (HB.out.cell (World.block_lt_of_cell? w _ hx0)).trans hx0
      have HD := Aside0.mk (drop_cons_rd l0 k hlt 0)
      have hcall := HP.out wr (rd l0 k) HB.out
      have HY : Aside0 (rd l0 k = l0.getD k 0) := ⟨rd_getD l0 k⟩
      generalize rd l0 k = y at *
      rw [← HY.out] at HD
      cases hq : p y with
      | true =>
        rw [hq] at hcall
        have HQ := Aside0.mk hq
        clear hq
        have HC := Aside0.mk hcall
        clear hcall
        go_wp2_with (go_at_call 88; refine HC.out.mono ?_; rintro e w' ⟨rfl, hb'⟩)
        go_ret
        exact ⟨by rw [← HI.out, HD.out, idxP, if_pos HQ.out]; rfl, below_step HB.out hb'⟩
      | false =>
        rw [hq] at hcall
        have HQ := Aside0.mk hq
        clear hq
        have HC := Aside0.mk hcall
        clear hcall
        go_wp2_with (go_at_call 88; refine HC.out.mono ?_; rintro e w' ⟨rfl, hb'⟩)
        go_roundw
        case rel => exact ⟨k + 1, by omega, by go_num, ⟨below_step HB.out hb'⟩, ⟨by rw [← HI.out, HD.out, idxP, if_neg (by rw [HQ.out]; simp)]; rfl⟩⟩
        case measure => simp [intOf]; omega
    · have : k = l0.length := by omega
      subst this
      go_wp2
      go_ret
      refine ⟨?_, HB.out⟩
      rw [← HI.out, List.drop_length]
      rfl
set_option maxHeartbeats 4000000 in
set_option maxRecDepth 100000 in
theorem containsFunc_88 (lb : Array Value) (p : Int → Bool) (A0 : Option Addr) (c0 : Nat) (l0 : List Int) (w : World)
    (hr0 : Kd.C (Kd.int .u16) w A0 l0.length l0) (hl : l0.length ≤ 140737488351232) (hp : PredC 88 lb p w) :
    Calls Try.prog 86 #[.slice A0 l0.length c0, .func (.func 88) #[] lb] w fun e w' => e = .returned (.bool (l0.any p)) ∧ Below w.heap.size w w' := by
  have HC := Aside0.mk (idxFunc_88 lb p A0 c0 l0 w hr0 hl hp)
  rw [← idxP_any p l0 0 (Int.le_refl 0)]
  clear hr0 hp
  go_enter Try.func86, Try.ntmps86
  go_wp2_with (go_at_call 97; refine HC.out.mono ?_; rintro e w' ⟨rfl, hb'⟩)
  go_ret
  exact ⟨rfl, hb'⟩
set_option maxHeartbeats 4000000 in
set_option maxRecDepth 100000 in
theorem idxFunc_87 (lb : Array Value) (p : Int → Bool) (A0 : Option Addr) (c0 : Nat) (l0 : List Int) (w : World)
    (hr0 : Kd.C (Kd.int .u16) w A0 l0.length l0) (hl : l0.length ≤ 140737488351232) (hp : PredC 87 lb p w) :
    Calls Try.prog 97 #[.slice A0 l0.length c0, .func (.func 87) #[] lb] w fun e w' => e = .returned (.int .i64 (idxP p 0 l0)) ∧ Below w.heap.size w w' := by
  have HR0 := Aside0.mk hr0
  have HP := Aside0.mk hp
  clear hr0 hp
  go_enter Try.func97, Try.ntmps97
  go_wp2
  go_loopw [8] (fun i wr => ∃ k : Nat, k ≤ l0.length ∧ i = .int .i64 k ∧ Aside0 (Below w.heap.size w wr) ∧ Aside0 (idxP p k (l0.drop k) = idxP p 0 l0)) (fun i _ => l0.length - (intOf i).toNat)
  case atStart => exact ⟨0, Nat.zero_le _, rfl, ⟨by repeat (first | exact Below.refl _ _ | apply below_drew1)⟩, ⟨rfl⟩⟩
  case round =>
    obtain ⟨k, hk, rfl, HB, HI⟩ := hrel
    by_cases hlt : k < l0.length
    · have hlz : (k : Int) < (l0.length : Int) := by omega
      obtain ⟨ad, e, hx0⟩ := Kd.at_int HR0.out (k : Int) (by omega) hlz
      cases e
      rw [Int.toNat_natCast] at hx0
      replace hx0 := (HB.out.cell (World.block_lt_of_cell? w _ hx0)).trans hx0
      have HD := Aside0.mk (drop_cons_rd l0 k hlt 0)
      have hcall := HP.out wr (rd l0 k) HB.out
      have HY : Aside0 (rd l0 k = l0.getD k 0) := ⟨rd_getD l0 k⟩
      generalize rd l0 k = y at *
      rw [← HY.out] at HD
      cases hq : p y with
      | true =>
        rw [hq] at hcall
        have HQ := Aside0.mk hq
        clear hq
        have HC := Aside0.mk hcall
        clear hcall
        go_wp2_with (go_at_call 87; refine HC.out.mono ?_; rintro e w' ⟨rfl, hb'⟩)
        go_ret
        exact ⟨by rw [← HI.out, HD.out, idxP, if_pos HQ.out]; rfl, below_step HB.out hb'⟩
      | false =>
        rw [hq] at hcall
        have HQ := Aside0.mk hq
        clear hq
        have HC := Aside0.mk hcall
        clear hcall
        go_wp2_with (go_at_call 87; refine HC.out.mono ?_; rintro e w' ⟨rfl, hb'⟩)
        go_roundw
        case rel => exact ⟨k + 1, by omega, by go_num, ⟨below_step HB.out hb'⟩, ⟨by rw [← HI.out, HD.out, idxP, if_neg (by rw [HQ.out]; simp)]; rfl⟩⟩
        case measure => simp [intOf]; omega
    · have : k = l0.length := by omega
      subst this
      go_wp2
      go_ret
      refine ⟨?_, HB.out⟩
      rw [← HI.out, List.drop_length]
      rfl
set_option maxHeartbeats 4000000 in
set_option maxRecDepth 100000 in
theorem containsFunc_87 (lb : Array Value) (p : Int → Bool) (A0 : Option Addr) (c0 : Nat) (l0 : List Int) (w : World)
    (hr0 : Kd.C (Kd.int .u16) w A0 l0.length l0) (hl : l0.length ≤ 140737488351232) (hp : PredC 87 lb p w) :
    Calls Try.prog 86 #[.slice A0 l0.length c0, .func (.func 87) #[] lb] w fun e w' => e = .returned (.bool (l0.any p)) ∧ Below w.heap.size w w' := by
  have HC := Aside0.mk (idxFunc_87 lb p A0 c0 l0 w hr0 hl hp)
  rw [← idxP_any p l0 0 (Int.le_refl 0)]
  clear hr0 hp
  go_enter Try.func86, Try.ntmps86
  go_wp2_with (go_at_call 97; refine HC.out.mono ?_; rintro e w' ⟨rfl, hb'⟩)
  go_ret
  exact ⟨rfl, hb'⟩
set_option maxHeartbeats 4000000 in
set_option maxRecDepth 100000 in
theorem not_pred_65 (lb : Array Value) (p : Int → Bool) (b3 : Nat) (w : World) (hb : w.heap[b3]? = some (.cells #[.func (.func 65) #[] lb] 88 (0, 0))) (hp : PredC 65 lb p w) :
    PredC 87 #[.pointer (some ⟨b3, 0, none⟩)] (fun x => !p x) w := by
  intro W x hB
  have hcell : W.cell? ⟨b3, 0, none⟩ = some (.func (.func 65) #[] lb) := by
    rw [hB.cell (p := ⟨b3, 0, none⟩) (blk_lt hb), blk_cell hb 0]; rfl
  have HC := Aside0.mk (hp W x hB)
  clear hp hB hb
  show Calls Try.prog 87 #[.int .u16 x, .pointer (some ⟨b3, 0, none⟩)] W fun e w' => e = .returned (.bool (!p x)) ∧ Below W.heap.size W w'
  generalize p x = b at *
  go_enter Try.func87, Try.ntmps87
  go_wp2_with (go_at_call 65; refine HC.out.mono ?_; rintro e w' ⟨rfl, hb'⟩)
  go_ret
  exact ⟨rfl, hb'⟩
set_option maxHeartbeats 4000000 in
set_option maxRecDepth 100000 in
theorem verdict_65 (lb : Array Value) (p : Int → Bool) (A0 : Option Addr) (c0 : Nat) (l0 : List Int) (w : World)
    (hr0 : Kd.C (Kd.int .u16) w A0 l0.length l0) (hl : l0.length ≤ 140737488351232) (hp : PredC 65 lb p w) :
    Calls Try.prog 64 #[.slice A0 l0.length c0, .func (.func 65) #[] lb] w fun e w' => e = .returned (.int .i64 (verdictS l0 p)) ∧ Below w.heap.size w w' := by
  have HR0 := Aside0.mk hr0
  have HP := Aside0.mk hp
  clear hr0 hp
  have hmf : ∀ (fn : Fn) (first cap : Array Value) (w : World), (Instr.makeFunc fn first cap).run Try.prog w = .ok (.func fn first cap) w := fun _ _ _ _ => rfl
  go_enter Try.func64, Try.ntmps64
  go_wp2_with ((with_reducible refine gate_dst (N := 3) rfl ?_); refine box_event ?hg (N := 3) ?hd (cs := #[.func (.func 65) #[] lb]) (t := 88) ?hr ?_; (case hd => rfl); (case hg => rfl); (case hr => first | (go_simp; done) | (go_simp; rfl)); intro b3 hg w2 hbox hb2; have BK := Aside0.mk hbox; have HB := Aside0.mk hb2; clear hg hbox hb2)
  refine (containsFunc_87 _ (fun x => !p x) A0 c0 l0 w2 (Kd.C_below HR0.out HB.out) hl (not_pred_65 lb p b3 w2 BK.out (HP.out.below HB.out))).mono ?_
  rintro e w3 ⟨rfl, hb3⟩
  have BK3 := Aside0.mk (blk_below BK.out hb3)
  have HB3 := Aside0.mk (below_step HB.out hb3)
  clear hb3 HB BK
  have hz := (blk_cell BK3.out 0).trans rfl
  generalize hg1 : l0.any (fun x => !p x) = b1
  have HV1 := Aside0.mk hg1
  clear hg1
  cases b1 with
  | false =>
    go_wp2
    go_ret
    exact ⟨by rw [verdictS, HV1.out]; rfl, HB3.out⟩
  | true =>
    go_wp2_with (fail)
    refine (containsFunc_65 lb p A0 c0 l0 w3 (Kd.C_below HR0.out HB3.out) hl (HP.out.below HB3.out)).mono ?_
    rintro e w4 ⟨rfl, hb4⟩
    have HB4 := Aside0.mk (below_step HB3.out hb4)
    clear hb4
    generalize hg2 : l0.any p = b2
    have HV2 := Aside0.mk hg2
    clear hg2
    cases b2 with
    | false =>
      go_wp2
      go_ret
      exact ⟨by rw [verdictS, HV1.out, HV2.out]; rfl, HB4.out⟩
    | true =>
      go_wp2
      go_ret
      exact ⟨by rw [verdictS, HV1.out, HV2.out]; rfl, HB4.out⟩
set_option maxHeartbeats 4000000 in
set_option maxRecDepth 100000 in
theorem not_pred_88 (lb : Array Value) (p : Int → Bool) (b3 : Nat) (w : World) (hb : w.heap[b3]? = some (.cells #[.func (.func 88) #[] lb] 88 (0, 0))) (hp : PredC 88 lb p w) :
    PredC 87 #[.pointer (some ⟨b3, 0, none⟩)] (fun x => !p x) w := by
  intro W x hB
  have hcell : W.cell? ⟨b3, 0, none⟩ = some (.func (.func 88) #[] lb) := by
    rw [hB.cell (p := ⟨b3, 0, none⟩) (blk_lt hb), blk_cell hb 0]; rfl
  have HC := Aside0.mk (hp W x hB)
  clear hp hB hb
  show Calls Try.prog 87 #[.int .u16 x, .pointer (some ⟨b3, 0, none⟩)] W fun e w' => e = .returned (.bool (!p x)) ∧ Below W.heap.size W w'
  generalize p x = b at *
  go_enter Try.func87, Try.ntmps87
  go_wp2_with (go_at_call 88; refine HC.out.mono ?_; rintro e w' ⟨rfl, hb'⟩)
  go_ret
  exact ⟨rfl, hb'⟩
set_option maxHeartbeats 4000000 in
set_option maxRecDepth 100000 in
theorem verdict_88 (lb : Array Value) (p : Int → Bool) (A0 : Option Addr) (c0 : Nat) (l0 : List Int) (w : World)
    (hr0 : Kd.C (Kd.int .u16) w A0 l0.length l0) (hl : l0.length ≤ 140737488351232) (hp : PredC 88 lb p w) :
    Calls Try.prog 64 #[.slice A0 l0.length c0, .func (.func 88) #[] lb] w fun e w' => e = .returned (.int .i64 (verdictS l0 p)) ∧ Below w.heap.size w w' := by
  have HR0 := Aside0.mk hr0
  have HP := Aside0.mk hp
  clear hr0 hp
  have hmf : ∀ (fn : Fn) (first cap : Array Value) (w : World), (Instr.makeFunc fn first cap).run Try.prog w = .ok (.func fn first cap) w := fun _ _ _ _ => rfl
  go_enter Try.func64, Try.ntmps64
  go_wp2_with ((with_reducible refine gate_dst (N := 3) rfl ?_); refine box_event ?hg (N := 3) ?hd (cs := #[.func (.func 88) #[] lb]) (t := 88) ?hr ?_; (case hd => rfl); (case hg => rfl); (case hr => first | (go_simp; done) | (go_simp; rfl)); intro b3 hg w2 hbox hb2; have BK := Aside0.mk hbox; have HB := Aside0.mk hb2; clear hg hbox hb2)
  refine (containsFunc_87 _ (fun x => !p x) A0 c0 l0 w2 (Kd.C_below HR0.out HB.out) hl (not_pred_88 lb p b3 w2 BK.out (HP.out.below HB.out))).mono ?_
  rintro e w3 ⟨rfl, hb3⟩
  have BK3 := Aside0.mk (blk_below BK.out hb3)
  have HB3 := Aside0.mk (below_step HB.out hb3)
  clear hb3 HB BK
  have hz := (blk_cell BK3.out 0).trans rfl
  generalize hg1 : l0.any (fun x => !p x) = b1
  have HV1 := Aside0.mk hg1
  clear hg1
  cases b1 with
  | false =>
    go_wp2
    go_ret
    exact ⟨by rw [verdictS, HV1.out]; rfl, HB3.out⟩
  | true =>
    go_wp2_with (fail)
    refine (containsFunc_88 lb p A0 c0 l0 w3 (Kd.C_below HR0.out HB3.out) hl (HP.out.below HB3.out)).mono ?_
    rintro e w4 ⟨rfl, hb4⟩
    have HB4 := Aside0.mk (below_step HB3.out hb4)
    clear hb4
    generalize hg2 : l0.any p = b2
    have HV2 := Aside0.mk hg2
    clear hg2
    cases b2 with
    | false =>
      go_wp2
      go_ret
      exact ⟨by rw [verdictS, HV1.out, HV2.out]; rfl, HB4.out⟩
    | true =>
      go_wp2
      go_ret
      exact ⟨by rw [verdictS, HV1.out, HV2.out]; rfl, HB4.out⟩
def setsI (l : List Nat) : List Int := l.map fun (s : Nat) => (s : Int)
theorem setsI_len (l : List Nat) : (setsI l).length = l.length := List.length_map _
theorem setsV_eq (l : List Nat) : setsV l = (setsI l).map (Value.int .u16) := by simp [setsV, setsI]
theorem R_of_sets {W : World} {base : Nat} {v : Value} {l : List Nat} (h : W.ownsRow base 82 1 v l.length (setsV l)) : Kd.R (Kd.int .u16) 82 W base (fun _ => True) v (setsI l) :=
  R_of_owns .u16 (by rw [← setsV_eq, setsI_len]; exact h)
def outL (n : Nat) (T : List Nat) : List Int := (List.range n).map fun (i : Nat) => verdictS (setsI T) (rawHas (i : Int))
theorem outL_succ (n : Nat) (T : List Nat) : outL (n + 1) T = outL n T ++ [verdictS (setsI T) (rawHas n)] := by simp [outL, List.range_succ]
theorem outL_len (n : Nat) (T : List Nat) : (outL n T).length = n := by simp [outL]
def outE (parts : List S50) (swap : Int) (looks : List S61) (wrong : Int) (needs : List Int) : List Int × Int :=
  if checkE parts swap looks wrong needs = 0 then (if truthsL parts looks wrong = [] then ([], 9) else (outL parts.length (truthsL parts looks wrong), 0)) else ([], checkE parts swap looks wrong needs)
def strip_Out.f (l0_0 : List (S50)) (a0_1 : Int) (l0_2 : List (S61)) (a0_3 : Int) (l0_4 : List Int) : Option (List Int × Int) :=
  if carFits l0_0 l0_2 l0_4 then some (outE l0_0 a0_1 l0_2 a0_3 l0_4) else none
set_option maxHeartbeats 4000000 in
set_option maxRecDepth 100000 in
theorem out_pred (b6 b8 : Nat) (i : Nat) (w : World) (h6 : w.heap[b6]? = some (.cells #[.func (.func 59) #[] #[]] 97 (0, 0))) (h8 : w.heap[b8]? = some (.cells #[.int .i64 i] 3 (0, 0))) :
    PredC 65 #[.pointer (some ⟨b6, 0, none⟩), .pointer (some ⟨b8, 0, none⟩)] (rawHas i) w := by
  intro W x hB
  have hc6 : W.cell? ⟨b6, 0, none⟩ = some (.func (.func 59) #[] #[]) := by
    rw [hB.cell (p := ⟨b6, 0, none⟩) (blk_lt h6), blk_cell h6 0]; rfl
  have hc8 : W.cell? ⟨b8, 0, none⟩ = some (.int .i64 i) := by
    rw [hB.cell (p := ⟨b8, 0, none⟩) (blk_lt h8), blk_cell h8 0]; rfl
  clear hB h6 h8
  show Calls Try.prog 65 #[.int .u16 x, .pointer (some ⟨b6, 0, none⟩), .pointer (some ⟨b8, 0, none⟩)] W fun e w' => e = .returned (.bool (rawHas i x)) ∧ Below W.heap.size W w'
  have HH := Aside0.mk (strip_set_has.calls x i (rawHas i x) W (by unfold strip_set_has.f rawHas; rw [if_pos (by omega)]))
  generalize rawHas i x = b at *
  go_enter Try.func65, Try.ntmps65
  go_wp2_with (go_at_call 59; refine HH.out.mono ?_; rintro e w' ⟨rfl, ⟨m, rfl⟩⟩)
  go_ret
  exact ⟨rfl, pw_below_drewN (Below.refl _ _) m⟩
theorem R_int_grown {k : IntKind} {e : Nat} {W W1 : World} {base : Nat} {v : Value} {xs : List Int} {row : Option Nat} (h : Kd.R (Kd.int k) e W base (fun _ => True) v xs) (hg : W.grownBy W1 row)
    (hrow : ∀ b, row = some b → b < W.heap.size → ∃ (cells : Array Value) (t : TypeId), W.heap[b]? = some (.cells cells t (0, 0)) ∧ t ≠ e) : Kd.R (Kd.int k) e W1 base (fun _ => True) v xs := by
  refine Kd.R_mono (Kd.R_step (Kd.R_bound h) (fun b hb hlt => hg.block b hlt (fun e' => ?_))) (fun _ _ => trivial)
  obtain ⟨_, _, _, q, hq, cells, hc⟩ := hb
  obtain ⟨cells', t, hc', hne⟩ := hrow b e'.symm hlt
  rw [hc] at hc'
  injection hc' with hc'
  injection hc' with _ hc'
  have : q = e := by simpa [Kd.int, Kd.scalar] using hq
  exact hne (hc'.symm.trans this)
theorem grow_blk {W w1 : World} {n₀ b t e size k : Nat} {cs : Array Value} {v : Value} {xs : List Value} {tmp : Obj} (hb : W.heap[b]? = some (.cells cs t (0, 0))) (hte : t ≠ e)
    (hrow : W.ownsRow n₀ e size v k xs) (hgrow : (W.alloc tmp).grownBy w1 v.ownBlock) : w1.heap[b]? = some (.cells cs t (0, 0)) := by
  have hlt := blk_lt hb
  rw [hgrow.block b (by simp; omega) (fun e' => ?_)]
  · exact (Below.heap_alloc _ _ _ hlt).trans hb
  · obtain ⟨cells, hc⟩ := own_typed hrow b e'.symm
    rw [hb] at hc
    injection hc with hc
    injection hc with _ hc
    exact hte hc
theorem grow_below {w W w1 : World} {e size k : Nat} {v : Value} {xs : List Value} {tmp : Obj} (hB : Below w.heap.size w W) (hrow : W.ownsRow w.heap.size e size v k xs) (hgrow : (W.alloc tmp).grownBy w1 v.ownBlock) : Below w.heap.size w w1 :=
  (below_alloc hB tmp).grown hgrow (by have := hB.size; simp; omega) (fun j ej => own_base hrow j ej)
theorem grow_R {W w1 : World} {n₀ e e' size k base : Nat} {q : IntKind} {v u : Value} {xs : List Value} {ys : List Int} {tmp : Obj} (h : Kd.R (Kd.int q) e' W base (fun _ => True) u ys) (hte : e ≠ e')
    (hrow : W.ownsRow n₀ e size v k xs) (hgrow : (W.alloc tmp).grownBy w1 v.ownBlock) : Kd.R (Kd.int q) e' w1 base (fun _ => True) u ys := by
  refine R_int_grown (Kd.R_below h (below_alloc (Below.refl _ _) tmp)) hgrow (fun b hb _ => ?_)
  obtain ⟨cells, hc⟩ := own_typed hrow b hb
  exact ⟨cells, e, (Below.heap_alloc _ _ _ (own_lt hrow b hb)).trans hc, hte⟩
def TruthsSay (parts : List S50) (swap : Int) (looks : List S61) (wrong : Int) (needs : List Int) (T : List Nat) (er : Int) : Prop :=
  (checkE parts swap looks wrong needs ≠ 0 ∧ er = checkE parts swap looks wrong needs ∧ T = []) ∨ (checkE parts swap looks wrong needs = 0 ∧ T = truthsL parts looks wrong ∧ er = if T = [] then 9 else 0)
theorem TruthsSay.bad {parts : List S50} {swap : Int} {looks : List S61} {wrong : Int} {needs : List Int} {T : List Nat} {er : Int} (h : TruthsSay parts swap looks wrong needs T er) (he : er ≠ 0) : outE parts swap looks wrong needs = ([], er) := by
  unfold outE
  rcases h with ⟨h1, h2, _⟩ | ⟨h1, h2, h3⟩
  · rw [if_neg h1, h2]
  · rw [if_pos h1, ← h2]
    by_cases hT : T = []
    · rw [if_pos hT] at h3 ⊢; rw [h3]
    · rw [if_neg hT] at h3; exact absurd h3 he
theorem TruthsSay.good {parts : List S50} {swap : Int} {looks : List S61} {wrong : Int} {needs : List Int} {T : List Nat} (h : TruthsSay parts swap looks wrong needs T 0) : checkE parts swap looks wrong needs = 0 ∧ T = truthsL parts looks wrong ∧ T ≠ [] ∧ outE parts swap looks wrong needs = (outL parts.length T, 0) := by
  rcases h with ⟨h1, h2, _⟩ | ⟨h1, h2, h3⟩
  · exact absurd h2.symm h1
  · have hT : T ≠ [] := by intro e; rw [if_pos e] at h3; cases h3
    refine ⟨h1, h2, hT, ?_⟩
    unfold outE
    rw [if_pos h1, ← h2, if_neg hT]
theorem truths_le (parts : List S50) (looks : List S61) (wrong : Int) (h : parts.length ≤ 9) : (truthsL parts looks wrong).length ≤ 512 := Nat.le_trans (truthsOf_len _ _) (statesL_len parts looks h)
theorem infoInt : (Try.prog.info? 3).map (fun i => (i.zero, i.size, i.bytes)) = some (some (.int .i64 0), 1, 8) := by kernel_rfl
set_option maxHeartbeats 8000000 in
set_option maxRecDepth 100000 in
theorem strip_Out.calls (A0_0 : Option Addr) (c0_0 : Nat) (l0_0 : List (S50)) (a0_1 : Int) (A0_2 : Option Addr) (c0_2 : Nat) (l0_2 : List (S61)) (a0_3 : Int) (A0_4 : Option Addr) (c0_4 : Nat) (l0_4 : List Int) (r1 : List Int) (r2 : Int) (w : World) (hr0_0 : Kd.C k50 w A0_0 l0_0.length l0_0) (hc0_0 : l0_0.length ≤ c0_0) (hr0_2 : Kd.C k61 w A0_2 l0_2.length l0_2) (hc0_2 : l0_2.length ≤ c0_2) (hr0_4 : Kd.C (Kd.int .i64) w A0_4 l0_4.length l0_4) (hc0_4 : l0_4.length ≤ c0_4) (h : strip_Out.f l0_0 a0_1 l0_2 a0_3 l0_4 = some (r1, r2)) :
    Calls Try.prog 26 #[.agg #[.slice A0_0 l0_0.length c0_0, .int .i64 a0_1, .slice A0_2 l0_2.length c0_2, .int .i64 a0_3, .slice A0_4 l0_4.length c0_4]] w fun e w' => ∃ v0_ : Value, e = .returned (.tuple #[v0_, .int .i64 r2]) ∧ Kd.R (Kd.int .i64) 3 w' w.heap.size (fun _ => True) v0_ r1 ∧ Below w.heap.size w w' := by
  unfold strip_Out.f at h
  by_cases hf : carFits l0_0 l0_2 l0_4
  case neg => rw [if_neg hf] at h; cases h
  rw [if_pos hf] at h
  have hE := Option.some.inj h
  clear h
  have HR0 := Aside0.mk hr0_0
  have HR2 := Aside0.mk hr0_2
  have HR4 := Aside0.mk hr0_4
  have HF := Aside0.mk hf
  have HEE := Aside0.mk hE
  clear hr0_0 hr0_2 hr0_4 hf hE
  have hu26 := Try.underlying26
  have hmf : ∀ (fn : Fn) (first cap : Array Value) (w : World), (Instr.makeFunc fn first cap).run Try.prog w = .ok (.func fn first cap) w := fun _ _ _ _ => rfl
  obtain ⟨i0, hi, hz0, hz1, hz2⟩ := info_parts infoInt
  go_enter Try.func26, Try.ntmps26
  go_wp2_with ((with_reducible refine gate_dst (N := 1) rfl ?_); refine box_event ?hg (N := 1) ?hd (cs := #[.slice A0_0 l0_0.length c0_0, .int .i64 a0_1, .slice A0_2 l0_2.length c0_2, .int .i64 a0_3, .slice A0_4 l0_4.length c0_4]) (t := 26) ?hr ?_; (case hd => rfl); (case hg => rfl); (case hr => first | (go_simp; done) | (go_simp; rfl)); intro gb hg w2 hbox hb2; have hz0_ := (blk_cell hbox 0).trans rfl; have hz1_ := (blk_cell hbox 1).trans rfl; have hz2_ := (blk_cell hbox 2).trans rfl; have hz3_ := (blk_cell hbox 3).trans rfl; have hz4_ := (blk_cell hbox 4).trans rfl; have BK := Aside0.mk hbox; have HB := Aside0.mk hb2; clear hg hbox hb2)
  refine (truths_calls A0_0 c0_0 l0_0 a0_1 A0_2 c0_2 l0_2 a0_3 A0_4 c0_4 l0_4 w2 (Kd.C_below HR0.out HB.out) hc0_0 (Kd.C_below HR2.out HB.out) hc0_2 (Kd.C_below HR4.out HB.out) hc0_4 HF.out (carOK_of_check HF.out)).mono ?_
  rintro e w3 ⟨v, T, er, rfl, hT, hrow, hb3⟩
  have BK3 := Aside0.mk (blk_below BK.out hb3)
  have HB3 := Aside0.mk (below_step HB.out hb3)
  have HR := Aside0.mk (R_of_sets (own_weaken hrow HB.out.size))
  have HT := Aside0.mk (show TruthsSay _ _ _ _ _ T er from hT)
  clear hT hrow hb3 BK HB hz0_ hz1_ hz2_ hz3_ hz4_
  obtain ⟨Av, cv, hv⟩ := Kd.R_slice HR.out
  subst hv
  have hz0_ := (blk_cell BK3.out 0).trans rfl
  by_cases her : er = 0
  case neg =>
    have hnb : (er == 0) = false := beq_eq_false_iff_ne.2 her
    have HN := Aside0.mk her
    clear her
    have h1 := HEE.out.symm.trans (HT.out.bad HN.out)
    obtain ⟨rfl, rfl⟩ := Prod.mk.inj h1
    clear h1
    go_wp2
    go_ret2
    exact ⟨_, rfl, Kd.R_nil _ _ _ _ _, HB3.out⟩
  subst her
  obtain ⟨hck, hTe, hTn, hoe⟩ := HT.out.good
  have h1 := HEE.out.symm.trans hoe
  obtain ⟨rfl, rfl⟩ := Prod.mk.inj h1
  have hl9 := (carOK_of_check HF.out hck).few
  have hT5 := truths_le l0_0 l0_2 a0_3 hl9
  rw [← hTe] at hT5
  clear h1 hoe hck hTe hTn HT HEE
  go_upto_region 5 with (fail)
  obtain ⟨b6, hb6⟩ : ∃ b, b = w3.heap.size := ⟨_, rfl⟩
  have B6 := Aside0.mk (blk_new w3 (.cells #[.func (.func 59) #[] #[]] 97 (0, 0)))
  have hbw : Below w3.heap.size w3 (w3.alloc (.cells #[.func (.func 59) #[] #[]] 97 (0, 0))) := below_alloc (Below.refl _ _) _
  generalize hw4 : w3.alloc (.cells #[.func (.func 59) #[] #[]] 97 (0, 0)) = w4 at *
  rw [← hb6] at B6 ⊢
  have BK4 := Aside0.mk (blk_below BK3.out hbw)
  have HB4 := Aside0.mk (below_step HB3.out hbw)
  have HR5 := Aside0.mk (Kd.R_below HR.out hbw)
  clear hbw hw4 hb6 BK3 HB3 HR hz0_
  have hz0_ := (blk_cell BK4.out 0).trans rfl
  go_wp2
  go_loopg [7, 20] l0_0.length (fun gk v7 v20 wr => ∃ k : Nat, k ≤ l0_0.length ∧ l0_0.length - k ≤ gk ∧ v20 = .int .i64 k ∧ Aside0 (wr.ownsRow w.heap.size 3 1 v7 (outL k T).length ((outL k T).map (Value.int .i64))) ∧ Aside0 (wr.heap[b6]? = some (.cells #[.func (.func 59) #[] #[]] 97 (0, 0))) ∧ Aside0 (Kd.R (Kd.int .u16) 82 wr w.heap.size (fun _ => True) (.slice Av (setsI T).length cv) (setsI T)) ∧ Aside0 (Below w.heap.size w wr))
  case atStart => exact ⟨0, Nat.zero_le _, by omega, rfl, ⟨World.ownsRow_nil _ _ _ _⟩, B6, HR5, HB4⟩
  case round =>
    clear BK4 hz0_ B6 HR5 HB4
    obtain ⟨k, hk, hgk, rfl, HO, B6, HR5, HB4⟩ := hrel
    by_cases hlt : k < l0_0.length
    · have hlz : (k : Int) < (l0_0.length : Int) := by omega
      go_upto_region 9 with (fail)
      obtain ⟨b8, hb8⟩ : ∃ b, b = wr.heap.size := ⟨_, rfl⟩
      have B8 := Aside0.mk (blk_new wr (.cells #[.int .i64 (k : Int)] 3 (0, 0)))
      have hbw : Below wr.heap.size wr (wr.alloc (.cells #[.int .i64 (k : Int)] 3 (0, 0))) := below_alloc (Below.refl _ _) _
      generalize hw5 : wr.alloc (.cells #[.int .i64 (k : Int)] 3 (0, 0)) = w5 at *
      rw [← hb8] at B8 ⊢
      have B65 := Aside0.mk (blk_below B6.out hbw)
      have HB5 := Aside0.mk (below_step HB4.out hbw)
      have HR6 := Aside0.mk (Kd.R_below HR5.out hbw)
      have HO5 := Aside0.mk (own_move HO.out (fun b hb => hbw.block b (own_lt HO.out b hb)))
      clear hbw hw5 hb8 HB4 HR5 HO B6
      go_wp2_with (fail)
      refine (verdict_65 _ (rawHas k) Av cv (setsI T) w5 (Kd.R_reads' HR6.out).2.2 (by rw [setsI_len]; omega) (out_pred b6 b8 k w5 B65.out B8.out)).mono ?_
      rintro e w7 ⟨rfl, hb7⟩
      have B67 := Aside0.mk (blk_below B65.out hb7)
      have HB7 := Aside0.mk (below_step HB5.out hb7)
      have HR7 := Aside0.mk (Kd.R_below HR6.out hb7)
      have HO7 := Aside0.mk (own_move HO5.out (fun b hb => hb7.block b (own_lt HO5.out b hb)))
      have HS := Aside0.mk (outL_succ k T)
      have hol := outL_len k T
      clear hb7 HB5 HR6 HO5 B65 B8
      generalize verdictS (setsI T) (rawHas k) = x at *
      generalize outL k T = xs at *
      go_wp2_with (at_builtin; refine wpList_append_own _ rfl _ _ 24 rfl w.heap.size 3 i0 (.int .i64 0) 1 8 Try.underlying24 hi hz0 hz1 hz2 rfl (by decide) _ _ _ rfl (HO7.out.alloc _) ⟨w7.heap.size, 0, none⟩ 1 1 [.int .i64 x] rfl rfl (cell_one_new _ _ _) (by simp [Value.oneCell']) (by unfold maxLen; omega) (by omega) (by have := HB7.out.size; simp; omega) ?_; intro v' w8 hown' hgrow _)
      go_roundg (l0_0.length - (k + 1))
      case measure => omega
      case rel =>
        refine ⟨k + 1, by omega, by omega, by go_num, ⟨by rw [HS.out]; simpa using hown'⟩, ⟨?_⟩, ⟨?_⟩, ⟨?_⟩⟩
        · exact grow_blk B67.out (by decide) HO7.out hgrow
        · exact grow_R HR7.out (by decide) HO7.out hgrow
        · exact grow_below HB7.out HO7.out hgrow
    · have : k = l0_0.length := by omega
      subst this
      go_wp2
      go_ret2
      exact ⟨_, rfl, R_of_owns .i64 HO.out, HB4.out⟩
end Go.Proofs.Ytkkmfcdikkiodaa.PC4
namespace Go.Proofs.Ytkkmfcdikkiodaa.PC4
open Go.RowKit Go.Proofs.YtkkmfcdikkiodaaW.PrintWords Go.Proofs.YtkkmfcdikkiodaaW.PrintLast Go.Proofs.YtkkmfcdikkiodaaW.PrintMore
attribute [local go_sem] max2_int min2_int max_two min_two max_three min_three max_four min_four
set_option linter.unusedVariables false
set_option linter.unusedSimpArgs false
def strip_bad.l0 : Nat → Int → List (S50) → Int → Int → Option (Int)
 | 0, _, _, _, _ => none
 | k + 1, x3, x7, x8, x9 => if x9 < x8 then (if 0 ≤ x9 then (if x9 < (x7.length : Int) then (if (rd_T50 x7 x9).f1 = true then (strip_bad.l0 k (Go.bits .or .u16 x3 (shl .u16 1 x9)) x7 x8 (wrap64 (x9 + 1))) else (strip_bad.l0 k x3 x7 x8 (wrap64 (x9 + 1)))) else (none)) else (none)) else (some x3)
def strip_bad.f (k : Nat) (l0_0 : List (S50)) (a0_1 : Int) (l0_2 : List (S61)) (a0_3 : Int) (l0_4 : List Int) : Option (Int) := strip_bad.l0 k 0 l0_0 (l0_0.length : Int) 0
set_option maxHeartbeats 8000000 in
set_option maxRecDepth 100000 in
theorem strip_bad.calls (k : Nat) (A0_0 : Option Addr) (c0_0 : Nat) (l0_0 : List (S50)) (a0_1 : Int) (A0_2 : Option Addr) (c0_2 : Nat) (l0_2 : List (S61)) (a0_3 : Int) (A0_4 : Option Addr) (c0_4 : Nat) (l0_4 : List Int) (r : Int) (w : World) (hr0_0 : Kd.C k50 w A0_0 l0_0.length l0_0) (hc0_0 : l0_0.length ≤ c0_0) (hr0_2 : Kd.C k61 w A0_2 l0_2.length l0_2) (hc0_2 : l0_2.length ≤ c0_2) (hr0_4 : Kd.C (Kd.int .i64) w A0_4 l0_4.length l0_4) (hc0_4 : l0_4.length ≤ c0_4) (h : strip_bad.f k l0_0 a0_1 l0_2 a0_3 l0_4 = some r) :
  Calls Try.prog 89 #[.agg #[.slice A0_0 l0_0.length c0_0, .int .i64 a0_1, .slice A0_2 l0_2.length c0_2, .int .i64 a0_3, .slice A0_4 l0_4.length c0_4]] w fun e w' => e = .returned (.int .u16 r) ∧ Below w.heap.size w w' := by
 have hu26 := Try.underlying26
 have hu50 := Try.underlying50
 have HR0_0 := Aside0.mk hr0_0
 have HC0_0 := Aside0.mk hc0_0
 clear hr0_0 hc0_0
 have HR0_2 := Aside0.mk hr0_2
 have HC0_2 := Aside0.mk hc0_2
 clear hr0_2 hc0_2
 have HR0_4 := Aside0.mk hr0_4
 have HC0_4 := Aside0.mk hc0_4
 clear hr0_4 hc0_4
 have HB := Aside0.mk (Below.refl w.heap.size w)
 have H : (strip_bad.l0 k 0 l0_0 (l0_0.length : Int) 0) = some r := h
 clear h
 have H' := Aside0.mk H
 clear H
 go_enter Try.func89, Try.ntmps89
 go_wp2_with (first | ((with_reducible refine gate_dst (N := 1) rfl ?_); refine box_event ?hg (N := 1) ?hd (cs := #[.slice A0_0 l0_0.length c0_0, .int .i64 a0_1, .slice A0_2 l0_2.length c0_2, .int .i64 a0_3, .slice A0_4 l0_4.length c0_4]) (t := 26) ?hr ?_; (case hd => rfl); (case hg => rfl); (case hr => first | (go_simp; done) | (go_simp; rfl)); intro gb105 hg w2 hbox hb; have BK105 := Aside0.mk (hbox); have GW105 := Aside0.mk ((by rw [hg]; exact (below_size (below_x HB.out)) : w.heap.size ≤ gb105)); have GE105 := Aside0.mk ((by rw [hg]; exact (below_size (below_x HB.out)) : w.heap.size ≤ gb105)); replace HB := Aside0.mk (below_step (below_x HB.out) hb); clear hb hbox hg; obtain ⟨_, _, _, _, _⟩ := cz5 BK105; have hfz3_0 := blk_frozen BK105.out))
 go_loopg [3, 9] k (fun kq v3 v9 w' => ∃ (x3_1 : Int) (x9_1 : Int), v3 = .int .u16 x3_1 ∧ v9 = .int .i64 x9_1 ∧ Aside0 (strip_bad.l0 kq x3_1 l0_0 (l0_0.length : Int) x9_1 = some r) ∧ Aside0 (kq ≤ k) ∧ Aside0 (w'.heap[gb105]? = some (.cells #[(.slice A0_0 l0_0.length c0_0), .int .i64 a0_1, (.slice A0_2 l0_2.length c0_2), .int .i64 a0_3, (.slice A0_4 l0_4.length c0_4)] 26 (0, 0))) ∧ Aside0 (Below w.heap.size w w'))
 case atStart => exact ⟨(0), (0), (by first | rfl | (simp; done) | (simp [*]; done)), (by first | rfl | (simp; done) | (simp [*]; done)), H', ⟨Nat.le_refl _⟩, ⟨blk_x BK105.out⟩, ⟨by exact below_y HB.out⟩⟩
 case round =>
  clear H'
  obtain ⟨x3_1, x9_1, rfl, rfl, HA, HK1, BK105, HB⟩ := hrel
  cases gk with
  | zero => exact absurd HA.out (by simp [strip_bad.l0])
  | succ k1 =>
   have H := HA.out
   clear HA
   simp only [strip_bad.l0] at H
   by_cases c4 : x9_1 < (l0_0.length : Int)
   ·
    rw [if_pos c4] at H
    have c4b0 : decide (x9_1 < (l0_0.length : Int)) = true := decide_eq_true c4
    clear c4
    by_cases c5 : 0 ≤ x9_1
    ·
     rw [if_pos c5] at H
     have c5b0 : decide (0 ≤ x9_1) = true := decide_eq_true c5
     clear c5
     by_cases c6 : x9_1 < (l0_0.length : Int)
     ·
      rw [if_pos c6] at H
      have c6b0 : decide (x9_1 < (l0_0.length : Int)) = true := decide_eq_true c6
      clear c6
      obtain ⟨bq7, hbq7⟩ : ∃ b_ : Bool, b_ = ((rd_T50 l0_0 x9_1).f1) := ⟨_, rfl⟩
      replace H : (if bq7 = true then (strip_bad.l0 k1 (Go.bits .or .u16 x3_1 (shl .u16 1 x9_1)) l0_0 (l0_0.length : Int) (wrap64 (x9_1 + 1))) else (strip_bad.l0 k1 x3_1 l0_0 (l0_0.length : Int) (wrap64 (x9_1 + 1)))) = some r := by rw [← hbq7] at H; exact H
      have Nbq7 := Aside0.mk hbq7
      clear hbq7
      by_cases c8 : bq7 = true
      ·
       subst c8
       have H1 : (strip_bad.l0 k1 (Go.bits .or .u16 x3_1 (shl .u16 1 x9_1)) l0_0 (l0_0.length : Int) (wrap64 (x9_1 + 1))) = some r := by rw [if_pos rfl] at H; exact H
       clear H
       have H := H1
       clear H1
       have c9b0 := eq_true (of_x : 0 ≤ x9_1)
       obtain ⟨ji10, hji10⟩ : ∃ j_ : Int, (shl .u16 1 x9_1) = j_ := ⟨_, rfl⟩
       replace H : (strip_bad.l0 k1 (Go.bits .or .u16 x3_1 (ji10)) l0_0 (l0_0.length : Int) (wrap64 (x9_1 + 1))) = some r := by first | (rw [hji10] at H; exact H) | (simp only [hji10] at H ⊢; exact H)
       have hji10_ : (IntKind.u16.wrap (1 * 2 ^ min x9_1.toNat 16)) = ji10 := hji10
       have hji10z : x9_1 ≤ 16 → (IntKind.u16.wrap (1 * 2 ^ x9_1.toNat)) = ji10 := shl_small hji10
       have hji10u : (IntKind.u16.wrap (2 ^ min x9_1.toNat 16)) = ji10 := by have h_ := hji10_; rw [Int.one_mul] at h_; exact h_
       have hji10v : x9_1 ≤ 16 → (IntKind.u16.wrap (2 ^ x9_1.toNat)) = ji10 := fun hle_ => by have h_ := hji10z hle_; rw [Int.one_mul] at h_; exact h_
       have H' := Aside0.mk H
       clear H
       have p106 : 0 ≤ (x9_1 : Int) := of_x
       have q106 : x9_1 < (l0_0.length : Int) := of_x
       obtain ⟨ad106, A106_0, c106_0, e106, hx106_0, hx106_1, hx106_2, hx106_3, hl106_0, hi106_0⟩ := at_T50 HR0_0.out x9_1 p106 q106
       (try rw [← Nbq7.out] at hx106_1)
       cases e106
       replace hx106_0 := cell_x HB hx106_0
       replace hx106_1 := cell_x HB hx106_1
       replace hx106_2 := cell_x HB hx106_2
       replace hx106_3 := cell_x HB hx106_3
       have HR106_0 := Aside0.mk hi106_0
       have HC106_0 := Aside0.mk hl106_0
       clear hi106_0 hl106_0
       replace p106 := eq_true p106
       replace q106 := eq_true q106
       go_wp2_with (first | ((with_reducible refine gate_dst (N := 5) rfl ?_); refine box_event ?hg (N := 5) ?hd (cs := #[.slice none 0 0, .bool false, .int .i64 0, .int .i64 0]) (t := 50) ?hr ?_; (case hd => rfl); (case hg => rfl); (case hr => first | (go_simp; done) | (go_simp; rfl)); intro gb107 hg w11 hbox hb; have BK107 := Aside0.mk (hbox); have GW107 := Aside0.mk ((by rw [hg]; exact (below_size (by exact below_y HB.out)) : w.heap.size ≤ gb107)); have GE107 := Aside0.mk ((by rw [hg]; exact (below_size (by exact below_y HB.out)) : w.heap.size ≤ gb107)); replace HB := bl_x HB hb; have NB105_107 := Aside0.mk ((by rw [hg]; exact Nat.ne_of_lt (blk_lt (g := gb105) (o := .cells #[.slice (some ad106) l0_0.length c0_0, .int .i64 a0_1, .slice A0_2 l0_2.length c0_2, .int .i64 a0_3, .slice A0_4 l0_4.length c0_4] 26 (0, 0)) (blk_x BK105.out)) : gb105 ≠ gb107)); have NB107_105 := Aside0.mk ((by rw [hg]; exact Nat.ne_of_gt (blk_lt (g := gb105) (o := .cells #[.slice (some ad106) l0_0.length c0_0, .int .i64 a0_1, .slice A0_2 l0_2.length c0_2, .int .i64 a0_3, .slice A0_4 l0_4.length c0_4] 26 (0, 0)) (blk_x BK105.out)) : gb107 ≠ gb105)); replace BK105 := Aside0.mk (blk_below (blk_x BK105.out) hb); clear hb hbox hg; have hnb12 := NB107_105.out; have hnc12 := NB105_107.out; obtain ⟨_, _, _, _⟩ := cz4 BK107; have hfz13_0 := blk_frozen BK107.out))
       go_roundg k1
       case measure => have := HK1.out; omega
       case rel => exact ⟨(Go.bits .or .u16 x3_1 (ji10)), (wrap64 (x9_1 + 1)), (by first | rfl | (simp; done) | (simp only [← hji10] <;> (first | rfl | simp)) | (simp [*]; done)), (by first | rfl | (simp; done) | (simp [*]; done)), H', ⟨by have := HK1.out; omega⟩, ⟨blk_w BK105.out⟩, ⟨by exact below_y HB.out⟩⟩
      ·
       replace c8 := Bool.eq_false_iff.mpr c8
       subst c8
       have H1 : (strip_bad.l0 k1 x3_1 l0_0 (l0_0.length : Int) (wrap64 (x9_1 + 1))) = some r := by rw [if_neg (show ¬ (false = true) by decide)] at H; exact H
       clear H
       have H := H1
       clear H1
       have H' := Aside0.mk H
       clear H
       have p106 : 0 ≤ (x9_1 : Int) := of_x
       have q106 : x9_1 < (l0_0.length : Int) := of_x
       obtain ⟨ad106, A106_0, c106_0, e106, hx106_0, hx106_1, hx106_2, hx106_3, hl106_0, hi106_0⟩ := at_T50 HR0_0.out x9_1 p106 q106
       (try rw [← Nbq7.out] at hx106_1)
       cases e106
       replace hx106_0 := cell_x HB hx106_0
       replace hx106_1 := cell_x HB hx106_1
       replace hx106_2 := cell_x HB hx106_2
       replace hx106_3 := cell_x HB hx106_3
       have HR106_0 := Aside0.mk hi106_0
       have HC106_0 := Aside0.mk hl106_0
       clear hi106_0 hl106_0
       replace p106 := eq_true p106
       replace q106 := eq_true q106
       go_wp2_with (first | ((with_reducible refine gate_dst (N := 5) rfl ?_); refine box_event ?hg (N := 5) ?hd (cs := #[.slice none 0 0, .bool false, .int .i64 0, .int .i64 0]) (t := 50) ?hr ?_; (case hd => rfl); (case hg => rfl); (case hr => first | (go_simp; done) | (go_simp; rfl)); intro gb107 hg w14 hbox hb; have BK107 := Aside0.mk (hbox); have GW107 := Aside0.mk ((by rw [hg]; exact (below_size (by exact below_y HB.out)) : w.heap.size ≤ gb107)); have GE107 := Aside0.mk ((by rw [hg]; exact (below_size (by exact below_y HB.out)) : w.heap.size ≤ gb107)); replace HB := bl_x HB hb; have NB105_107 := Aside0.mk ((by rw [hg]; exact Nat.ne_of_lt (blk_lt (g := gb105) (o := .cells #[.slice (some ad106) l0_0.length c0_0, .int .i64 a0_1, .slice A0_2 l0_2.length c0_2, .int .i64 a0_3, .slice A0_4 l0_4.length c0_4] 26 (0, 0)) (blk_x BK105.out)) : gb105 ≠ gb107)); have NB107_105 := Aside0.mk ((by rw [hg]; exact Nat.ne_of_gt (blk_lt (g := gb105) (o := .cells #[.slice (some ad106) l0_0.length c0_0, .int .i64 a0_1, .slice A0_2 l0_2.length c0_2, .int .i64 a0_3, .slice A0_4 l0_4.length c0_4] 26 (0, 0)) (blk_x BK105.out)) : gb107 ≠ gb105)); replace BK105 := Aside0.mk (blk_below (blk_x BK105.out) hb); clear hb hbox hg; have hnb15 := NB107_105.out; have hnc15 := NB105_107.out; obtain ⟨_, _, _, _⟩ := cz4 BK107; have hfz16_0 := blk_frozen BK107.out))
       go_roundg k1
       case measure => have := HK1.out; omega
       case rel => exact ⟨(x3_1), (wrap64 (x9_1 + 1)), (by first | rfl | (simp; done) | (simp [*]; done)), (by first | rfl | (simp; done) | (simp [*]; done)), H', ⟨by have := HK1.out; omega⟩, ⟨blk_w BK105.out⟩, ⟨by exact below_y HB.out⟩⟩
     ·
      rw [if_neg c6] at H
      exact absurd H (by simp)
    ·
     rw [if_neg c5] at H
     exact absurd H (by simp)
   ·
    rw [if_neg c4] at H
    have c4b0 : decide (x9_1 < (l0_0.length : Int)) = false := decide_eq_false c4
    clear c4
    obtain rfl := Option.some.inj H
    go_wp2
    go_ret
    exact ⟨by first | rfl | (simp [errW_none, errW_some] <;> rfl) | (simp [*, errW_none, errW_some] <;> rfl), by exact below_y HB.out⟩
end Go.Proofs.Ytkkmfcdikkiodaa.PC4
namespace Go.Proofs.Ytkkmfcdikkiodaa.PC4
set_option linter.unusedVariables false
open Go.RowKit Go.Proofs.YtkkmfcdikkiodaaW.PrintWords Go.Proofs.YtkkmfcdikkiodaaW.PrintLast Go.Proofs.YtkkmfcdikkiodaaW.PrintMore
def badGo : Nat → Nat → List S50 → Nat
  | _, s, [] => s
  | i, s, p :: l => badGo (i + 1) (if p.f1 then s ||| 2 ^ i else s) l
def badMask (parts : List S50) : Nat := badGo 0 0 parts
theorem badGo_lt (l : List S50) : ∀ i s, i + l.length ≤ 16 → s < 65536 → badGo i s l < 65536 := by
  induction l with
  | nil => intro i s _ h; exact h
  | cons p l ih =>
    intro i s h hs
    rw [List.length_cons] at h
    refine ih (i + 1) _ (by omega) ?_
    split
    · exact Nat.or_lt_two_pow (n := 16) hs (Nat.pow_lt_pow_right (by decide) (by omega))
    · exact hs
theorem bad_l0 (l : List S50) (hl : l.length ≤ 9) (d : Nat) : ∀ (k i s : Nat), i + d = l.length → d < k → s < 65536 →
    strip_bad.l0 k (s : Int) l (l.length : Int) (i : Int) = some ((badGo i s (l.drop i) : Nat) : Int) := by
  induction d with
  | zero =>
    intro k i s hi hk hs
    obtain ⟨k, rfl⟩ : ∃ m, k = m + 1 := ⟨k - 1, by omega⟩
    simp only [strip_bad.l0]
    rw [if_neg (by omega), List.drop_of_length_le (by omega)]
    rfl
  | succ d ih =>
    intro k i s hi hk hs
    obtain ⟨k, rfl⟩ : ∃ m, k = m + 1 := ⟨k - 1, by omega⟩
    simp only [strip_bad.l0]
    have hlt : i < l.length := by omega
    have hp : 2 ^ i < 65536 := Nat.pow_lt_pow_right (n := 16) (by decide) (by omega)
    have hw : wrap64 ((i : Int) + 1) = ((i + 1 : Nat) : Int) := by rw [wrap64_id (by omega) (by omega)]; omega
    have hs1 := shl_one (i : Int) (by omega) (by omega)
    rw [Int.toNat_natCast] at hs1
    have hrd : rd_T50 l (i : Int) = l.getD i z50 := by simp [rd_T50]
    rw [if_pos (by omega), if_pos (by omega), if_pos (by omega), hs1, u16_or _ _ hs hp, hw, hrd, drop_cons_rd l i hlt z50]
    show _ = some ((badGo (i + 1) (if (l.getD i z50).f1 then s ||| 2 ^ i else s) (l.drop (i + 1)) : Nat) : Int)
    cases hb : (l.getD i z50).f1 with
    | true =>
      rw [if_pos rfl, if_pos rfl]
      exact ih k (i + 1) _ (by omega) (by omega) (Nat.or_lt_two_pow (n := 16) hs hp)
    | false =>
      rw [if_neg (by decide), if_neg (by decide)]
      exact ih k (i + 1) _ (by omega) (by omega) hs
theorem bad_f (l : List S50) (hl : l.length ≤ 9) (a1 : Int) (l2 : List S61) (a3 : Int) (l4 : List Int) : strip_bad.f (l.length + 1) l a1 l2 a3 l4 = some ((badMask l : Nat) : Int) := by
  have := bad_l0 l hl l.length (l.length + 1) 0 0 (by omega) (by omega) (by decide)
  simpa [strip_bad.f, badMask] using this
set_option maxHeartbeats 8000000 in
set_option maxRecDepth 100000 in
theorem clean_pred (b3 b1 : Nat) (A0 : Option Addr) (c0 : Nat) (parts : List S50) (swap : Int) (A2 : Option Addr) (c2 : Nat) (looks : List S61) (wrong : Int) (A4 : Option Addr) (c4 : Nat) (needs : List Int) (w : World) (h9 : parts.length ≤ 9)
    (hp : Kd.C k50 w A0 parts.length parts) (hpc : parts.length ≤ c0) (hl : Kd.C k61 w A2 looks.length looks) (hlc : looks.length ≤ c2) (hn : Kd.C (Kd.int .i64) w A4 needs.length needs) (hnc : needs.length ≤ c4)
    (h3 : w.heap[b3]? = some (.cells #[.func (.func 60) #[] #[]] 119 (0, 0))) (h1 : w.heap[b1]? = some (.cells #[.slice A0 parts.length c0, .int .i64 swap, .slice A2 looks.length c2, .int .i64 wrong, .slice A4 needs.length c4] 26 (0, 0))) :
    PredC 88 #[.pointer (some ⟨b3, 0, none⟩), .pointer (some ⟨b1, 0, none⟩)] (rawAll (badMask parts : Nat)) w := by
  intro W x hB
  have hu26 := Try.underlying26
  have hk3 := blk_below h3 hB
  have hk1 := blk_below h1 hB
  have hc3 : W.cell? ⟨b3, 0, none⟩ = some (.func (.func 60) #[] #[]) := (blk_cell hk3 0).trans rfl
  have hz0 := (blk_cell hk1 0).trans rfl
  have hz1 := (blk_cell hk1 1).trans rfl
  have hz2 := (blk_cell hk1 2).trans rfl
  have hz3 := (blk_cell hk1 3).trans rfl
  have hz4 := (blk_cell hk1 4).trans rfl
  have HBAD := Aside0.mk ((strip_bad.calls (parts.length + 1) A0 c0 parts swap A2 c2 looks wrong A4 c4 needs _ W.drew (Kd.C_below hp (below_drew1 hB)) hpc (Kd.C_below hl (below_drew1 hB)) hlc (Kd.C_below hn (below_drew1 hB)) hnc (bad_f parts h9 swap looks wrong needs)).mono (R' := fun e w' => e = .returned (.int .u16 (badMask parts : Nat)) ∧ w'.cell? ⟨b3, 0, none⟩ = some (.func (.func 60) #[] #[]) ∧ Below W.heap.size W w') (fun e w' h => ⟨h.1, (h.2.cell (p := ⟨b3, 0, none⟩) (blk_lt hk3)).trans hc3, below_step (below_drew1 (Below.refl _ _)) h.2⟩))
  clear hp hpc hl hlc hn hnc h3 h1 hk3 hk1 hB
  show Calls Try.prog 88 #[.int .u16 x, .pointer (some ⟨b3, 0, none⟩), .pointer (some ⟨b1, 0, none⟩)] W fun e w' => e = .returned (.bool (rawAll (badMask parts : Nat) x)) ∧ Below W.heap.size W w'
  have HALL := Aside0.mk (fun W => strip_set_all.calls x (badMask parts : Nat) (rawAll (badMask parts : Nat) x) W rfl)
  generalize rawAll (badMask parts : Nat) x = b at *
  generalize ((badMask parts : Nat) : Int) = bm at *
  go_enter Try.func88, Try.ntmps88
  go_wp2
  go_region_with (first | (go_at_call 89; refine HBAD.out.mono ?_; rintro e w4 ⟨rfl, hc4, hb4⟩) | (go_at_call 60; refine (HALL.out _).mono ?_; rintro e w5 ⟨rfl, ⟨m5, rfl⟩⟩))
  all_goals (go_wp2; go_ret; exact ⟨rfl, pw_below_drewN hb4 _⟩)
set_option maxHeartbeats 8000000 in
set_option maxRecDepth 100000 in
theorem clean_calls (A0 : Option Addr) (c0 : Nat) (parts : List S50) (swap : Int) (A2 : Option Addr) (c2 : Nat) (looks : List S61) (wrong : Int) (A4 : Option Addr) (c4 : Nat) (needs : List Int) (w : World) :
    Calls Try.prog 66 #[.agg #[.slice A0 parts.length c0, .int .i64 swap, .slice A2 looks.length c2, .int .i64 wrong, .slice A4 needs.length c4]] w fun e w' => ∃ b3 b1, e = .returned (.func (.func 88) #[] #[.pointer (some ⟨b3, 0, none⟩), .pointer (some ⟨b1, 0, none⟩)]) ∧
      w'.heap[b3]? = some (.cells #[.func (.func 60) #[] #[]] 119 (0, 0)) ∧ w'.heap[b1]? = some (.cells #[.slice A0 parts.length c0, .int .i64 swap, .slice A2 looks.length c2, .int .i64 wrong, .slice A4 needs.length c4] 26 (0, 0)) ∧ Below w.heap.size w w' := by
  have hu26 := Try.underlying26
  have hmf : ∀ (fn : Fn) (first cap : Array Value) (w : World), (Instr.makeFunc fn first cap).run Try.prog w = .ok (.func fn first cap) w := fun _ _ _ _ => rfl
  go_enter Try.func66, Try.ntmps66
  go_wp2_with ((with_reducible refine gate_dst (N := 1) rfl ?_); refine box_event ?hg (N := 1) ?hd (cs := #[.slice A0 parts.length c0, .int .i64 swap, .slice A2 looks.length c2, .int .i64 wrong, .slice A4 needs.length c4]) (t := 26) ?hr ?_; (case hd => rfl); (case hg => rfl); (case hr => first | (go_simp; done) | (go_simp; rfl)); intro gb hg w2 hbox hb2; have BK := Aside0.mk hbox; have HB := Aside0.mk hb2; clear hg hbox hb2)
  go_ret
  exact ⟨_, gb, rfl, blk_new _ _, blk_alloc BK.out _, below_alloc HB.out _⟩
def cleanE (parts : List S50) (swap : Int) (looks : List S61) (wrong : Int) (needs : List Int) : Int × Int :=
  if checkE parts swap looks wrong needs = 0 then (if truthsL parts looks wrong = [] then (0, 9) else (verdictS (setsI (truthsL parts looks wrong)) (rawAll (badMask parts : Nat)), 0)) else (0, checkE parts swap looks wrong needs)
def strip_Clean.f (l0_0 : List (S50)) (a0_1 : Int) (l0_2 : List (S61)) (a0_3 : Int) (l0_4 : List Int) : Option (Int × Int) :=
  if carFits l0_0 l0_2 l0_4 then some (cleanE l0_0 a0_1 l0_2 a0_3 l0_4) else none
theorem TruthsSay.badC {parts : List S50} {swap : Int} {looks : List S61} {wrong : Int} {needs : List Int} {T : List Nat} {er : Int} (h : TruthsSay parts swap looks wrong needs T er) (he : er ≠ 0) : cleanE parts swap looks wrong needs = (0, er) := by
  unfold cleanE
  rcases h with ⟨h1, h2, _⟩ | ⟨h1, h2, h3⟩
  · rw [if_neg h1, h2]
  · rw [if_pos h1, ← h2]
    by_cases hT : T = []
    · rw [if_pos hT] at h3 ⊢; rw [h3]
    · rw [if_neg hT] at h3; exact absurd h3 he
theorem TruthsSay.goodC {parts : List S50} {swap : Int} {looks : List S61} {wrong : Int} {needs : List Int} {T : List Nat} (h : TruthsSay parts swap looks wrong needs T 0) : cleanE parts swap looks wrong needs = (verdictS (setsI T) (rawAll (badMask parts : Nat)), 0) := by
  obtain ⟨h1, h2, hT, _⟩ := h.good
  unfold cleanE
  rw [if_pos h1, ← h2, if_neg hT]
set_option maxHeartbeats 8000000 in
set_option maxRecDepth 100000 in
theorem strip_Clean.calls (A0_0 : Option Addr) (c0_0 : Nat) (l0_0 : List (S50)) (a0_1 : Int) (A0_2 : Option Addr) (c0_2 : Nat) (l0_2 : List (S61)) (a0_3 : Int) (A0_4 : Option Addr) (c0_4 : Nat) (l0_4 : List Int) (r1 : Int) (r2 : Int) (w : World) (hr0_0 : Kd.C k50 w A0_0 l0_0.length l0_0) (hc0_0 : l0_0.length ≤ c0_0) (hr0_2 : Kd.C k61 w A0_2 l0_2.length l0_2) (hc0_2 : l0_2.length ≤ c0_2) (hr0_4 : Kd.C (Kd.int .i64) w A0_4 l0_4.length l0_4) (hc0_4 : l0_4.length ≤ c0_4) (h : strip_Clean.f l0_0 a0_1 l0_2 a0_3 l0_4 = some (r1, r2)) :
    Calls Try.prog 27 #[.agg #[.slice A0_0 l0_0.length c0_0, .int .i64 a0_1, .slice A0_2 l0_2.length c0_2, .int .i64 a0_3, .slice A0_4 l0_4.length c0_4]] w fun e w' => e = .returned (.tuple #[.int .i64 r1, .int .i64 r2]) ∧ Below w.heap.size w w' := by
  unfold strip_Clean.f at h
  by_cases hf : carFits l0_0 l0_2 l0_4
  case neg => rw [if_neg hf] at h; cases h
  rw [if_pos hf] at h
  have hE := Option.some.inj h
  clear h
  have HR0 := Aside0.mk hr0_0
  have HR2 := Aside0.mk hr0_2
  have HR4 := Aside0.mk hr0_4
  have HF := Aside0.mk hf
  have HEE := Aside0.mk hE
  clear hr0_0 hr0_2 hr0_4 hf hE
  have hu26 := Try.underlying26
  go_enter Try.func27, Try.ntmps27
  go_wp2_with ((with_reducible refine gate_dst (N := 1) rfl ?_); refine box_event ?hg (N := 1) ?hd (cs := #[.slice A0_0 l0_0.length c0_0, .int .i64 a0_1, .slice A0_2 l0_2.length c0_2, .int .i64 a0_3, .slice A0_4 l0_4.length c0_4]) (t := 26) ?hr ?_; (case hd => rfl); (case hg => rfl); (case hr => first | (go_simp; done) | (go_simp; rfl)); intro gb hg w2 hbox hb2; have hz0_ := (blk_cell hbox 0).trans rfl; have hz1_ := (blk_cell hbox 1).trans rfl; have hz2_ := (blk_cell hbox 2).trans rfl; have hz3_ := (blk_cell hbox 3).trans rfl; have hz4_ := (blk_cell hbox 4).trans rfl; have BK := Aside0.mk hbox; have HB := Aside0.mk hb2; clear hg hbox hb2)
  refine (truths_calls A0_0 c0_0 l0_0 a0_1 A0_2 c0_2 l0_2 a0_3 A0_4 c0_4 l0_4 w2 (Kd.C_below HR0.out HB.out) hc0_0 (Kd.C_below HR2.out HB.out) hc0_2 (Kd.C_below HR4.out HB.out) hc0_4 HF.out (carOK_of_check HF.out)).mono ?_
  rintro e w3 ⟨v, T, er, rfl, hT, hrow, hb3⟩
  have BK3 := Aside0.mk (blk_below BK.out hb3)
  have HB3 := Aside0.mk (below_step HB.out hb3)
  have HR := Aside0.mk (R_of_sets (own_weaken hrow HB.out.size))
  have HT := Aside0.mk (show TruthsSay _ _ _ _ _ T er from hT)
  clear hT hrow hb3 BK HB hz0_ hz1_ hz2_ hz3_ hz4_
  obtain ⟨Av, cv, hv⟩ := Kd.R_slice HR.out
  subst hv
  have hz0_ := (blk_cell BK3.out 0).trans rfl
  have hz1_ := (blk_cell BK3.out 1).trans rfl
  have hz2_ := (blk_cell BK3.out 2).trans rfl
  have hz3_ := (blk_cell BK3.out 3).trans rfl
  have hz4_ := (blk_cell BK3.out 4).trans rfl
  by_cases her : er = 0
  case neg =>
    have hnb : (er == 0) = false := beq_eq_false_iff_ne.2 her
    have HN := Aside0.mk her
    clear her
    have h1 := HEE.out.symm.trans (HT.out.badC HN.out)
    obtain ⟨rfl, rfl⟩ := Prod.mk.inj h1
    clear h1
    go_wp2
    go_ret2
    exact ⟨rfl, HB3.out⟩
  subst her
  obtain ⟨hck, hTe, hTn, _⟩ := HT.out.good
  have h1 := HEE.out.symm.trans HT.out.goodC
  obtain ⟨rfl, rfl⟩ := Prod.mk.inj h1
  have hl9 := (carOK_of_check HF.out hck).few
  have hT5 := truths_le l0_0 l0_2 a0_3 hl9
  rw [← hTe] at hT5
  clear h1 hck hTe hTn HT HEE
  go_wp2_with (fail)
  refine (clean_calls A0_0 c0_0 l0_0 a0_1 A0_2 c0_2 l0_2 a0_3 A0_4 c0_4 l0_4 w3).mono ?_
  rintro e w4 ⟨b3, b1, rfl, hk3, hk1, hb4⟩
  have HB4 := Aside0.mk (below_step HB3.out hb4)
  have HR4' := Aside0.mk (Kd.R_below HR.out hb4)
  have HPC := Aside0.mk (clean_pred b3 b1 A0_0 c0_0 l0_0 a0_1 A0_2 c0_2 l0_2 a0_3 A0_4 c0_4 l0_4 w4 hl9 (Kd.C_below HR0.out HB4.out) hc0_0 (Kd.C_below HR2.out HB4.out) hc0_2 (Kd.C_below HR4.out HB4.out) hc0_4 hk3 hk1)
  clear hk3 hk1 hb4 hz0_ hz1_ hz2_ hz3_ hz4_
  go_wp2_with (fail)
  refine (verdict_88 _ (rawAll (badMask l0_0 : Nat)) Av cv (setsI T) w4 (Kd.R_reads' HR4'.out).2.2 (by rw [setsI_len]; omega) HPC.out).mono ?_
  rintro e w5 ⟨rfl, hb5⟩
  have HB5 := Aside0.mk (below_step HB4.out hb5)
  clear hb5
  go_wp2
  go_ret2
  exact ⟨rfl, HB5.out⟩
def PredI (g : Nat) (lb : Array Value) (p : Int → Bool) (w : World) : Prop :=
  ∀ (W : World) (x : Int), Below w.heap.size w W → Calls Try.prog g (#[.int .i64 x] ++ lb) W fun e w' => e = .returned (.bool (p x)) ∧ Below W.heap.size W w'
set_option maxHeartbeats 4000000 in
set_option maxRecDepth 100000 in
theorem idxFuncI (lb : Array Value) (p : Int → Bool) (A0 : Option Addr) (c0 : Nat) (l0 : List Int) (w : World)
    (hr0 : Kd.C (Kd.int .i64) w A0 l0.length l0) (hl : l0.length ≤ 140737488351232) (hp : PredI 77 lb p w) :
    Calls Try.prog 92 #[.slice A0 l0.length c0, .func (.func 77) #[] lb] w fun e w' => e = .returned (.int .i64 (idxP p 0 l0)) ∧ Below w.heap.size w w' := by
  have HR0 := Aside0.mk hr0
  have HP := Aside0.mk hp
  clear hr0 hp
  go_enter Try.func92, Try.ntmps92
  go_wp2
  go_loopw [8] (fun i wr => ∃ k : Nat, k ≤ l0.length ∧ i = .int .i64 k ∧ Aside0 (Below w.heap.size w wr) ∧ Aside0 (idxP p k (l0.drop k) = idxP p 0 l0)) (fun i _ => l0.length - (intOf i).toNat)
  case atStart => exact ⟨0, Nat.zero_le _, rfl, ⟨by repeat (first | exact Below.refl _ _ | apply below_drew1)⟩, ⟨rfl⟩⟩
  case round =>
    obtain ⟨k, hk, rfl, HB, HI⟩ := hrel
    by_cases hlt : k < l0.length
    · have hlz : (k : Int) < (l0.length : Int) := by omega
      obtain ⟨ad, e, hx0⟩ := Kd.at_int HR0.out (k : Int) (by omega) hlz
      cases e
      rw [Int.toNat_natCast] at hx0
      replace hx0 := (HB.out.cell (World.block_lt_of_cell? w _ hx0)).trans hx0
      have HD := Aside0.mk (drop_cons_rd l0 k hlt 0)
      have hcall := HP.out wr (rd l0 k) HB.out
      have HY : Aside0 (rd l0 k = l0.getD k 0) := ⟨rd_getD l0 k⟩
      generalize rd l0 k = y at *
      rw [← HY.out] at HD
      cases hq : p y with
      | true =>
        rw [hq] at hcall
        have HQ := Aside0.mk hq
        clear hq
        have HC := Aside0.mk hcall
        clear hcall
        go_wp2_with (go_at_call 77; refine HC.out.mono ?_; rintro e w' ⟨rfl, hb'⟩)
        go_ret
        exact ⟨by rw [← HI.out, HD.out, idxP, if_pos HQ.out]; rfl, below_step HB.out hb'⟩
      | false =>
        rw [hq] at hcall
        have HQ := Aside0.mk hq
        clear hq
        have HC := Aside0.mk hcall
        clear hcall
        go_wp2_with (go_at_call 77; refine HC.out.mono ?_; rintro e w' ⟨rfl, hb'⟩)
        go_roundw
        case rel => exact ⟨k + 1, by omega, by go_num, ⟨below_step HB.out hb'⟩, ⟨by rw [← HI.out, HD.out, idxP, if_neg (by rw [HQ.out]; simp)]; rfl⟩⟩
        case measure => simp [intOf]; omega
    · have : k = l0.length := by omega
      subst this
      go_wp2
      go_ret
      refine ⟨?_, HB.out⟩
      rw [← HI.out, List.drop_length]
      rfl
set_option maxHeartbeats 4000000 in
set_option maxRecDepth 100000 in
theorem containsFuncI (lb : Array Value) (p : Int → Bool) (A0 : Option Addr) (c0 : Nat) (l0 : List Int) (w : World)
    (hr0 : Kd.C (Kd.int .i64) w A0 l0.length l0) (hl : l0.length ≤ 140737488351232) (hp : PredI 77 lb p w) :
    Calls Try.prog 76 #[.slice A0 l0.length c0, .func (.func 77) #[] lb] w fun e w' => e = .returned (.bool (l0.any p)) ∧ Below w.heap.size w w' := by
  have HC := Aside0.mk (idxFuncI lb p A0 c0 l0 w hr0 hl hp)
  rw [← idxP_any p l0 0 (Int.le_refl 0)]
  clear hr0 hp
  go_enter Try.func76, Try.ntmps76
  go_wp2_with (go_at_call 92; refine HC.out.mono ?_; rintro e w' ⟨rfl, hb'⟩)
  go_ret
  exact ⟨rfl, hb'⟩
theorem index_l0 (l : List Int) (hl : l.length ≤ 140737488351232) (n : Int) (d : Nat) : ∀ (k i : Nat), i + d = l.length → d < k →
    slices_Index_int_int.l0 k l n (l.length : Int) (i : Int) = some (idxP (fun x => x == n) i (l.drop i)) := by
  induction d with
  | zero =>
    intro k i h hk
    obtain ⟨k, rfl⟩ : ∃ m, k = m + 1 := ⟨k - 1, by omega⟩
    simp only [slices_Index_int_int.l0]
    rw [if_neg (by omega), List.drop_of_length_le (by omega)]
    rfl
  | succ d ih =>
    intro k i h hk
    obtain ⟨k, rfl⟩ : ∃ m, k = m + 1 := ⟨k - 1, by omega⟩
    simp only [slices_Index_int_int.l0]
    have hw : wrap64 ((i : Int) + 1) = ((i + 1 : Nat) : Int) := by rw [wrap64_id (by omega) (by omega)]; omega
    rw [if_pos (by omega), if_pos (by omega), if_pos (by omega), hw, drop_cons_rd l i (by omega) 0, rd_getD, ih k (i + 1) (by omega) (by omega)]
    generalize l.getD i 0 = y
    by_cases he : n = y
    · rw [if_pos he, idxP, if_pos (by simp [he])]
    · rw [if_neg he, idxP, if_neg (by simp; exact fun e => he e.symm)]; rfl
theorem contains_f (l : List Int) (hl : l.length ≤ 140737488351232) (n : Int) : slices_Contains_int_int.f (l.length + 1) l n = some (l.any (fun x => x == n)) := by
  have h := index_l0 l hl n l.length (l.length + 1) 0 (by omega) (by omega)
  unfold slices_Contains_int_int.f slices_Index_int_int.f
  rw [show (0 : Int) = ((0 : Nat) : Int) from rfl, h]
  simp only [Option.bind_some, List.drop_zero]
  rw [← idxP_any (fun x => x == n) l 0 (Int.le_refl 0)]
  rfl
def needB (papers : List Int) (n : Int) : Bool := !(papers.any (fun x => x == n))
set_option maxHeartbeats 4000000 in
set_option maxRecDepth 100000 in
theorem need_pred (gp : Nat) (A1 : Option Addr) (c1 : Nat) (l1 : List Int) (w : World) (hb : w.heap[gp]? = some (.cells #[.slice A1 l1.length c1] 24 (0, 0))) (hr : Kd.C (Kd.int .i64) w A1 l1.length l1) (hc : l1.length ≤ c1) (hl : l1.length ≤ 140737488351232) :
    PredI 77 #[.pointer (some ⟨gp, 0, none⟩)] (needB l1) w := by
  intro W x hB
  have hcell : W.cell? ⟨gp, 0, none⟩ = some (.slice A1 l1.length c1) := by
    rw [hB.cell (p := ⟨gp, 0, none⟩) (blk_lt hb), blk_cell hb 0]; rfl
  have HC := Aside0.mk (slices_Contains_int_int.calls (l1.length + 1) A1 c1 l1 x _ W (Kd.C_below hr hB) hc (contains_f l1 hl x))
  clear hB hb hr
  show Calls Try.prog 77 #[.int .i64 x, .pointer (some ⟨gp, 0, none⟩)] W fun e w' => e = .returned (.bool (!(l1.any (fun y => y == x)))) ∧ Below W.heap.size W w'
  generalize l1.any (fun y => y == x) = b at *
  go_enter Try.func77, Try.ntmps77
  go_wp2_with (go_at_call 78; refine HC.out.mono ?_; rintro e w' ⟨rfl, ⟨m, rfl⟩⟩)
  go_ret
  exact ⟨rfl, pw_below_drewN (Below.refl _ _) m⟩
def crushE (parts : List S50) (swap : Int) (looks : List S61) (wrong : Int) (needs : List Int) (papers : List Int) : Int :=
  if checkE parts swap looks wrong needs = 0 then (if needs.any (needB papers) then 14 else if (cleanE parts swap looks wrong needs).2 = 0 then (if (cleanE parts swap looks wrong needs).1 = 1 then 0 else 15) else (cleanE parts swap looks wrong needs).2) else checkE parts swap looks wrong needs
def strip_Crush.f (l0_0 : List (S50)) (a0_1 : Int) (l0_2 : List (S61)) (a0_3 : Int) (l0_4 : List Int) (l1 : List Int) : Option (Int) :=
  if carFits l0_0 l0_2 l0_4 ∧ l1.length ≤ 140737488351232 then some (crushE l0_0 a0_1 l0_2 a0_3 l0_4 l1) else none
set_option maxHeartbeats 8000000 in
set_option maxRecDepth 100000 in
theorem strip_Crush.calls (A0_0 : Option Addr) (c0_0 : Nat) (l0_0 : List (S50)) (a0_1 : Int) (A0_2 : Option Addr) (c0_2 : Nat) (l0_2 : List (S61)) (a0_3 : Int) (A0_4 : Option Addr) (c0_4 : Nat) (l0_4 : List Int) (A1 : Option Addr) (c1 : Nat) (l1 : List Int) (r : Int) (w : World) (hr0_0 : Kd.C k50 w A0_0 l0_0.length l0_0) (hc0_0 : l0_0.length ≤ c0_0) (hr0_2 : Kd.C k61 w A0_2 l0_2.length l0_2) (hc0_2 : l0_2.length ≤ c0_2) (hr0_4 : Kd.C (Kd.int .i64) w A0_4 l0_4.length l0_4) (hc0_4 : l0_4.length ≤ c0_4) (hr1 : Kd.C (Kd.int .i64) w A1 l1.length l1) (hc1 : l1.length ≤ c1) (h : strip_Crush.f l0_0 a0_1 l0_2 a0_3 l0_4 l1 = some r) :
    Calls Try.prog 44 #[.agg #[.slice A0_0 l0_0.length c0_0, .int .i64 a0_1, .slice A0_2 l0_2.length c0_2, .int .i64 a0_3, .slice A0_4 l0_4.length c0_4], .slice A1 l1.length c1] w fun e w' => e = .returned (.int .i64 r) ∧ Below w.heap.size w w' := by
  unfold strip_Crush.f at h
  by_cases hf : carFits l0_0 l0_2 l0_4 ∧ l1.length ≤ 140737488351232
  case neg => rw [if_neg hf] at h; cases h
  rw [if_pos hf] at h
  have hE := Option.some.inj h
  clear h
  have HR0 := Aside0.mk hr0_0
  have HR2 := Aside0.mk hr0_2
  have HR4 := Aside0.mk hr0_4
  have HR1 := Aside0.mk hr1
  have HF := Aside0.mk hf.1
  have hl1 := hf.2
  have HEE := Aside0.mk hE
  clear hr0_0 hr0_2 hr0_4 hr1 hf hE
  have hu26 := Try.underlying26
  have hmf : ∀ (fn : Fn) (first cap : Array Value) (w : World), (Instr.makeFunc fn first cap).run Try.prog w = .ok (.func fn first cap) w := fun _ _ _ _ => rfl
  go_enter Try.func44, Try.ntmps44
  go_wp2_with (first | ((with_reducible refine gate_dst (N := 2) rfl ?_); refine box_event ?hg (N := 2) ?hd (cs := #[.slice A0_0 l0_0.length c0_0, .int .i64 a0_1, .slice A0_2 l0_2.length c0_2, .int .i64 a0_3, .slice A0_4 l0_4.length c0_4]) (t := 26) ?hr ?_; (case hd => rfl); (case hg => rfl); (case hr => first | (go_simp; done) | (go_simp; rfl)); intro gb hg w2 hbox hb2; have hz0 := (blk_cell hbox 0).trans rfl; have hz1 := (blk_cell hbox 1).trans rfl; have hz2 := (blk_cell hbox 2).trans rfl; have hz3 := (blk_cell hbox 3).trans rfl; have hz4 := (blk_cell hbox 4).trans rfl; have BK := Aside0.mk hbox; have HB := Aside0.mk hb2; clear hg hbox hb2) | ((with_reducible refine gate_dst (N := 3) rfl ?_); refine box_event ?hg (N := 3) ?hd (cs := #[.slice A1 l1.length c1]) (t := 24) ?hr ?_; (case hd => rfl); (case hg => rfl); (case hr => first | (go_simp; done) | (go_simp; rfl)); intro gp hg w3 hbox hb3; have BP := Aside0.mk hbox; have BK3 := Aside0.mk (blk_below BK.out hb3); have HB3 := Aside0.mk (below_step HB.out hb3); clear hz0 hz1 hz2 hz3 hz4 hg hbox hb3 BK HB; have hz0 := (blk_cell BK3.out 0).trans rfl; have hz1 := (blk_cell BK3.out 1).trans rfl; have hz2 := (blk_cell BK3.out 2).trans rfl; have hz3 := (blk_cell BK3.out 3).trans rfl; have hz4 := (blk_cell BK3.out 4).trans rfl))
  refine (strip_Check.calls A0_0 c0_0 l0_0 a0_1 A0_2 c0_2 l0_2 a0_3 A0_4 c0_4 l0_4 _ w3 (Kd.C_below HR0.out HB3.out) hc0_0 (Kd.C_below HR2.out HB3.out) hc0_2 (Kd.C_below HR4.out HB3.out) hc0_4 (by rw [strip_Check.f, if_pos HF.out])).mono ?_
  rintro e w4 ⟨rfl, hb4⟩
  have HB4 := Aside0.mk (below_step HB3.out hb4)
  have BK4 := Aside0.mk (blk_below BK3.out hb4)
  have BP4 := Aside0.mk (blk_below BP.out hb4)
  clear hz0 hz1 hz2 hz3 hz4 hb4 HB3 BK3 BP
  by_cases h0 : checkE l0_0 a0_1 l0_2 a0_3 l0_4 = 0
  case neg =>
    have h1 := HEE.out.symm.trans (if_neg h0)
    rw [← h1]
    have hnb : (r == 0) = false := beq_eq_false_iff_ne.2 (by rw [h1]; exact h0)
    clear h0 h1 HEE
    go_wp2
    go_ret
    exact ⟨rfl, HB4.out⟩
  have HE2 := Aside0.mk (HEE.out.symm.trans (if_pos h0))
  rw [h0]
  clear h0 HEE
  have hz0 := (blk_cell BK4.out 0).trans rfl
  have hz1 := (blk_cell BK4.out 1).trans rfl
  have hz2 := (blk_cell BK4.out 2).trans rfl
  have hz3 := (blk_cell BK4.out 3).trans rfl
  have hz4 := (blk_cell BK4.out 4).trans rfl
  go_wp2_with (fail)
  refine (containsFuncI _ (needB l1) A0_4 c0_4 l0_4 w4 (Kd.C_below HR4.out HB4.out) HF.out.2.2.1 (need_pred gp A1 c1 l1 w4 BP4.out (Kd.C_below HR1.out HB4.out) hc1 hl1)).mono ?_
  rintro e w5 ⟨rfl, hb5⟩
  have HB5 := Aside0.mk (below_step HB4.out hb5)
  have BK5 := Aside0.mk (blk_below BK4.out hb5)
  clear hz0 hz1 hz2 hz3 hz4 hb5 HB4 BK4 BP4
  generalize hg1 : l0_4.any (needB l1) = b1
  rw [hg1] at HE2
  clear hg1
  cases b1 with
  | true =>
    obtain rfl := HE2.out
    go_wp2
    go_ret
    exact ⟨rfl, HB5.out⟩
  | false =>
    replace HE2 := Aside0.mk (HE2.out.trans (if_neg (by decide)))
    have hz0 := (blk_cell BK5.out 0).trans rfl
    have hz1 := (blk_cell BK5.out 1).trans rfl
    have hz2 := (blk_cell BK5.out 2).trans rfl
    have hz3 := (blk_cell BK5.out 3).trans rfl
    have hz4 := (blk_cell BK5.out 4).trans rfl
    go_wp2_with (fail)
    refine (strip_Clean.calls A0_0 c0_0 l0_0 a0_1 A0_2 c0_2 l0_2 a0_3 A0_4 c0_4 l0_4 _ _ w5 (Kd.C_below HR0.out HB5.out) hc0_0 (Kd.C_below HR2.out HB5.out) hc0_2 (Kd.C_below HR4.out HB5.out) hc0_4 (by rw [strip_Clean.f, if_pos HF.out])).mono ?_
    rintro e w6 ⟨rfl, hb6⟩
    have HB6 := Aside0.mk (below_step HB5.out hb6)
    clear hz0 hz1 hz2 hz3 hz4 hb6 HB5 BK5
    generalize (cleanE l0_0 a0_1 l0_2 a0_3 l0_4).1 = v at *
    generalize (cleanE l0_0 a0_1 l0_2 a0_3 l0_4).2 = er at *
    by_cases her : er = 0
    · subst her
      replace HE2 := Aside0.mk (HE2.out.trans (if_pos rfl))
      by_cases hv : v = 1
      · subst hv
        obtain rfl := HE2.out.trans (if_pos rfl)
        clear HE2
        go_wp2
        go_ret
        exact ⟨rfl, HB6.out⟩
      · have hvb : (v == 1) = false := beq_eq_false_iff_ne.2 hv
        obtain rfl := HE2.out.trans (if_neg hv)
        clear HE2 hv
        go_wp2
        go_ret
        exact ⟨rfl, HB6.out⟩
    · have hvb : (er == 0) = false := beq_eq_false_iff_ne.2 her
      obtain rfl := HE2.out.trans (if_neg her)
      clear HE2 her
      go_wp2
      go_ret
      exact ⟨rfl, HB6.out⟩
def hasAfter (s i : Nat) : Nat → List S50 → Bool
  | _, [] => false
  | k, p :: l => (s.testBit k && p.f0.any (fun x => x == (i : Int))) || hasAfter s i (k + 1) l
def leftGo (parts : List S50) (out : List Int) : Nat → Nat → Nat
  | 0, s => s
  | m + 1, s => leftGo parts out m (if ((parts.getD m z50).f1 || hasAfter s m 0 parts) && !(out.getD m 0 == 1) then s ||| 2 ^ m else s)
def leftM (parts : List S50) (out : List Int) : Nat := leftGo parts out parts.length 0
theorem contains_ev (l : List Int) (hl : l.length ≤ 140737488351232) (n : Int) : Ev (fun k => slices_Contains_int_int.f k l n) (l.any (fun x => x == n)) :=
  Ev.of (fun k => slices_Contains_int_int.mono _ _ k) (contains_f l hl n)
section
variable (parts : List S50) (out : List Int) (a1 : Int) (l2 : List S61) (a3 : Int) (l4 : List Int)
theorem left_l1 (h9 : parts.length ≤ 9) (hb : ∀ p, p ∈ parts → p.f0.length ≤ 140737488351232) (s i : Nat) (hs : s < 65536) (r : Int) (T : Nat → Bool → Option Int)
    (hT : ∀ k x7, strip_left.l1 (k + 1) out (s : Int) (i : Int) x7 parts (parts.length : Int) (parts.length : Int) parts a1 l2 a3 l4 = T k x7) (d : Nat) :
    ∀ (k : Nat) (x7 : Bool), k + d = parts.length → Ev (fun K => T K (x7 || hasAfter s i k (parts.drop k))) r → Ev (fun K => strip_left.l1 K out (s : Int) (i : Int) x7 parts (parts.length : Int) (k : Int) parts a1 l2 a3 l4) r := by
  induction d with
  | zero =>
    intro k x7 hk h
    obtain rfl : k = parts.length := by omega
    rw [List.drop_length] at h
    refine Ev.step (fun K => hT K x7) ?_
    simpa [hasAfter] using h
  | succ d ih =>
    intro k x7 hk h
    have hlt : k < parts.length := by omega
    have hw : wrap64 ((k : Int) + 1) = ((k + 1 : Nat) : Int) := by rw [wrap64_id (by omega) (by omega)]; omega
    have hrd : rd_T50 parts (k : Int) = parts.getD k z50 := by simp [rd_T50]
    have hpm : (parts.getD k z50) ∈ parts := by rw [List.getD, List.getElem?_eq_getElem hlt]; exact List.getElem_mem hlt
    rw [drop_cons_rd parts k hlt z50] at h
    have hh : ∀ b, hasAfter s i k (b :: parts.drop (k + 1)) = ((s.testBit k && b.f0.any (fun x => x == (i : Int))) || hasAfter s i (k + 1) (parts.drop (k + 1))) := fun _ => rfl
    rw [hh, ← Bool.or_assoc] at h
    have ihk := ih (k + 1) _ (by omega) h
    refine Ev.step (f := fun K => if x7 = true then strip_left.l1 K out (s : Int) (i : Int) true parts (parts.length : Int) ((k + 1 : Nat) : Int) parts a1 l2 a3 l4 else (some (s.testBit k)).bind fun t114 => if t114 = true then (slices_Contains_int_int.f K (parts.getD k z50).f0 (i : Int)).bind fun t115 => strip_left.l1 K out (s : Int) (i : Int) t115 parts (parts.length : Int) ((k + 1 : Nat) : Int) parts a1 l2 a3 l4 else strip_left.l1 K out (s : Int) (i : Int) false parts (parts.length : Int) ((k + 1 : Nat) : Int) parts a1 l2 a3 l4) (fun K => ?_) ?_
    · simp only [strip_left.l1]
      rw [if_pos (by omega), if_pos (by omega), if_pos (by omega), hw, hrd, has_f s k hs (by omega)]
    · cases x7 with
      | true => simpa using ihk
      | false =>
        simp only [Bool.false_or] at ihk
        cases hsb : s.testBit k with
        | true =>
          rw [hsb, Bool.true_and] at ihk
          simp only [Bool.false_eq_true, if_false, Option.bind_some, if_true]
          exact Ev.bind (contains_ev _ (hb _ hpm) i) ihk
        | false =>
          rw [hsb, Bool.false_and] at ihk
          simpa using ihk
theorem left_l0 (h9 : parts.length ≤ 9) (hb : ∀ p, p ∈ parts → p.f0.length ≤ 140737488351232) (ho : out.length = parts.length) (m : Nat) : ∀ s : Nat, m ≤ parts.length → s < 65536 →
    Ev (fun K => strip_left.l0 K out (s : Int) ((m : Int) - 1) parts a1 l2 a3 l4) ((leftGo parts out m s : Nat) : Int) := by
  induction m with
  | zero =>
    intro s _ _
    refine Ev.step (f := fun _ => some (s : Int)) (fun K => ?_) (Ev.now _)
    simp only [strip_left.l0]
    rw [if_neg (by omega)]
  | succ m ih =>
    intro s hm hs
    have hrd : rd_T50 parts (m : Int) = parts.getD m z50 := by simp [rd_T50]
    have hm1 : ((m + 1 : Nat) : Int) - 1 = (m : Int) := by omega
    have hw : wrap64 ((m : Int) - 1) = (m : Int) - 1 := wrap64_id (by omega) (by omega)
    have hp : 2 ^ m < 65536 := Nat.pow_lt_pow_right (n := 16) (by decide) (by omega)
    have hs1 := shl_one (m : Int) (by omega) (by omega)
    rw [Int.toNat_natCast] at hs1
    rw [hm1]
    refine Ev.step (f := fun K => strip_left.l1 K out (s : Int) (m : Int) (parts.getD m z50).f1 parts (parts.length : Int) ((0 : Nat) : Int) parts a1 l2 a3 l4) (fun K => ?_) ?_
    · simp only [strip_left.l0]
      rw [if_pos (by omega), if_pos (by omega), if_pos (by omega), hrd]
      rfl
    · refine left_l1 parts out a1 l2 a3 l4 h9 hb s m hs _ (fun K b => if b = true then (if rd out (m : Int) = 1 then strip_left.l0 K out (s : Int) ((m : Int) - 1) parts a1 l2 a3 l4 else strip_left.l0 K out ((s ||| 2 ^ m : Nat) : Int) ((m : Int) - 1) parts a1 l2 a3 l4) else strip_left.l0 K out (s : Int) ((m : Int) - 1) parts a1 l2 a3 l4) (fun K x7 => ?_) parts.length 0 _ (by omega) ?_
      · simp only [strip_left.l1]
        rw [if_neg (by omega), hw, hs1, u16_or s _ hs hp]
        by_cases hx : x7 = true
        · rw [if_pos hx, if_pos hx, if_pos (by omega), if_pos (by omega)]
        · rw [if_neg hx, if_neg hx]
      · rw [List.drop_zero]
        show Ev _ ((leftGo parts out m (if ((parts.getD m z50).f1 || hasAfter s m 0 parts) && !(out.getD m 0 == 1) then s ||| 2 ^ m else s) : Nat) : Int)
        rw [rd_getD]
        cases hc : ((parts.getD m z50).f1 || hasAfter s m 0 parts) with
        | false =>
          simp only [Bool.false_eq_true, if_false, Bool.false_and]
          exact ih s (by omega) hs
        | true =>
          simp only [if_true, Bool.true_and]
          by_cases ho1 : out.getD m 0 = 1
          · simp only [ho1, if_true, beq_self_eq_true, Bool.not_true, Bool.false_eq_true, if_false]
            exact ih s (by omega) hs
          · have : (out.getD m 0 == 1) = false := beq_eq_false_iff_ne.2 ho1
            simp only [ho1, if_false, this, Bool.not_false, if_true]
            exact ih _ (by omega) (Nat.or_lt_two_pow (n := 16) hs hp)
theorem left_ev (h9 : parts.length ≤ 9) (hb : ∀ p, p ∈ parts → p.f0.length ≤ 140737488351232) (ho : out.length = parts.length) : ∃ K, strip_left.f K parts a1 l2 a3 l4 out = some ((leftM parts out : Nat) : Int) := by
  have h := left_l0 parts out a1 l2 a3 l4 h9 hb ho parts.length 0 (Nat.le_refl _) (by decide)
  obtain ⟨K, hK⟩ := h.rounds
  refine ⟨K, ?_⟩
  unfold strip_left.f
  rw [wrap64_id (by omega) (by omega)]
  exact hK
end
def nextB (parts : List S50) (swap : Int) (all d : Nat) (l : Int) (i : Nat) : Bool :=
  decide (stepV parts swap all d l i < 1073741824) && (stepV parts swap all d l i + restG parts swap all (d ||| 2 ^ i) i == restG parts swap all d l)
def orderGo (parts : List S50) (swap : Int) (all : Nat) : Nat → Nat → Int → List Nat
  | 0, _, _ => []
  | f + 1, d, l => if d = all then [] else match (List.range parts.length).find? (nextB parts swap all d l) with | some i => i :: orderGo parts swap all f (d ||| 2 ^ i) i | none => []
def Rising (parts : List S50) : Prop := ∀ i, i < parts.length → ∀ x, x ∈ (parts.getD i z50).f0 → 0 ≤ x ∧ x < i
theorem subM_iff (o s : Nat) : subM o s = true ↔ ∀ i, o.testBit i = true → s.testBit i = true := by
  simp only [subM, beq_iff_eq]
  constructor
  · intro h i hi
    have := congrArg (fun n => Nat.testBit n i) h
    simp only [Nat.testBit_and, hi, Bool.true_and] at this
    exact this
  · intro h
    apply Nat.eq_of_testBit_eq
    intro i
    rw [Nat.testBit_and]
    cases ho : o.testBit i with
    | false => simp
    | true => simp [h i ho]
theorem sub_step {n all d i : Nat} (hs : subM d all = true) (hi : all.testBit i = true) : subM (d ||| 2 ^ i) all = true := by
  rw [subM_iff] at hs ⊢
  intro j hj
  rw [Nat.testBit_or, Nat.testBit_two_pow] at hj
  rcases Bool.or_eq_true _ _ ▸ hj with h | h
  · exact hs j h
  · rw [← of_decide_eq_true h]; exact hi
theorem sub_lacks {n all d : Nat} (hs : subM d all = true) (hall : all < 2 ^ n) (hne : d ≠ all) : ∃ i, i < n ∧ all.testBit i = true ∧ d.testBit i = false := by
  refine Classical.byContradiction fun h => hne ?_
  apply Nat.eq_of_testBit_eq
  intro i
  rw [subM_iff] at hs
  cases ha : all.testBit i with
  | false =>
    cases hd : d.testBit i with
    | false => rfl
    | true => rw [hs i hd] at ha; cases ha
  | true =>
    cases hd : d.testBit i with
    | true => rfl
    | false =>
      refine absurd ⟨i, ?_, ha, hd⟩ h
      refine Classical.byContradiction fun hn => ?_
      rw [Nat.testBit_lt_two_pow (Nat.lt_of_lt_of_le hall (Nat.pow_le_pow_right (by decide) (by omega)))] at ha
      cases ha
theorem can_next {parts : List S50} {swap : Int} (hw : WorkOK parts swap) (hr : Rising parts) {all d : Nat} (l : Int) (hs : subM d all = true) (hall : all < 2 ^ parts.length) (hne : d ≠ all) : ∃ i, i < parts.length ∧ stepV parts swap all d l i ≤ 2000 := by
  have key : ∀ m, (∃ i, i ≤ m ∧ i < parts.length ∧ all.testBit i = true ∧ d.testBit i = false) → ∃ i, i < parts.length ∧ all.testBit i = true ∧ d.testBit i = false ∧ ∀ j, j < i → all.testBit j = true → d.testBit j = true := by
    intro m
    induction m with
    | zero =>
      rintro ⟨i, hi, h1, h2, h3⟩
      obtain rfl : i = 0 := by omega
      exact ⟨0, h1, h2, h3, fun j hj => by omega⟩
    | succ m ih =>
      rintro ⟨i, hi, h1, h2, h3⟩
      by_cases h : ∃ i, i ≤ m ∧ i < parts.length ∧ all.testBit i = true ∧ d.testBit i = false
      · exact ih h
      · refine ⟨i, h1, h2, h3, fun j hj ha => ?_⟩
        cases hd : d.testBit j with
        | true => rfl
        | false => exact absurd ⟨j, by omega, by omega, ha, hd⟩ h
  obtain ⟨i0, h1, h2, h3⟩ := sub_lacks hs hall hne
  obtain ⟨i, hi, ha, hd, hlow⟩ := key i0 ⟨i0, Nat.le_refl _, h1, h2, h3⟩
  refine ⟨i, hi, ?_⟩
  have hsub : subM (maskOf (parts.getD i z50).f0 &&& all) d = true := by
    rw [subM_iff]
    intro j hj
    rw [Nat.testBit_and, Bool.and_eq_true] at hj
    have hm := (maskOf_bit (parts.getD i z50).f0 (fun x hx => (hr i hi x hx).1) j).1 hj.1
    exact hlow j (by have := (hr i hi _ hm).2; omega) hj.2
  have hm := hw.mi i hi
  have hsw := hw.sw
  unfold stepV
  rw [ha, hd, hsub]
  simp only [Bool.not_false, Bool.and_self, if_true]
  split <;> omega
theorem bestGo_le (f : Nat → Int → Int) (step : Nat → Int) (d : Nat) (i : Nat) (hs : step i < 1073741824) : ∀ (l : List Nat) (b : Int), i ∈ l → bestGo f step d b l ≤ step i + f (d ||| 2 ^ i) i := by
  have mono : ∀ (l : List Nat) (b : Int), bestGo f step d b l ≤ b := by
    intro l
    induction l with
    | nil => intro b; exact Int.le_refl _
    | cons a l ih =>
      intro b
      refine Int.le_trans (ih _) ?_
      split <;> omega
  intro l
  induction l with
  | nil => intro b h; cases h
  | cons a l ih =>
    intro b h
    rcases List.mem_cons.1 h with rfl | h
    · refine Int.le_trans (mono l _) ?_
      rw [if_pos hs]; omega
    · exact ih _ h
theorem bestGo_hit (f : Nat → Int → Int) (step : Nat → Int) (d : Nat) : ∀ (l : List Nat) (b : Int), bestGo f step d b l < b → ∃ i, i ∈ l ∧ step i < 1073741824 ∧ bestGo f step d b l = step i + f (d ||| 2 ^ i) i := by
  intro l
  induction l with
  | nil => intro b h; exact absurd h (Int.lt_irrefl _)
  | cons a l ih =>
    intro b h
    have e : bestGo f step d b (a :: l) = bestGo f step d (if step a < 1073741824 then min b (step a + f (d ||| 2 ^ a) a) else b) l := rfl
    rw [e] at h ⊢
    by_cases h2 : bestGo f step d (if step a < 1073741824 then min b (step a + f (d ||| 2 ^ a) a) else b) l < (if step a < 1073741824 then min b (step a + f (d ||| 2 ^ a) a) else b)
    · obtain ⟨i, hi, r⟩ := ih _ h2
      exact ⟨i, List.mem_cons_of_mem _ hi, r⟩
    · have mono : ∀ (l : List Nat) (b : Int), bestGo f step d b l ≤ b := by
        intro l
        induction l with
        | nil => intro b; exact Int.le_refl _
        | cons a l ih =>
          intro b
          refine Int.le_trans (ih _) ?_
          split <;> omega
      have h3 := mono l (if step a < 1073741824 then min b (step a + f (d ||| 2 ^ a) a) else b)
      by_cases hs : step a < 1073741824
      · rw [if_pos hs] at h h2 h3 ⊢
        exact ⟨a, List.mem_cons_self, hs, by omega⟩
      · rw [if_neg hs] at h h2 h3 ⊢
        omega
theorem restG_le {parts : List S50} {swap : Int} (hw : WorkOK parts swap) (hr : Rising parts) {all : Nat} (hall : all < 2 ^ parts.length) : ∀ (m d : Nat) (l : Int), remM parts.length all d = m → subM d all = true → restG parts swap all d l ≤ 2000 * m := by
  intro m
  induction m with
  | zero =>
    intro d l hm hs
    by_cases hd : d = all
    · rw [restG_eq, if_pos hd]; omega
    · obtain ⟨i, h1, h2, h3⟩ := sub_lacks hs hall hd
      have := remM_step h1 h2 h3
      omega
  | succ m ih =>
    intro d l hm hs
    by_cases hd : d = all
    · rw [restG_eq, if_pos hd]; omega
    · obtain ⟨i, hi, hst⟩ := can_next hw hr l hs hall hd
      have hs2 : stepV parts swap all d l i < 1073741824 := by omega
      obtain ⟨c1, c2, _⟩ := step_can hs2
      have hrm := remM_step hi c1 c2
      have h1 := ih (d ||| 2 ^ i) i (by omega) (sub_step (n := parts.length) hs c1)
      rw [restG_eq, if_neg hd]
      have := bestGo_le (restG parts swap all) (stepV parts swap all d l) d i hs2 (List.range parts.length) 1073741824 (List.mem_range.2 hi)
      omega
theorem remM_le (n all d : Nat) : remM n all d ≤ n := by
  unfold remM
  have := List.length_filter_le (fun i => all.testBit i && !d.testBit i) (List.range n)
  rw [List.length_range] at this
  exact this
theorem next_some {parts : List S50} {swap : Int} (h9 : parts.length ≤ 9) (hw : WorkOK parts swap) (hr : Rising parts) {all d : Nat} (l : Int) (hs : subM d all = true) (hall : all < 2 ^ parts.length) (hne : d ≠ all) :
    ∃ i, i < parts.length ∧ nextB parts swap all d l i = true := by
  have h1 := restG_le hw hr hall _ d l rfl hs
  have h2 := remM_le parts.length all d
  have h3 := restG_eq parts swap all d l
  rw [if_neg hne] at h3
  have h4 : bestGo (restG parts swap all) (stepV parts swap all d l) d 1073741824 (List.range parts.length) < 1073741824 := by rw [← h3]; omega
  obtain ⟨i, hi, hsi, he⟩ := bestGo_hit _ _ _ _ _ h4
  refine ⟨i, List.mem_range.1 hi, ?_⟩
  unfold nextB
  rw [Bool.and_eq_true]
  exact ⟨decide_eq_true hsi, beq_iff_eq.2 (by rw [h3, he])⟩
theorem find_first {p : Nat → Bool} {n k : Nat} (hk : k < n) (hp : p k = true) (hlow : ∀ i, i < k → p i = false) : (List.range n).find? p = some k := by
  have : ∀ m, m ≤ n → (List.range' m (n - m)).find? p = some k ∨ k < m := by
    intro m
    induction hd : n - m generalizing m with
    | zero => intro h; right; omega
    | succ t ih =>
      intro h
      rw [List.range'_succ, List.find?_cons]
      by_cases e : m = k
      · subst e; rw [hp]; exact .inl rfl
      · by_cases hlt : m < k
        · rw [hlow m hlt]
          rcases ih (m + 1) (by omega) (by omega) with h | h
          · exact .inl h
          · omega
        · right; omega
  rcases this 0 (Nat.zero_le _) with h | h
  · rw [List.range_eq_range']; exact h
  · omega
theorem orderGo_next {parts : List S50} {swap : Int} {all d : Nat} {l : Int} {k f : Nat} (hne : d ≠ all) (hk : k < parts.length) (hp : nextB parts swap all d l k = true) (hlow : ∀ i, i < k → nextB parts swap all d l i = false) :
    orderGo parts swap all (f + 1) d l = k :: orderGo parts swap all f (d ||| 2 ^ k) k := by
  rw [orderGo, if_neg hne, find_first hk hp hlow]
theorem orderGo_done {parts : List S50} {swap : Int} {all : Nat} {l : Int} (f : Nat) : orderGo parts swap all f all l = [] := by
  cases f with
  | zero => rfl
  | succ f => rw [orderGo, if_pos rfl]
end Go.Proofs.Ytkkmfcdikkiodaa.PC4
namespace Go.Proofs.Ytkkmfcdikkiodaa.PC4
set_option linter.unusedVariables false
open Go.RowKit Go.Maps Go.Proofs.YtkkmfcdikkiodaaW.PrintWords Go.Proofs.YtkkmfcdikkiodaaW.PrintLast Go.Proofs.YtkkmfcdikkiodaaW.PrintMore
theorem laidOut_ : laidOutB Try.prog = true := by kernel_rfl
theorem row86 : (86 : TypeId) < Try.prog.types.size := of_decide_eq_true (by kernel_rfl)
theorem wide86 : (match Try.prog.underlying 86 with | some (.array _ _) | some (.struct _) => true | _ => false) = true := by rw [Try.underlying86]
set_option maxRecDepth 100000 in
theorem keyed86 : Keyed Try.prog 86 := Keyed.of_law (deep_law_laid laidOut_ (m := 2) (by omega) row86 (by kernel_rfl) wide86)
theorem zero3 (w : World) : (zeroValue 3).run Try.prog w = .ok (.int .i64 0) w := by kernel_rfl
def atV (d : Nat) (l : Int) : Value := .agg #[.int .u16 (d : Int), .int .i64 l]
def keyL (d : Nat) (l : Int) : Lit := .string (keyBytes [.int .u16 (d : Int), .int .i64 l])
theorem size_types : ∃ m, Try.prog.types.size + 1 = m + 2 := ⟨Try.prog.types.size - 1, by have h : 86 < Try.prog.types.size := row86; omega⟩
theorem keyLits_agg (m : Nat) (d l : Int) (hd : (Lit.int .u16 d).wf = true) (hl : (Lit.int .i64 l).wf = true) : Try.prog.keyLits (m + 2) 86 [.int .u16 d, .int .i64 l] = some [.int .u16 d, .int .i64 l] := by
  have h82 : Try.prog.underlying 82 = some (.int .u16) := Try.underlying82
  have h3 : Try.prog.underlying 3 = some (.int .i64) := Try.underlying3
  have hc : Try.prog.cellsOf 86 = 2 := by kernel_rfl
  have hc82 : Try.prog.cellsOf 82 = 1 := by kernel_rfl
  have hc3 : Try.prog.cellsOf 3 = 1 := by kernel_rfl
  simp [Program.keyLits, Try.underlying86, h82, h3, hc, hc82, hc3, hd, hl]
theorem keyOf_at {d : Nat} {l : Int} (hd : d < 65536) (h1 : -9223372036854775808 ≤ l) (h2 : l ≤ 9223372036854775807) : keyOf Try.prog 86 (atV d l) = some (keyL d l) := by
  have hk : Try.prog.keyType 86 = true := by kernel_rfl
  have hc : Try.prog.cellsOf 86 = 2 := by kernel_rfl
  obtain ⟨m, hm⟩ := size_types
  have hdw : (Lit.int .u16 (d : Int)).wf = true := by simp [Lit.wf, IntKind.min, IntKind.max, IntKind.bits, IntKind.signed]; omega
  have hlw : (Lit.int .i64 l).wf = true := WalkArith.wf_i64 ⟨h1, h2⟩
  unfold keyOf
  rw [Try.underlying86]
  have hf : (atV d l).formed Try.prog 86 = true := by simp [Value.formed, atV, Try.underlying86, hc]
  rw [hm]
  show (if (Try.prog.keyType 86 && (atV d l).formed Try.prog 86) = true then Option.map (fun ls => Lit.string (keyBytes ls)) (Try.prog.keyLits (m + 2) 86 [.int .u16 (d : Int), .int .i64 l]) else none) = _
  rw [hk, hf, keyLits_agg m d l hdw hlw]
  rfl
theorem keyL_inj {d d' : Nat} {l l' : Int} (hd : d < 65536) (h1 : -9223372036854775808 ≤ l) (h2 : l ≤ 9223372036854775807) (hd' : d' < 65536) (h1' : -9223372036854775808 ≤ l') (h2' : l' ≤ 9223372036854775807) (h : keyL d l = keyL d' l') : d = d' ∧ l = l' := by
  have := keyed86.inj (keyOf_at hd h1 h2) (h ▸ keyOf_at hd' h1' h2')
  simp [atV] at this
  omega
end Go.Proofs.Ytkkmfcdikkiodaa.PC4
namespace Go.Proofs.Ytkkmfcdikkiodaa.PC4
set_option linter.unusedVariables false
open Go.RowKit Go.Proofs.YtkkmfcdikkiodaaW.PrintWords Go.Proofs.YtkkmfcdikkiodaaW.PrintLast Go.Proofs.YtkkmfcdikkiodaaW.PrintMore
set_option maxHeartbeats 16000000 in
set_option maxRecDepth 100000 in
theorem step_calls (b1 b6 : Nat) (A0 : Option Addr) (c0 : Nat) (parts : List S50) (swap : Int) (A2 : Option Addr) (c2 : Nat) (looks : List S61) (wrong : Int) (A4 : Option Addr) (c4 : Nat) (needs : List Int) (all d : Nat) (l : Int) (i : Nat) (W : World)
    (hok : CarOK parts looks) (hwk : WorkOK parts swap) (hall : all < 65536) (hd : d < 65536) (hl1 : -1 ≤ l) (hl2 : l < parts.length) (hi : i < parts.length)
    (hp : Kd.C k50 W A0 parts.length parts) (h1 : W.heap[b1]? = some (.cells #[.slice A0 parts.length c0, .int .i64 swap, .slice A2 looks.length c2, .int .i64 wrong, .slice A4 needs.length c4] 26 (0, 0))) (h6 : W.heap[b6]? = some (.cells #[.int .u16 (all : Int)] 82 (0, 0))) :
    Calls Try.prog 58 #[.agg #[.int .u16 (d : Int), .int .i64 l], .int .i64 (i : Int), .pointer (some ⟨b1, 0, none⟩), .pointer (some ⟨b6, 0, none⟩)] W fun e w' => e = .returned (.int .i64 (stepV parts swap all d l i)) ∧ Below W.heap.size W w' := by
  have hu86 := Try.underlying86
  have hu50 := Try.underlying50
  have HP := Aside0.mk hp
  have B1 := Aside0.mk h1
  have B6 := Aside0.mk h6
  have h9 := hok.few
  have HQ := Aside0.mk (hok.bef (parts.getD i z50) (by rw [List.getD, List.getElem?_eq_getElem hi]; exact List.getElem_mem hi))
  have hmi := hwk.mi i hi
  have hsw := hwk.sw
  have hiz : (i : Int) < (parts.length : Int) := by omega
  obtain ⟨ad, A1, c1, e, hx0, hx1, hx2, hx3, hL1, hI1⟩ := at_T50 hp (i : Int) (by omega) hiz
  cases e
  rw [Int.toNat_natCast] at hx0 hx1 hx2 hx3
  have HY : Aside0 (parts.getD i z50 = rd_T50 parts i) := ⟨by simp [rd_T50]⟩
  clear hp h1 h6 hok hwk
  rw [HY.out] at HQ hmi
  have HSV : Aside0 (stepV parts swap all d l i = if all.testBit i && !d.testBit i && subM (maskOf (rd_T50 parts i).f0 &&& all) d then (if 0 ≤ l ∧ (parts.getD l.toNat z50).f2 ≠ (rd_T50 parts i).f2 then (rd_T50 parts i).f3 + swap else (rd_T50 parts i).f3) else 1073741824) := ⟨by rw [← HY.out]; rfl⟩
  clear HY
  generalize rd_T50 parts i = y at *
  have HI1 := Aside0.mk hI1
  have HL1 := Aside0.mk hL1
  clear hI1 hL1
  go_enter Try.func58, Try.ntmps58
  go_upto_region 2 with ((with_reducible refine gate_dst (N := 4) rfl ?_); refine box_event ?hg (N := 4) ?hd (cs := #[.int .u16 (d : Int), .int .i64 l]) (t := 86) ?hr ?_; (case hd => rfl); (case hg => rfl); (case hr => first | (go_simp; done) | (go_simp; rfl)); intro ba hg w2 hbox hb2; have BA := Aside0.mk hbox; have B1' := Aside0.mk (blk_below B1.out hb2); have B6' := Aside0.mk (blk_below B6.out hb2); have HB := Aside0.mk hb2; replace hx0 := (hb2.cell (World.block_lt_of_cell? W _ hx0)).trans hx0; replace hx1 := (hb2.cell (World.block_lt_of_cell? W _ hx1)).trans hx1; replace hx2 := (hb2.cell (World.block_lt_of_cell? W _ hx2)).trans hx2; replace hx3 := (hb2.cell (World.block_lt_of_cell? W _ hx3)).trans hx3; clear hg hbox hb2 B1 B6; have hz0 := (blk_cell B1'.out 0).trans rfl)
  obtain ⟨bp, hbp⟩ : ∃ b, b = w2.heap.size := ⟨_, rfl⟩
  have BP := Aside0.mk (blk_new w2 (.cells #[.slice A1 y.f0.length c1, .bool y.f1, .int .i64 y.f2, .int .i64 y.f3] 50 (0, 0)))
  have hbw : Below w2.heap.size w2 (w2.alloc (.cells #[.slice A1 y.f0.length c1, .bool y.f1, .int .i64 y.f2, .int .i64 y.f3] 50 (0, 0))) := below_alloc (Below.refl _ _) _
  generalize hw3 : w2.alloc (.cells #[.slice A1 y.f0.length c1, .bool y.f1, .int .i64 y.f2, .int .i64 y.f3] 50 (0, 0)) = w3 at *
  rw [← hbp] at BP ⊢
  have BA3 := Aside0.mk (blk_below BA.out hbw)
  have B13 := Aside0.mk (blk_below B1'.out hbw)
  have B63 := Aside0.mk (blk_below B6'.out hbw)
  have HB3 := Aside0.mk (below_step HB.out hbw)
  clear hbw hw3 hbp BA B1' B6' HB hz0 hx0 hx1 hx2 hx3
  have hz0 := (blk_cell B13.out 0).trans rfl
  have hz1 := (blk_cell B13.out 1).trans rfl
  have ha0 := (blk_cell BA3.out 0).trans rfl
  have ha1 := (blk_cell BA3.out 1).trans rfl
  have hal := (blk_cell B63.out 0).trans rfl
  have hp0 := (blk_cell BP.out 0).trans rfl
  have hp2 := (blk_cell BP.out 2).trans rfl
  have hp3 := (blk_cell BP.out 3).trans rfl
  have hmk := maskOf_lt y.f0 HQ.out.2
  have HH1 := Aside0.mk (fun W => (strip_set_has.calls all i (all.testBit i) W (has_f all i hall (by omega))).mono (fun e w' h => (⟨h.1, h.2.out⟩ : _ ∧ ∃ m, w' = W.drewN m)))
  have HH2 := Aside0.mk (fun W => (strip_set_has.calls d i (d.testBit i) W (has_f d i hd (by omega))).mono (fun e w' h => (⟨h.1, h.2.out⟩ : _ ∧ ∃ m, w' = W.drewN m)))
  have HS := Aside0.mk (fun n => (strip_setOf.calls (y.f0.length + 1) A1 c1 y.f0 _ (w3.drewN n) (Kd.C_below HI1.out (pw_below_drewN HB3.out n)) HL1.out (setOf_f y.f0 HQ.out.1 HQ.out.2)).mono (fun e w' h => (⟨h.1, h.2.out⟩ : _ ∧ ∃ m, w' = (w3.drewN n).drewN m)))
  have hand : Go.bits .and .u16 ((maskOf y.f0 : Nat) : Int) (all : Int) = ((maskOf y.f0 &&& all : Nat) : Int) := u16_and _ _ hmk hall
  have HA := Aside0.mk (fun W => (strip_set_all.calls d (Go.bits .and .u16 ((maskOf y.f0 : Nat) : Int) (all : Int)) (subM (maskOf y.f0 &&& all) d) W (by rw [hand]; exact all_f d _ hd (Nat.and_lt_two_pow (n := 16) _ hall))).mono (fun e w' h => (⟨h.1, h.2.out⟩ : _ ∧ ∃ m, w' = W.drewN m)))
  clear hand hmk
  generalize all.testBit i = b1 at *
  generalize d.testBit i = b2 at *
  generalize subM (maskOf y.f0 &&& all) d = b3 at *
  generalize ((maskOf y.f0 : Nat) : Int) = mk at *
  cases b1 with
  | false =>
    go_quiet ((first | (go_at_call 59; first | (with_reducible exact Calls.quiet_of (HH1.out _)) | (with_reducible exact Calls.quiet_of (HH2.out _))) | (go_at_call 61; with_reducible exact Calls.quiet_of (HS.out _)) | (go_at_call 60; with_reducible exact Calls.quiet_of (HA.out _))))
    go_wp2
    go_ret
    exact ⟨by rw [HSV.out]; rfl, by repeat (first | exact HB3.out | apply pw_below_drewN | apply below_drew1)⟩
  | true =>
  cases b2 with
  | true =>
    go_quiet ((first | (go_at_call 59; first | (with_reducible exact Calls.quiet_of (HH1.out _)) | (with_reducible exact Calls.quiet_of (HH2.out _))) | (go_at_call 61; with_reducible exact Calls.quiet_of (HS.out _)) | (go_at_call 60; with_reducible exact Calls.quiet_of (HA.out _))))
    go_wp2
    go_ret
    exact ⟨by rw [HSV.out]; rfl, by repeat (first | exact HB3.out | apply pw_below_drewN | apply below_drew1)⟩
  | false =>
  cases b3 with
  | false =>
    go_quiet ((first | (go_at_call 59; first | (with_reducible exact Calls.quiet_of (HH1.out _)) | (with_reducible exact Calls.quiet_of (HH2.out _))) | (go_at_call 61; with_reducible exact Calls.quiet_of (HS.out _)) | (go_at_call 60; with_reducible exact Calls.quiet_of (HA.out _))))
    go_wp2
    go_ret
    exact ⟨by rw [HSV.out]; rfl, by repeat (first | exact HB3.out | apply pw_below_drewN | apply below_drew1)⟩
  | true =>
    go_quiet ((first | (go_at_call 59; first | (with_reducible exact Calls.quiet_of (HH1.out _)) | (with_reducible exact Calls.quiet_of (HH2.out _))) | (go_at_call 61; with_reducible exact Calls.quiet_of (HS.out _)) | (go_at_call 60; with_reducible exact Calls.quiet_of (HA.out _))))
    clear HH1 HH2 HS HA
    have HSV2 : Aside0 (stepV parts swap all d l i = (if 0 ≤ l ∧ (parts.getD l.toNat z50).f2 ≠ y.f2 then y.f3 + swap else y.f3)) := ⟨HSV.out⟩
    clear HSV
    go_wp2
    by_cases hl0 : 0 ≤ l
    · obtain ⟨q, rfl⟩ := Int.eq_ofNat_of_zero_le hl0
      obtain ⟨ad2, A2_, c2_, e2, hq0, hq1, hq2, hq3, _, _⟩ := at_T50 HP.out (q : Int) (by omega) hl2
      obtain rfl : ad = ad2 := by injection e2
      rw [Int.toNat_natCast] at hq2
      replace hq2 := (HB3.out.cell (World.block_lt_of_cell? W _ hq2)).trans hq2
      have HQ2 : Aside0 ((parts.getD ((q : Int)).toNat z50).f2 = (rd_T50 parts q).f2) := ⟨by simp [rd_T50]⟩
      rw [HQ2.out] at HSV2
      clear HQ2 hq0 hq1 hq3 e2
      generalize (rd_T50 parts q).f2 = tq at *
      have hge : ((q : Int) ≥ 0) := hl0
      have hdge : decide ((0 : Int) ≤ (q : Int)) = true := decide_eq_true hl0
      by_cases ht : tq = y.f2
      · have htb : (tq == y.f2) = true := beq_iff_eq.2 ht
        have htn : (tq != y.f2) = false := by simp [bne, htb]
        replace HSV2 := Aside0.mk (HSV2.out.trans (if_neg (fun h => h.2 ht)))
        clear ht
        go_quiet (fail)
        go_wp2
        go_ret
        exact ⟨by rw [HSV2.out]; rfl, by repeat (first | exact HB3.out | apply pw_below_drewN | apply below_drew1)⟩
      · have htb : (tq == y.f2) = false := beq_eq_false_iff_ne.2 ht
        have htn : (tq != y.f2) = true := by simp [bne, htb]
        replace HSV2 := Aside0.mk (HSV2.out.trans (if_pos ⟨hl0, ht⟩))
        clear ht
        go_quiet (fail)
        go_wp2
        go_ret
        exact ⟨by rw [HSV2.out]; rfl, by repeat (first | exact HB3.out | apply pw_below_drewN | apply below_drew1)⟩
    · have hdge : decide ((0 : Int) ≤ l) = false := decide_eq_false hl0
      replace HSV2 := Aside0.mk (HSV2.out.trans (if_neg (fun h => hl0 h.1)))
      go_quiet (fail)
      go_wp2
      go_ret
      exact ⟨by rw [HSV2.out]; rfl, by repeat (first | exact HB3.out | apply pw_below_drewN | apply below_drew1)⟩
end Go.Proofs.Ytkkmfcdikkiodaa.PC4
namespace Go.Proofs.Ytkkmfcdikkiodaa.PC4
set_option linter.unusedVariables false
open Go.RowKit Go.Maps Go.Proofs.YtkkmfcdikkiodaaW.PrintWords Go.Proofs.YtkkmfcdikkiodaaW.PrintLast Go.Proofs.YtkkmfcdikkiodaaW.PrintMore
def GoodD (parts : List S50) (swap : Int) (all : Nat) (D : DataW Unit) : Prop :=
  IsMap D ∧ ∀ (d : Nat) (l : Int), d < 65536 → -1 ≤ l → l < parts.length → has D (keyL d l) = true → ∀ z, D.atKey (keyL d l) z = .lit (.int .i64 (restG parts swap all d l))
structure WorkMem (wB : World) (b1 b6 b7 b8 b9 bm : Nat) (A0 : Option Addr) (c0 : Nat) (parts : List S50) (swap : Int) (A2 : Option Addr) (c2 : Nat) (looks : List S61) (wrong : Int) (A4 : Option Addr) (c4 : Nat) (needs : List Int) (all c : Nat) (W : World) : Prop where
  be : Below wB.heap.size wB W
  f1 : W.heap[b1]? = some (.cells #[.slice A0 parts.length c0, .int .i64 swap, .slice A2 looks.length c2, .int .i64 wrong, .slice A4 needs.length c4] 26 (0, 0))
  f6 : W.heap[b6]? = some (.cells #[.int .u16 (all : Int)] 82 (0, 0))
  f7 : W.heap[b7]? = some (.cells #[.map (some bm)] 84 (0, 0))
  f8 : W.heap[b8]? = some (.cells #[.func (.func 58) #[] #[.pointer (some ⟨b1, 0, none⟩), .pointer (some ⟨b6, 0, none⟩)]] 90 (0, 0))
  f9 : W.heap[b9]? = some (.cells #[.func (.func 62) #[] #[.pointer (some ⟨b6, 0, none⟩), .pointer (some ⟨b7, 0, none⟩), .pointer (some ⟨b1, 0, none⟩), .pointer (some ⟨b8, 0, none⟩), .pointer (some ⟨b9, 0, none⟩)]] 91 (0, 0))
  mp : ∃ D n, W.ownsMap (H := Unit) Try.prog 86 (plainElem Try.prog 3) bm n D ∧ n ≤ c ∧ GoodD parts swap all D
section
variable {wB W W' : World} {b1 b6 b7 b8 b9 bm : Nat} {A0 : Option Addr} {c0 : Nat} {parts : List S50} {swap : Int} {A2 : Option Addr} {c2 : Nat} {looks : List S61} {wrong : Int} {A4 : Option Addr} {c4 : Nat} {needs : List Int} {all c : Nat}
theorem ownsMap_keep {b n : Nat} {D : DataW Unit} (h : W.ownsMap (H := Unit) Try.prog 86 (plainElem Try.prog 3) b n D) (he : W'.heap[b]? = W.heap[b]?) : W'.ownsMap (H := Unit) Try.prog 86 (plainElem Try.prog 3) b n D := by
  obtain ⟨es, clock, hb, r⟩ := h
  exact ⟨es, clock, he.trans hb, r⟩
theorem WorkMem.below (h : WorkMem wB b1 b6 b7 b8 b9 bm A0 c0 parts swap A2 c2 looks wrong A4 c4 needs all c W) (hb : Below W.heap.size W W') : WorkMem wB b1 b6 b7 b8 b9 bm A0 c0 parts swap A2 c2 looks wrong A4 c4 needs all c W' := by
  obtain ⟨D, n, ho, hn, hg⟩ := h.mp
  refine ⟨below_step h.be hb, blk_below h.f1 hb, blk_below h.f6 hb, blk_below h.f7 hb, blk_below h.f8 hb, blk_below h.f9 hb, D, n, ownsMap_keep ho (hb.block bm ?_), hn, hg⟩
  obtain ⟨es, clock, hb', _⟩ := ho
  exact (Array.getElem?_eq_some_iff.1 hb').1
theorem WorkMem.drewN (h : WorkMem wB b1 b6 b7 b8 b9 bm A0 c0 parts swap A2 c2 looks wrong A4 c4 needs all c W) (m : Nat) : WorkMem wB b1 b6 b7 b8 b9 bm A0 c0 parts swap A2 c2 looks wrong A4 c4 needs all c (W.drewN m) := h.below (pw_below_drewN (Below.refl _ _) m)
theorem WorkMem.more {c' : Nat} (h : WorkMem wB b1 b6 b7 b8 b9 bm A0 c0 parts swap A2 c2 looks wrong A4 c4 needs all c W) (hc : c ≤ c') : WorkMem wB b1 b6 b7 b8 b9 bm A0 c0 parts swap A2 c2 looks wrong A4 c4 needs all c' W := by
  obtain ⟨D, n, ho, hn, hg⟩ := h.mp
  exact ⟨h.be, h.f1, h.f6, h.f7, h.f8, h.f9, D, n, ho, Nat.le_trans hn hc, hg⟩
end
def costT : Nat → Nat
  | 0 => 1
  | f + 1 => 1 + 9 * costT f
set_option maxHeartbeats 16000000 in
set_option maxRecDepth 100000 in
theorem rest_calls (wB : World) (b1 b6 b7 b8 b9 bm : Nat) (A0 : Option Addr) (c0 : Nat) (parts : List S50) (swap : Int) (A2 : Option Addr) (c2 : Nat) (looks : List S61) (wrong : Int) (A4 : Option Addr) (c4 : Nat) (needs : List Int) (all : Nat)
    (hok : CarOK parts looks) (hwk : WorkOK parts swap) (hall : all < 65536) (hp : Kd.C k50 wB A0 parts.length parts) (hbm : wB.heap.size ≤ bm) :
    ∀ (f d : Nat) (l : Int) (c : Nat) (W : World), remM parts.length all d ≤ f → d < 65536 → -1 ≤ l → l < parts.length → c + costT f ≤ 1000000000000000 → WorkMem wB b1 b6 b7 b8 b9 bm A0 c0 parts swap A2 c2 looks wrong A4 c4 needs all c W →
    Calls Try.prog 62 #[.agg #[.int .u16 (d : Int), .int .i64 l], .pointer (some ⟨b6, 0, none⟩), .pointer (some ⟨b7, 0, none⟩), .pointer (some ⟨b1, 0, none⟩), .pointer (some ⟨b8, 0, none⟩), .pointer (some ⟨b9, 0, none⟩)] W fun e w' => e = .returned (.int .i64 (restG parts swap all d l)) ∧ WorkMem wB b1 b6 b7 b8 b9 bm A0 c0 parts swap A2 c2 looks wrong A4 c4 needs all (c + costT f) w' ∧ KeepBut W w' bm none := by
  intro f
  induction f using Nat.strongRecOn with
  | _ f ih =>
  intro d l c W hrem hd hl1 hl2 hcap hM
  have HM := Aside0.mk hM
  have HP := Aside0.mk hp
  have HOK := Aside0.mk hok
  have HWK := Aside0.mk hwk
  have IH := Aside0.mk ih
  have h9 := hok.few
  have hu86 := Try.underlying86
  have HG := Aside0.mk (restG_eq parts swap all d l)
  clear hM hp hok hwk ih
  by_cases hda : d = all
  · have hdb : (((d : Nat) : Int) == ((all : Nat) : Int)) = true := by rw [hda]; exact beq_self_eq_true _
    have HG0 : Aside0 (restG parts swap all d l = 0) := ⟨HG.out.trans (if_pos hda)⟩
    clear hda
    go_enter Try.func62, Try.ntmps62
    go_wp2_with ((with_reducible refine gate_dst (N := 6) rfl ?_); refine box_event ?hg (N := 6) ?hd (cs := #[.int .u16 (d : Int), .int .i64 l]) (t := 86) ?hr ?_; (case hd => rfl); (case hg => rfl); (case hr => first | (go_simp; done) | (go_simp; rfl)); intro ba hg w2 hbox hb2; have BA := Aside0.mk hbox; have HM2 := Aside0.mk (HM.out.below hb2); have HK2 := Aside0.mk (KeepBut.of_below hb2 bm none); clear hg hbox hb2 HM; have ha0 := (blk_cell BA.out 0).trans rfl; have ha1 := (blk_cell BA.out 1).trans rfl; have h6 := (blk_cell HM2.out.f6 0).trans rfl; have h7 := (blk_cell HM2.out.f7 0).trans rfl)
    go_ret
    exact ⟨by rw [HG0.out]; rfl, HM2.out.more (Nat.le_add_right _ _), HK2.out⟩
  have hdb : (((d : Nat) : Int) == ((all : Nat) : Int)) = false := beq_eq_false_iff_ne.2 (by omega)
  have HG1 : Aside0 (restG parts swap all d l = bestGo (restG parts swap all) (stepV parts swap all d l) d 1073741824 (List.range parts.length)) := ⟨HG.out.trans (if_neg hda)⟩
  clear hda HG
  obtain ⟨D, n, ho, hn, hgood⟩ := HM.out.mp
  have hkey := keyOf_at hd (show -9223372036854775808 ≤ l by omega) (show l ≤ 9223372036854775807 by omega)
  have HKEY := Aside0.mk hkey
  have HO := Aside0.mk ho
  have HGD := Aside0.mk hgood
  have HBL : Aside0 (bm < W.heap.size) := ⟨by obtain ⟨es, clock, hb', _⟩ := ho; exact (Array.getElem?_eq_some_iff.1 hb').1⟩
  clear hkey ho hgood
  cases hhas : has D (keyL d l) with
  | true =>
    have HCV := Aside0.mk (HGD.out.2 d l hd hl1 hl2 hhas (.lit (.int .i64 0)))
    go_enter Try.func62, Try.ntmps62
    go_wp2_with (first | ((with_reducible refine gate_dst (N := 6) rfl ?_); refine box_event ?hg (N := 6) ?hd (cs := #[.int .u16 (d : Int), .int .i64 l]) (t := 86) ?hr ?_; (case hd => rfl); (case hg => rfl); (case hr => first | (go_simp; done) | (go_simp; rfl)); intro ba hg w2 hbox hb2; have BA := Aside0.mk hbox; have HM2 := Aside0.mk (HM.out.below hb2); have HK2 := Aside0.mk (KeepBut.of_below hb2 bm none); have HO2 := Aside0.mk (ownsMap_keep HO.out (hb2.block bm HBL.out)); have HB2 := Aside0.mk hb2; clear hg hbox hb2 HM HO; have ha0 := (blk_cell BA.out 0).trans rfl; have ha1 := (blk_cell BA.out 1).trans rfl; have h6 := (blk_cell HM2.out.f6 0).trans rfl; have h7 := (blk_cell HM2.out.f7 0).trans rfl; have h1 := (blk_cell HM2.out.f1 0).trans rfl) | (at_lookup; refine wpList_lookup_own_ok_int _ rfl _ _ 84 rfl 86 3 .i64 keyed86 Try.underlying84 Try.underlying3 (zero3 _) bm n D rfl HO2.out (.agg #[.int .u16 (d : Int), .int .i64 l]) (keyL d l) rfl HKEY.out ?_; intro cv hat hwc; have HAT := Aside0.mk hat; clear hat hwc))
    go_ret
    have hcv := HAT.out.symm.trans HCV.out
    injection hcv with hcv
    injection hcv with _ hcv
    exact ⟨by rw [← hcv]; rfl, HM2.out.more (Nat.le_add_right _ _), HK2.out⟩
  | false =>
    go_enter Try.func62, Try.ntmps62
    go_wp2_with (first | ((with_reducible refine gate_dst (N := 6) rfl ?_); refine box_event ?hg (N := 6) ?hd (cs := #[.int .u16 (d : Int), .int .i64 l]) (t := 86) ?hr ?_; (case hd => rfl); (case hg => rfl); (case hr => first | (go_simp; done) | (go_simp; rfl)); intro ba hg w2 hbox hb2; have BA := Aside0.mk hbox; have HM2 := Aside0.mk (HM.out.below hb2); have HK2 := Aside0.mk (KeepBut.of_below hb2 bm none); have HO2 := Aside0.mk (ownsMap_keep HO.out (hb2.block bm HBL.out)); have HB2 := Aside0.mk hb2; clear hg hbox hb2 HM HO; have ha0 := (blk_cell BA.out 0).trans rfl; have ha1 := (blk_cell BA.out 1).trans rfl; have h6 := (blk_cell HM2.out.f6 0).trans rfl; have h7 := (blk_cell HM2.out.f7 0).trans rfl; have h1 := (blk_cell HM2.out.f1 0).trans rfl) | (at_lookup; refine wpList_lookup_own_ok_int _ rfl _ _ 84 rfl 86 3 .i64 keyed86 Try.underlying84 Try.underlying3 (zero3 _) bm n D rfl HO2.out (.agg #[.int .u16 (d : Int), .int .i64 l]) (keyL d l) rfl HKEY.out ?_; intro cv hat hwc; have HAT := Aside0.mk hat; clear hat hwc))
    obtain ⟨t0, ht0, hcost⟩ : ∃ t0, (∀ f', f = f' + 1 → t0 = costT f') ∧ costT f = 1 + 9 * t0 := by
      cases f with
      | zero => exact ⟨0, fun f' e => (by cases e), rfl⟩
      | succ f => exact ⟨costT f, fun f' e => (by injection e with e; rw [e]), rfl⟩
    have HNE : Aside0 (ba ≠ bm) := ⟨by
      intro e
      obtain ⟨es, clock, hb', _⟩ := HO2.out
      have hba := BA.out
      rw [e, hb'] at hba
      cases hba⟩
    have HCOST := Aside0.mk hcost
    have HT0 := Aside0.mk ht0
    clear ht0 ha0 ha1 h6 h7 h1 HAT HB2
    rw [hcost] at hcap
    clear hcost
    go_loopg [10, 28] parts.length (fun gk v10 v28 wr => ∃ k : Nat, k ≤ parts.length ∧ parts.length - k ≤ gk ∧ v28 = .int .i64 k ∧ v10 = .int .i64 (bestGo (restG parts swap all) (stepV parts swap all d l) d 1073741824 (List.range k)) ∧ Aside0 (WorkMem wB b1 b6 b7 b8 b9 bm A0 c0 parts swap A2 c2 looks wrong A4 c4 needs all (c + k * t0) wr) ∧ Aside0 (KeepBut W wr bm none) ∧ Aside0 (wr.heap[ba]? = some (.cells #[.int .u16 (d : Int), .int .i64 l] 86 (0, 0))))
    case atStart => exact ⟨0, Nat.zero_le _, by omega, rfl, rfl, ⟨HM2.out.more (by omega)⟩, HK2, BA⟩
    case round =>
      clear HM2 HK2 BA HO2
      obtain ⟨k, hk, hgk, rfl, rfl, HM, HK, BA⟩ := hrel
      have hbb : 0 ≤ bestGo (restG parts swap all) (stepV parts swap all d l) d 1073741824 (List.range k) ∧ bestGo (restG parts swap all) (stepV parts swap all d l) d 1073741824 (List.range k) ≤ 1073741824 := bestGo_bd _ _ _ _ _ (by omega) (fun i hi => (step_lt HWK.out (by have := List.mem_range.1 hi; omega)).1) (fun i hi => (restG_bd HWK.out all _ _).1)
      have HSN := Aside0.mk (bestGo_snoc (restG parts swap all) (stepV parts swap all d l) d k (List.range k) 1073741824)
      rw [← List.range_succ] at HSN
      generalize hbe : bestGo (restG parts swap all) (stepV parts swap all d l) d 1073741824 (List.range k) = best at *
      have HBE := Aside0.mk hbe
      clear hbe
      by_cases hlt : k < parts.length
      · have hlz : (k : Int) < (parts.length : Int) := by omega
        have hsl := step_lt HWK.out (all := all) (d := d) (l := l) hlt
        have HSC := Aside0.mk (fun h => step_can (parts := parts) (swap := swap) (all := all) (d := d) (l := l) (i := k) h)
        have HCALL := Aside0.mk (step_calls b1 b6 A0 c0 parts swap A2 c2 looks wrong A4 c4 needs all d l k wr HOK.out HWK.out hall hd hl1 hl2 hlt (Kd.C_below HP.out HM.out.be) HM.out.f1 HM.out.f6)
        generalize stepV parts swap all d l k = s at *
        have ha0 := (blk_cell BA.out 0).trans rfl
        have ha1 := (blk_cell BA.out 1).trans rfl
        have h8 := (blk_cell HM.out.f8 0).trans rfl
        go_wp2_with (fail)
        refine HCALL.out.mono ?_
        rintro e w4 ⟨rfl, hb4⟩
        have HM4 := Aside0.mk (HM.out.below hb4)
        have HK4 := Aside0.mk (HK.out.trans (KeepBut.of_below hb4 bm none) (.inl rfl))
        have BA4 := Aside0.mk (blk_below BA.out hb4)
        clear ha0 ha1 h8 hb4 HM HK BA HCALL
        by_cases hs : s < 1073741824
        · obtain ⟨hc1, hc2, _⟩ := HSC.out hs
          have hrs := remM_step hlt hc1 hc2
          rw [if_pos hs] at HSN
          obtain ⟨f', rfl⟩ : ∃ f', f = f' + 1 := ⟨f - 1, by omega⟩
          have ht0 := HT0.out f' rfl
          have hp16 : 2 ^ k < 65536 := Nat.pow_lt_pow_right (n := 16) (by decide) (by omega)
          have hdk : d ||| 2 ^ k < 65536 := Nat.or_lt_two_pow (n := 16) hd hp16
          have hshl : IntKind.u16.wrap (2 ^ k) = ((2 ^ k : Nat) : Int) := by have := shl_len (n := k) (by omega); rwa [Nat.min_eq_left (by omega)] at this
          have hor : Go.bits .or .u16 (d : Int) ((2 ^ k : Nat) : Int) = ((d ||| 2 ^ k : Nat) : Int) := u16_or d (2 ^ k) hd hp16
          have hrb := restG_bd HWK.out all (d ||| 2 ^ k) (k : Int)
          have HR := Aside0.mk ((IH.out f' (by omega) (d ||| 2 ^ k) (k : Int) (c + k * t0) w4.drew (by omega) hdk (by omega) hlz (by
              have : k * t0 ≤ 8 * t0 := Nat.mul_le_mul_right _ (by omega)
              rw [← ht0]; omega) (HM4.out.below (below_drew1 (Below.refl _ _)))).mono (R' := fun e w' => e = .returned (.int .i64 (restG parts swap all (d ||| 2 ^ k) (k : Int))) ∧ w'.cell? ⟨b9, 0, none⟩ = some (.func (.func 62) #[] #[.pointer (some ⟨b6, 0, none⟩), .pointer (some ⟨b7, 0, none⟩), .pointer (some ⟨b1, 0, none⟩), .pointer (some ⟨b8, 0, none⟩), .pointer (some ⟨b9, 0, none⟩)]) ∧ w'.cell? ⟨ba, 0, none⟩ = some (.int .u16 (d : Int)) ∧ Aside0 (WorkMem wB b1 b6 b7 b8 b9 bm A0 c0 parts swap A2 c2 looks wrong A4 c4 needs all (c + (k + 1) * t0) w') ∧ Aside0 (KeepBut W w' bm none) ∧ Aside0 (w'.heap[ba]? = some (.cells #[.int .u16 (d : Int), .int .i64 l] 86 (0, 0))))
            (fun e w' ⟨h1, h2, h3⟩ => by
              have hba := KeepBut.blk h3 (show w4.drew.heap[ba]? = _ from BA4.out) HNE.out (by simp)
              refine ⟨h1, (blk_cell h2.f9 0).trans rfl, (blk_cell hba 0).trans rfl, ⟨?_⟩, ⟨HK4.out.trans ((KeepBut.of_below (below_drew1 (Below.refl w4.heap.size w4)) bm none).trans h3 (.inl rfl)) (.inl rfl)⟩, ⟨hba⟩⟩
              rw [← ht0, Nat.add_assoc] at h2
              rw [Nat.add_mul, Nat.one_mul]
              exact h2))
          generalize hgr : restG parts swap all (d ||| 2 ^ k) (k : Int) = rv at *
          clear hgr
          generalize ((2 ^ k : Nat) : Int) = p2 at *
          generalize d ||| 2 ^ k = dk at *
          have h9' := (blk_cell HM4.out.f9 0).trans rfl
          have ha0 := (blk_cell BA4.out 0).trans rfl
          clear HM4 HK4 BA4 hc1 hc2 hrs hp16 hdk ht0 HSC
          go_wp2
          go_region_held3 (fun w' => w'.cell? ⟨b9, 0, none⟩ = some (.func (.func 62) #[] #[.pointer (some ⟨b6, 0, none⟩), .pointer (some ⟨b7, 0, none⟩), .pointer (some ⟨b1, 0, none⟩), .pointer (some ⟨b8, 0, none⟩), .pointer (some ⟨b9, 0, none⟩)]) ∧ w'.cell? ⟨ba, 0, none⟩ = some (.int .u16 (d : Int))) (first | exact ⟨h9', ha0⟩ | go_keep) (first | (go_at_call 62; refine HR.out.mono ?_; rintro e w5 ⟨rfl, hc9, hca, HM5, HK5, BA5⟩))
          have hmin : (if IntKind.i64.wrap (s + rv) < best then IntKind.i64.wrap (s + rv) else best) = bestGo (restG parts swap all) (stepV parts swap all d l) d 1073741824 (List.range (k + 1)) := by
            have hw : IntKind.i64.wrap (s + rv) = s + rv := IntWalk.i64_in _ (by omega)
            rw [HSN.out, hw]
            split <;> omega
          all_goals
            rw [hmin]
            clear hmin
            go_wp2
            go_roundg (parts.length - (k + 1))
            case measure => omega
            case rel => exact ⟨k + 1, by omega, by omega, by go_num, rfl, HM5, HK5, BA5⟩
        · rw [if_neg hs] at HSN
          go_wp2
          go_roundg (parts.length - (k + 1))
          case measure => omega
          case rel => exact ⟨k + 1, by omega, by omega, by go_num, by rw [HSN.out], ⟨HM4.out.more (Nat.add_le_add_left (Nat.mul_le_mul_right _ (Nat.le_succ _)) _)⟩, HK4, BA4⟩
      · have : k = parts.length := by omega
        subst this
        have HG2 := Aside0.mk (HG1.out.trans HBE.out)
        clear HSN HBE HG1
        obtain ⟨D2, n2, ho2, hn2, hg2⟩ := HM.out.mp
        have hwf : (Lit.int .i64 best).wf = true := WalkArith.wf_i64 ⟨by omega, by omega⟩
        have hkt : parts.length * t0 ≤ 9 * t0 := Nat.mul_le_mul_right _ h9
        have HO2 := Aside0.mk ho2
        have HG3 := Aside0.mk hg2
        have HWF := Aside0.mk hwf
        have ha0 := (blk_cell BA.out 0).trans rfl
        have ha1 := (blk_cell BA.out 1).trans rfl
        have h7 := (blk_cell HM.out.f7 0).trans rfl
        clear ho2 hg2 hwf
        have hfin : ∀ w1 : World, w1.ownsMap (H := Unit) Try.prog 86 (plainElem Try.prog 3) bm (n2 + 1) (D2.put (keyL d l) (.lit (.int .i64 best))) → wr.grownBy w1 (some bm) → WorkMem wB b1 b6 b7 b8 b9 bm A0 c0 parts swap A2 c2 looks wrong A4 c4 needs all (c + costT f) w1 ∧ KeepBut W w1 bm none := by
          intro w1 ho1 hgr
          have hkb : KeepBut wr w1 bm none := ⟨hgr.size, fun i hi h1 _ => hgr.block i hi (fun e => h1 (by injection e))⟩
          have hne : ∀ (g : Nat) (cs : Array Value) (t : TypeId), wr.heap[g]? = some (.cells cs t (0, 0)) → g ≠ bm := by
            intro g cs t hg e
            obtain ⟨es, clock, hb', _⟩ := HO2.out
            rw [e, hb'] at hg
            cases hg
          refine ⟨⟨?_, KeepBut.blk hkb HM.out.f1 (hne _ _ _ HM.out.f1) (by simp), KeepBut.blk hkb HM.out.f6 (hne _ _ _ HM.out.f6) (by simp), KeepBut.blk hkb HM.out.f7 (hne _ _ _ HM.out.f7) (by simp), KeepBut.blk hkb HM.out.f8 (hne _ _ _ HM.out.f8) (by simp), KeepBut.blk hkb HM.out.f9 (hne _ _ _ HM.out.f9) (by simp), _, _, ho1, ?_, ?_⟩, HK.out.trans hkb (.inl rfl)⟩
          · have hb := HM.out.be
            exact ⟨hgr.os.trans hb.os, hgr.tape.trans hb.tape, hgr.output.trans hb.output, Nat.le_trans hb.size hgr.size, fun i hi => (hgr.block i (Nat.lt_of_lt_of_le hi hb.size) (fun e => by injection e with e; omega)).trans (hb.block i hi)⟩
          · rw [HCOST.out]; omega
          · refine ⟨?_, fun d' l' hd' h1' h2' hh z => ?_⟩
            · obtain ⟨es, hes⟩ := HG3.out.1
              rw [hes]; exact ⟨_, rfl⟩
            · by_cases he : d' = d ∧ l' = l
              · obtain ⟨rfl, rfl⟩ := he
                rw [atKey_put_same HG3.out.1 (show WideAt.IsKeyLit (keyL d' l') from trivial), HG2.out]
              · have hne2 : keyL d' l' ≠ keyL d l := fun e => he (keyL_inj hd' (by omega) (by omega) hd (by omega) (by omega) e)
                rw [has_put_other hne2] at hh
                rw [atKey_put_other hne2]
                exact HG3.out.2 d' l' hd' h1' h2' hh z
        have HFIN := Aside0.mk hfin
        clear hfin
        go_wp2_with (at_mapUpdate; refine wpList_mapUpdate_own _ rfl _ _ _ 84 rfl 86 3 keyed86 Try.underlying84 _ bm n2 _ rfl HO2.out (by unfold maxLen; omega) _ _ _ rfl rfl HKEY.out _ [] (plainElem_int Try.underlying3 HWF.out) ?_; intro w1 hown1 hgrow1; have HZ := Aside0.mk (HFIN.out w1 hown1 hgrow1); clear hown1 hgrow1)
        go_ret
        exact ⟨by rw [HG2.out]; rfl, HZ.out.1, HZ.out.2⟩
theorem leftGo_bits (parts : List S50) (out : List Int) (n : Nat) : ∀ m s, m ≤ n → s < 2 ^ n → leftGo parts out m s < 2 ^ n := by
  intro m
  induction m with
  | zero => intro s _ h; exact h
  | succ m ih =>
    intro s hm hs
    refine ih _ (by omega) ?_
    split
    · exact Nat.or_lt_two_pow hs (Nat.pow_lt_pow_right (by decide) (by omega))
    · exact hs
theorem leftM_lt (parts : List S50) (out : List Int) : leftM parts out < 2 ^ parts.length := leftGo_bits parts out _ _ 0 (Nat.le_refl _) (Nat.two_pow_pos _)
theorem workOK_of_check {parts : List S50} {swap : Int} {looks : List S61} {wrong : Int} {needs : List Int} (h : checkE parts swap looks wrong needs = 0) : WorkOK parts swap ∧ Rising parts := by
  obtain ⟨h0, h9, hp, hsw, _⟩ := checkE_zero h
  have hg : ∀ i (hi : i < parts.length), parts.getD i z50 = parts[i] := fun i hi => by rw [List.getD, List.getElem?_eq_getElem hi]; rfl
  refine ⟨⟨inB_true.1 hsw, fun i hi => ?_⟩, fun i hi x hx => ?_⟩
  · have := (partsE_zero parts 0 hp i hi).2.2
    rw [hg i hi]
    exact inB_true.1 this
  · have h1 := (partsE_zero parts 0 hp i hi).1
    rw [hg i hi] at hx
    have := rise_zero _ _ (by decide) _ _ h1 x hx
    omega
theorem hit_mem {wB W X w10 : World} {b1 b6 b7 b8 b9 bm b10 base : Nat} {A0 : Option Addr} {c0 : Nat} {parts : List S50} {swap : Int} {A2 : Option Addr} {c2 : Nat} {looks : List S61} {wrong : Int} {A4 : Option Addr} {c4 : Nat} {needs : List Int} {all c n n' : Nat} {u v x0 y0 x y : Value} {xs xs' : List Value}
    (hM : WorkMem wB b1 b6 b7 b8 b9 bm A0 c0 parts swap A2 c2 looks wrong A4 c4 needs all c W)
    (hBA : W.heap[b10]? = some (.cells #[x0, y0] 86 (0, 0))) (hX : Below W.heap.size W X) (ho : W.ownsRow wB.heap.size 3 1 u n xs) (hg : X.grownBy w10 u.ownBlock) (hb : wB.heap.size ≤ b10) (hne : some b10 ≠ u.ownBlock)
    (hown : w10.ownsRow base 3 1 v n' xs') :
    WorkMem wB b1 b6 b7 b8 b9 bm A0 c0 parts swap A2 c2 looks wrong A4 c4 needs all c ((w10.setCell ⟨b10, 0, none⟩ x).setCell ⟨b10, 1, none⟩ y) ∧ ((w10.setCell ⟨b10, 0, none⟩ x).setCell ⟨b10, 1, none⟩ y).heap[b10]? = some (.cells #[x, y] 86 (0, 0)) ∧ ((w10.setCell ⟨b10, 0, none⟩ x).setCell ⟨b10, 1, none⟩ y).ownsRow base 3 1 v n' xs' := by
  have hk0 : KeepBut W w10 b10 u.ownBlock := (KeepBut.of_below hX b10 u.ownBlock).trans (KeepBut.of_grown hg b10) (.inl rfl)
  have hk := (hk0.set_ 0 x).set_ 1 y
  have h10 : w10.heap[b10]? = some (.cells #[x0, y0] 86 (0, 0)) := (hg.block b10 (Nat.lt_of_lt_of_le (blk_lt hBA) hX.size) hne).trans ((hX.block b10 (blk_lt hBA)).trans hBA)
  have tt : ∀ {g : Nat} {cs : Array Value} {t : TypeId}, W.heap[g]? = some (.cells cs t (0, 0)) → t ≠ 86 → t ≠ 3 → ((w10.setCell ⟨b10, 0, none⟩ x).setCell ⟨b10, 1, none⟩ y).heap[g]? = some (.cells cs t (0, 0)) := by
    intro g cs t hgc h86 h3
    refine KeepBut.blk hk hgc ?_ ?_
    · rintro rfl
      rw [hBA] at hgc
      injection hgc with e
      injection e with _ e
      exact h86 e.symm
    · intro e
      obtain ⟨cells, hcc⟩ := own_typed ho g e.symm
      rw [hgc] at hcc
      injection hcc with e2
      injection e2 with _ e2
      exact h3 e2
  have hbm : ((w10.setCell ⟨b10, 0, none⟩ x).setCell ⟨b10, 1, none⟩ y).heap[bm]? = W.heap[bm]? := by
    obtain ⟨D, m, ⟨es, clock, hb', r⟩, _⟩ := hM.mp
    refine hk.2 bm (blk_lt hb') ?_ ?_
    · rintro rfl
      rw [hBA] at hb'
      cases hb'
    · intro e
      obtain ⟨cells, hcc⟩ := own_typed ho bm e.symm
      rw [hb'] at hcc
      cases hcc
  have hbe : Below wB.heap.size wB w10 := by
    refine Below.grown (below_step hM.be hX) hg (Nat.le_trans hM.be.size hX.size) (fun k e => ?_)
    rcases own_base' ho with h | ⟨b, h1, h2⟩
    · rw [h] at e
      cases e
    · rw [h1] at e
      injection e with e
      omega
  obtain ⟨D, m, ho1, hm, hgd⟩ := hM.mp
  refine ⟨⟨(hbe.setCell (p := ⟨b10, 0, none⟩) hb x).setCell (p := ⟨b10, 1, none⟩) hb y, tt hM.f1 (by decide) (by decide), tt hM.f6 (by decide) (by decide), tt hM.f7 (by decide) (by decide), tt hM.f8 (by decide) (by decide), tt hM.f9 (by decide) (by decide), D, m, ownsMap_keep ho1 hbm, hm, hgd⟩, ?_, ?_⟩
  · simp [World.setCell, Array.getElem?_modify, h10]
  · refine own_move hown (fun k hk' => ?_)
    obtain ⟨cells, hcc⟩ := own_typed hown k hk'
    have hne' : k ≠ b10 := by
      rintro rfl
      rw [h10] at hcc
      injection hcc with e2
      injection e2 with _ e2
      exact absurd e2 (by decide)
    exact (Below.heap_setCell _ ⟨b10, 1, none⟩ _ k hne').trans (Below.heap_setCell _ ⟨b10, 0, none⟩ _ k hne')
def workE (parts : List S50) (swap : Int) (looks : List S61) (wrong : Int) (needs : List Int) : List Int × Int × Int :=
  if (outE parts swap looks wrong needs).2 = 0 then
    ((orderGo parts swap (leftM parts (outE parts swap looks wrong needs).1) 9 0 (-1)).map (fun (i : Nat) => (i : Int)), restG parts swap (leftM parts (outE parts swap looks wrong needs).1) 0 (-1), 0)
  else ([], 0, (outE parts swap looks wrong needs).2)
def strip_Work.f (l0_0 : List (S50)) (a0_1 : Int) (l0_2 : List (S61)) (a0_3 : Int) (l0_4 : List Int) : Option (List Int × Int × Int) :=
  if carFits l0_0 l0_2 l0_4 then some (workE l0_0 a0_1 l0_2 a0_3 l0_4) else none
theorem outE_good {parts : List S50} {swap : Int} {looks : List S61} {wrong : Int} {needs : List Int} (h : (outE parts swap looks wrong needs).2 = 0) : checkE parts swap looks wrong needs = 0 ∧ (outE parts swap looks wrong needs).1.length = parts.length := by
  unfold outE at h ⊢
  by_cases h0 : checkE parts swap looks wrong needs = 0
  · rw [if_pos h0] at h ⊢
    by_cases hT : truthsL parts looks wrong = []
    · rw [if_pos hT] at h; cases h
    · rw [if_neg hT]
      exact ⟨h0, outL_len _ _⟩
  · rw [if_neg h0] at h; exact absurd h h0
theorem six_blocks (w : World) (o1 o2 o3 o4 o5 o6 : Obj) : Below w.heap.size w ((((((w.alloc o1).alloc o2).alloc o3).alloc o4).alloc o5).alloc o6) ∧
    ((((((w.alloc o1).alloc o2).alloc o3).alloc o4).alloc o5).alloc o6).heap[w.heap.size]? = some o1 ∧ ((((((w.alloc o1).alloc o2).alloc o3).alloc o4).alloc o5).alloc o6).heap[w.heap.size + 1]? = some o2 ∧
    ((((((w.alloc o1).alloc o2).alloc o3).alloc o4).alloc o5).alloc o6).heap[w.heap.size + 1 + 1]? = some o3 ∧ ((((((w.alloc o1).alloc o2).alloc o3).alloc o4).alloc o5).alloc o6).heap[w.heap.size + 1 + 1 + 1]? = some o4 ∧
    ((((((w.alloc o1).alloc o2).alloc o3).alloc o4).alloc o5).alloc o6).heap[w.heap.size + 1 + 1 + 1 + 1]? = some o5 ∧ ((((((w.alloc o1).alloc o2).alloc o3).alloc o4).alloc o5).alloc o6).heap[w.heap.size + 1 + 1 + 1 + 1 + 1]? = some o6 := by
  have n1 := World.alloc_heap_new w o1
  have n2 := World.alloc_heap_new (w.alloc o1) o2
  have n3 := World.alloc_heap_new ((w.alloc o1).alloc o2) o3
  have n4 := World.alloc_heap_new (((w.alloc o1).alloc o2).alloc o3) o4
  have n5 := World.alloc_heap_new ((((w.alloc o1).alloc o2).alloc o3).alloc o4) o5
  have n6 := World.alloc_heap_new (((((w.alloc o1).alloc o2).alloc o3).alloc o4).alloc o5) o6
  simp only [World.size_alloc] at n1 n2 n3 n4 n5 n6
  refine ⟨by repeat (first | exact Below.refl _ _ | apply below_alloc), ?_, ?_, ?_, ?_, ?_, n6⟩
  · rw [Below.heap_alloc _ _ _ (by simp <;> omega), Below.heap_alloc _ _ _ (by simp <;> omega), Below.heap_alloc _ _ _ (by simp <;> omega), Below.heap_alloc _ _ _ (by simp <;> omega), Below.heap_alloc _ _ _ (by simp)]; exact n1
  · rw [Below.heap_alloc _ _ _ (by simp <;> omega), Below.heap_alloc _ _ _ (by simp <;> omega), Below.heap_alloc _ _ _ (by simp <;> omega), Below.heap_alloc _ _ _ (by simp)]; exact n2
  · rw [Below.heap_alloc _ _ _ (by simp <;> omega), Below.heap_alloc _ _ _ (by simp <;> omega), Below.heap_alloc _ _ _ (by simp)]; exact n3
  · rw [Below.heap_alloc _ _ _ (by simp <;> omega), Below.heap_alloc _ _ _ (by simp)]; exact n4
  · rw [Below.heap_alloc _ _ _ (by simp)]; exact n5
set_option maxHeartbeats 16000000 in
set_option maxRecDepth 100000 in
theorem strip_Work.calls (A0_0 : Option Addr) (c0_0 : Nat) (l0_0 : List (S50)) (a0_1 : Int) (A0_2 : Option Addr) (c0_2 : Nat) (l0_2 : List (S61)) (a0_3 : Int) (A0_4 : Option Addr) (c0_4 : Nat) (l0_4 : List Int) (r1 : List Int) (r2 : Int) (r3 : Int) (w : World) (hr0_0 : Kd.C k50 w A0_0 l0_0.length l0_0) (hc0_0 : l0_0.length ≤ c0_0) (hr0_2 : Kd.C k61 w A0_2 l0_2.length l0_2) (hc0_2 : l0_2.length ≤ c0_2) (hr0_4 : Kd.C (Kd.int .i64) w A0_4 l0_4.length l0_4) (hc0_4 : l0_4.length ≤ c0_4) (h : strip_Work.f l0_0 a0_1 l0_2 a0_3 l0_4 = some (r1, r2, r3)) :
    Calls Try.prog 20 #[.agg #[.slice A0_0 l0_0.length c0_0, .int .i64 a0_1, .slice A0_2 l0_2.length c0_2, .int .i64 a0_3, .slice A0_4 l0_4.length c0_4]] w fun e w' => ∃ v0_ : Value, e = .returned (.tuple #[v0_, .int .i64 r2, .int .i64 r3]) ∧ Kd.R (Kd.int .i64) 3 w' w.heap.size (fun _ => True) v0_ r1 ∧ Below w.heap.size w w' := by
  unfold strip_Work.f at h
  by_cases hf : carFits l0_0 l0_2 l0_4
  case neg => rw [if_neg hf] at h; cases h
  rw [if_pos hf] at h
  have hE := Option.some.inj h
  clear h
  have HR0 := Aside0.mk hr0_0
  have HR2 := Aside0.mk hr0_2
  have HR4 := Aside0.mk hr0_4
  have HF := Aside0.mk hf
  have HEE := Aside0.mk hE
  clear hr0_0 hr0_2 hr0_4 hf hE
  have hu26 := Try.underlying26
  have hu86 := Try.underlying86
  have hmf : ∀ (fn : Fn) (first cap : Array Value) (w : World), (Instr.makeFunc fn first cap).run Try.prog w = .ok (.func fn first cap) w := fun _ _ _ _ => rfl
  have hmm := @run_makeMap Try.prog
  go_enter Try.func20, Try.ntmps20
  go_wp2_with ((with_reducible refine gate_dst (N := 1) rfl ?_); refine box_event ?hg (N := 1) ?hd (cs := #[.slice A0_0 l0_0.length c0_0, .int .i64 a0_1, .slice A0_2 l0_2.length c0_2, .int .i64 a0_3, .slice A0_4 l0_4.length c0_4]) (t := 26) ?hr ?_; (case hd => rfl); (case hg => rfl); (case hr => first | (go_simp; done) | (go_simp; rfl)); intro gb hg w2 hbox hb2; have hz0 := (blk_cell hbox 0).trans rfl; have hz1 := (blk_cell hbox 1).trans rfl; have hz2 := (blk_cell hbox 2).trans rfl; have hz3 := (blk_cell hbox 3).trans rfl; have hz4 := (blk_cell hbox 4).trans rfl; have BK := Aside0.mk hbox; have HB := Aside0.mk hb2; clear hg hbox hb2)
  refine (strip_Out.calls A0_0 c0_0 l0_0 a0_1 A0_2 c0_2 l0_2 a0_3 A0_4 c0_4 l0_4 _ _ w2 (Kd.C_below HR0.out HB.out) hc0_0 (Kd.C_below HR2.out HB.out) hc0_2 (Kd.C_below HR4.out HB.out) hc0_4 (by rw [strip_Out.f, if_pos HF.out])).mono ?_
  rintro e w3 ⟨v, rfl, hro, hb3⟩
  have BK3 := Aside0.mk (blk_below BK.out hb3)
  have HB3 := Aside0.mk (below_step HB.out hb3)
  have HRO := Aside0.mk hro
  clear hro hb3 BK HB hz0 hz1 hz2 hz3 hz4
  obtain ⟨Av, cv, hv⟩ := Kd.R_slice HRO.out
  subst hv
  by_cases her : (outE l0_0 a0_1 l0_2 a0_3 l0_4).2 = 0
  case neg =>
    have h1 := HEE.out.symm.trans (if_neg her)
    obtain ⟨rfl, h2⟩ := Prod.mk.inj h1
    obtain ⟨rfl, h3⟩ := Prod.mk.inj h2
    rw [← h3]
    have hnb : (r3 == 0) = false := beq_eq_false_iff_ne.2 (by rw [h3]; exact her)
    clear her h1 h2 h3 HEE
    go_wp2
    go_ret3
    exact ⟨_, rfl, Kd.R_nil _ _ _ _ _, HB3.out⟩
  obtain ⟨hck, hol⟩ := outE_good her
  have h1 := HEE.out.symm.trans (if_pos her)
  rw [her]
  obtain ⟨hwk, hri⟩ := workOK_of_check hck
  have HOK := Aside0.mk (carOK_of_check HF.out hck)
  have HWK := Aside0.mk hwk
  have HRI := Aside0.mk hri
  have h9 := HOK.out.few
  generalize (outE l0_0 a0_1 l0_2 a0_3 l0_4).1 = out at *
  obtain ⟨K, hK⟩ := left_ev l0_0 out a0_1 l0_2 a0_3 l0_4 h9 HF.out.2.2.2 hol
  have HLF := Aside0.mk hK
  have hall2 := leftM_lt l0_0 out
  generalize leftM l0_0 out = all at *
  obtain ⟨rfl, h2⟩ := Prod.mk.inj h1
  obtain ⟨rfl, rfl⟩ := Prod.mk.inj h2
  have HOL := Aside0.mk hol
  clear her h1 h2 HEE hck hwk hri hK hol
  have hz0 := (blk_cell BK3.out 0).trans rfl
  have hz1 := (blk_cell BK3.out 1).trans rfl
  have hz2 := (blk_cell BK3.out 2).trans rfl
  have hz3 := (blk_cell BK3.out 3).trans rfl
  have hz4 := (blk_cell BK3.out 4).trans rfl
  go_wp2_with (fail)
  refine (strip_left.calls K A0_0 c0_0 l0_0 a0_1 A0_2 c0_2 l0_2 a0_3 A0_4 c0_4 l0_4 Av cv out _ w3 (Kd.C_below HR0.out HB3.out) hc0_0 (Kd.C_below HR2.out HB3.out) hc0_2 (Kd.C_below HR4.out HB3.out) hc0_4 (Kd.R_reads' HRO.out).2.2 (Kd.R_reads' HRO.out).2.1 HLF.out).mono ?_
  rintro e w4 ⟨rfl, hb4⟩
  have BK4 := Aside0.mk (blk_below BK3.out hb4)
  have HB4 := Aside0.mk (below_step HB3.out hb4)
  clear hb4 BK3 HB3 HRO HLF hz0 hz1 hz2 hz3 hz4
  go_upto_region 10 with (fail)
  have S6 := six_blocks w4 (.cells #[.int .u16 (all : Int)] 82 (0, 0)) (.map #[] 0) (.cells #[.map (some (w4.heap.size + 1))] 84 (0, 0)) (.cells #[.func (.func 58) #[] #[.pointer (some ⟨gb, 0, none⟩), .pointer (some ⟨w4.heap.size, 0, none⟩)]] 90 (0, 0)) (.cells #[.func (.func 62) #[] #[.pointer (some ⟨w4.heap.size, 0, none⟩), .pointer (some ⟨w4.heap.size + 1 + 1, 0, none⟩), .pointer (some ⟨gb, 0, none⟩), .pointer (some ⟨w4.heap.size + 1 + 1 + 1, 0, none⟩), .pointer (some ⟨w4.heap.size + 1 + 1 + 1 + 1, 0, none⟩)]] 91 (0, 0)) (.cells #[.int .u16 0, .int .i64 (-1)] 86 (0, 0))
  have hmade := World.ownsMap_made (H := Unit) (w4.alloc (.cells #[.int .u16 (all : Int)] 82 (0, 0))) Try.prog 86 (plainElem Try.prog 3)
  rw [World.size_alloc] at hmade
  have hbm : w4.heap.size ≤ w4.heap.size + 1 := Nat.le_succ _
  have hb10 : w4.heap.size ≤ w4.heap.size + 1 + 1 + 1 + 1 + 1 := by omega
  generalize hW5 : ((((((w4.alloc (.cells #[.int .u16 (all : Int)] 82 (0, 0))).alloc (.map #[] 0)).alloc (.cells #[.map (some (w4.heap.size + 1))] 84 (0, 0))).alloc (.cells #[.func (.func 58) #[] #[.pointer (some ⟨gb, 0, none⟩), .pointer (some ⟨w4.heap.size, 0, none⟩)]] 90 (0, 0))).alloc (.cells #[.func (.func 62) #[] #[.pointer (some ⟨w4.heap.size, 0, none⟩), .pointer (some ⟨w4.heap.size + 1 + 1, 0, none⟩), .pointer (some ⟨gb, 0, none⟩), .pointer (some ⟨w4.heap.size + 1 + 1 + 1, 0, none⟩), .pointer (some ⟨w4.heap.size + 1 + 1 + 1 + 1, 0, none⟩)]] 91 (0, 0))).alloc (.cells #[.int .u16 0, .int .i64 (-1)] 86 (0, 0))) = W5 at S6 ⊢
  obtain ⟨sb, s1, s2, s3, s4, s5, s6⟩ := S6
  have hmade2 : W5.ownsMap (H := Unit) Try.prog 86 (plainElem Try.prog 3) (w4.heap.size + 1) 0 (.map []) := by
    obtain ⟨es, clock, hb, r⟩ := hmade
    have he : (some (Obj.map es clock)) = some (Obj.map #[] 0) := by
      rw [← hb]
      have := World.alloc_heap_new (w4.alloc (.cells #[.int .u16 (all : Int)] 82 (0, 0))) (.map #[] 0)
      rw [World.size_alloc] at this
      exact this
    exact ⟨es, clock, s2.trans he.symm, r⟩
  clear hmade hW5
  generalize w4.heap.size + 1 + 1 + 1 + 1 + 1 = b10 at *
  generalize w4.heap.size + 1 + 1 + 1 + 1 = b9 at *
  generalize w4.heap.size + 1 + 1 + 1 = b8 at *
  generalize w4.heap.size + 1 + 1 = b7 at *
  generalize w4.heap.size + 1 = bm at *
  obtain ⟨b6, hb6⟩ : ∃ b, b = w4.heap.size := ⟨_, rfl⟩
  rw [← hb6] at s1 s4 s5 ⊢
  have HM := Aside0.mk (WorkMem.mk (wB := w4) (b1 := gb) (b6 := b6) (b7 := b7) (b8 := b8) (b9 := b9) (bm := bm) (A0 := A0_0) (c0 := c0_0) (parts := l0_0) (swap := a0_1) (A2 := A0_2) (c2 := c0_2) (looks := l0_2) (wrong := a0_3) (A4 := A0_4) (c4 := c0_4) (needs := l0_4) (all := all) (c := 0) (W := W5) sb (blk_below BK4.out sb) s1 s3 s4 s5 ⟨_, 0, hmade2, Nat.le_refl _, ⟨_, rfl⟩, fun d l _ _ _ hh => by cases hh⟩)
  have BA := Aside0.mk s6
  have HP4 := Aside0.mk (Kd.C_below HR0.out HB4.out)
  have HBM := Aside0.mk hbm
  have HB10 := Aside0.mk hb10
  clear sb s1 s2 s3 s4 s5 s6 hmade2 hb6 hbm hb10 BK4
  have hp9 := pow_le_512 h9
  have hall16 : all < 65536 := by omega
  obtain ⟨CT, hCT⟩ : ∃ C, C = costT 9 := ⟨_, rfl⟩
  have hCTb : CT ≤ 1000000000 := by rw [hCT]; decide
  have HBW4 := Aside0.mk HB4.out
  have HNE : ∀ (g : Nat) (cs : Array Value) (t : TypeId) (W : World) (c : Nat), WorkMem w4 gb b6 b7 b8 b9 bm A0_0 c0_0 l0_0 a0_1 A0_2 c0_2 l0_2 a0_3 A0_4 c0_4 l0_4 all (c) W → W.heap[g]? = some (.cells cs t (0, 0)) → g ≠ bm := by
    intro g cs t W c hm hg e
    obtain ⟨D, n, ⟨es, clock, hb', _⟩, _⟩ := hm.mp
    rw [e, hb'] at hg
    cases hg
  have HNEA := Aside0.mk HNE
  clear HNE
  have hrem0 := remM_le l0_0.length all 0
  have HC0 : Calls Try.prog 62 #[.agg #[.int .u16 0, .int .i64 (-1)], .pointer (some ⟨b6, 0, none⟩), .pointer (some ⟨b7, 0, none⟩), .pointer (some ⟨gb, 0, none⟩), .pointer (some ⟨b8, 0, none⟩), .pointer (some ⟨b9, 0, none⟩)] W5 fun e w' => e = .returned (.int .i64 (restG l0_0 a0_1 all 0 (-1))) ∧ WorkMem w4 gb b6 b7 b8 b9 bm A0_0 c0_0 l0_0 a0_1 A0_2 c0_2 l0_2 a0_3 A0_4 c0_4 l0_4 all (0 + costT 9) w' ∧ KeepBut W5 w' bm none := rest_calls w4 gb b6 b7 b8 b9 bm A0_0 c0_0 l0_0 a0_1 A0_2 c0_2 l0_2 a0_3 A0_4 c0_4 l0_4 all HOK.out HWK.out hall16 HP4.out HBM.out 9 0 (-1) 0 W5 (by omega) (by decide) (by omega) (by omega) (by rw [← hCT]; omega) HM.out
  have HC0A := Aside0.mk HC0
  clear HC0
  have ha0 := (blk_cell BA.out 0).trans rfl
  have ha1 := (blk_cell BA.out 1).trans rfl
  have h9c := (blk_cell HM.out.f9 0).trans rfl
  go_wp2_with (fail)
  refine HC0A.out.mono ?_
  rintro e w6 ⟨rfl, hm6, hk6⟩
  have BA6 := Aside0.mk (KeepBut.blk hk6 BA.out (HNEA.out _ _ _ _ _ HM.out BA.out) (by simp))
  rw [Nat.zero_add, ← hCT] at hm6
  have HM6 := Aside0.mk hm6
  clear hm6 hk6 ha0 ha1 h9c HM BA HC0A
  go_wp2
  obtain ⟨i0, hi, hz0, hz1, hz2⟩ := info_parts infoInt
  go_loopg [2] 9 (fun gk v2 wr => ∃ (d : Nat) (l : Int) (pre : List Nat) (c : Nat), gk ≤ 9 ∧ remM l0_0.length all d ≤ gk ∧ d < 65536 ∧ -1 ≤ l ∧ l < l0_0.length ∧ c ≤ CT + (9 - gk) * (10 * CT) ∧ pre.length + gk ≤ 9 ∧ Aside0 (subM d all = true) ∧ Aside0 (pre ++ orderGo l0_0 a0_1 all gk d l = orderGo l0_0 a0_1 all 9 0 (-1)) ∧ Aside0 (WorkMem w4 gb b6 b7 b8 b9 bm A0_0 c0_0 l0_0 a0_1 A0_2 c0_2 l0_2 a0_3 A0_4 c0_4 l0_4 all (c) wr) ∧ Aside0 (wr.heap[b10]? = some (.cells #[.int .u16 ((d : Nat) : Int), .int .i64 (l)] 86 (0, 0))) ∧ Aside0 (wr.ownsRow w4.heap.size 3 1 v2 pre.length (pre.map (fun (i : Nat) => Value.int .i64 (i : Int)))))
  case atStart => exact ⟨0, -1, [], CT, Nat.le_refl _, by omega, by decide, by omega, by omega, by omega, by simp, ⟨by rw [subM_iff]; intro i hi; simp at hi⟩, ⟨rfl⟩, HM6, BA6, ⟨World.ownsRow_nil _ _ _ _⟩⟩
  case round =>
    clear HM6 BA6
    obtain ⟨d, l, pre, c, hgk9, hrem, hd, hl1, hl2, hcc, hpl, HSUB, HORD, HM, BA, HO⟩ := hrel
    have ha0 := (blk_cell BA.out 0).trans rfl
    have ha1 := (blk_cell BA.out 1).trans rfl
    have h6c := (blk_cell HM.out.f6 0).trans rfl
    have h9c := (blk_cell HM.out.f9 0).trans rfl
    have h1c := (blk_cell HM.out.f1 0).trans rfl
    by_cases hda : d = all
    · subst hda
      have hdb : (((d : Nat) : Int) == ((d : Nat) : Int)) = true := beq_self_eq_true _
      have HPR : Aside0 (pre = orderGo l0_0 a0_1 d 9 0 (-1)) := ⟨by have := HORD.out; rwa [orderGo_done, List.append_nil] at this⟩
      go_wp2
      go_ret3
      refine ⟨_, rfl, R_of_owns .i64 ?_, below_step HBW4.out HM.out.be⟩
      rw [← HPR.out, List.length_map, List.map_map]
      exact own_weaken HO.out HBW4.out.size
    · have hdb : (((d : Nat) : Int) == ((all : Nat) : Int)) = false := beq_eq_false_iff_ne.2 (by omega)
      have HDA := Aside0.mk hda
      clear hda
      obtain ⟨g1, rfl⟩ : ∃ g1, gk = g1 + 1 := ⟨gk - 1, by
        obtain ⟨i, h1, h2, h3⟩ := sub_lacks HSUB.out hall2 HDA.out
        have := remM_step h1 h2 h3
        omega⟩
      have HC1 := Aside0.mk (rest_calls w4 gb b6 b7 b8 b9 bm A0_0 c0_0 l0_0 a0_1 A0_2 c0_2 l0_2 a0_3 A0_4 c0_4 l0_4 all HOK.out HWK.out hall16 HP4.out HBM.out 9 d l c wr (by have := remM_le l0_0.length all d; omega) hd hl1 hl2 (by rw [← hCT]; have : (9 - (g1 + 1)) * (10 * CT) ≤ 9 * (10 * CT) := Nat.mul_le_mul_right _ (by omega); omega) HM.out)
      go_wp2_with (fail)
      refine HC1.out.mono ?_
      rintro e w7 ⟨rfl, hm7, hk7⟩
      have BA7 := Aside0.mk (KeepBut.blk hk7 BA.out (HNEA.out _ _ _ _ _ HM.out BA.out) (by simp))
      have HO7 : Aside0 (w7.ownsRow w4.heap.size 3 1 u2 pre.length (pre.map (fun (i : Nat) => Value.int .i64 (i : Int)))) := ⟨own_move HO.out (fun b hb => hk7.2 b (own_lt HO.out b hb) (by
        obtain ⟨cells, hcc⟩ := own_typed HO.out b hb
        exact HNEA.out _ _ _ _ _ HM.out hcc) (by simp))⟩
      rw [← hCT] at hm7
      have HM7 := Aside0.mk hm7
      clear hm7 hk7 HM BA HO HC1 ha0 ha1 h6c h9c h1c
      have hrb := restG_bd HWK.out all d l
      have HNX := Aside0.mk (next_some h9 HWK.out HRI.out l HSUB.out hall2 HDA.out)
      obtain ⟨due, hdue⟩ : ∃ x, x = restG l0_0 a0_1 all d l := ⟨_, rfl⟩
      rw [← hdue] at hrb ⊢
      have HDUE := Aside0.mk hdue
      clear hdue
      have h1c := (blk_cell HM7.out.f1 0).trans rfl
      go_wp2
      clear h1c
      go_loopg [2, 42] l0_0.length (fun gk2 v2 v42 wr2 => ∃ k : Nat, k ≤ l0_0.length ∧ l0_0.length - k ≤ gk2 ∧ v42 = .int .i64 k ∧ Aside0 (∀ i, i < k → nextB l0_0 a0_1 all d l i = false) ∧ Aside0 (WorkMem w4 gb b6 b7 b8 b9 bm A0_0 c0_0 l0_0 a0_1 A0_2 c0_2 l0_2 a0_3 A0_4 c0_4 l0_4 all (c + CT + k * CT) wr2) ∧ Aside0 (wr2.heap[b10]? = some (.cells #[.int .u16 ((d : Nat) : Int), .int .i64 (l)] 86 (0, 0))) ∧ Aside0 (wr2.ownsRow w4.heap.size 3 1 v2 pre.length (pre.map (fun (i : Nat) => Value.int .i64 (i : Int)))))
      case atStart => exact ⟨0, Nat.zero_le _, by omega, rfl, ⟨fun i hi => by omega⟩, ⟨by rw [Nat.zero_mul, Nat.add_zero]; exact HM7.out⟩, BA7, HO7⟩
      case round =>
        clear HM7 BA7 HO7
        obtain ⟨k, hk, hgk2, rfl, HLOW, HM, BA, HO⟩ := hrel
        by_cases hlt : k < l0_0.length
        · have hlz : (k : Int) < (l0_0.length : Int) := by omega
          have hsl := step_lt HWK.out (all := all) (d := d) (l := l) hlt
          have HSC := Aside0.mk (fun h => step_can (parts := l0_0) (swap := a0_1) (all := all) (d := d) (l := l) (i := k) h)
          have HCALL := Aside0.mk (step_calls gb b6 A0_0 c0_0 l0_0 a0_1 A0_2 c0_2 l0_2 a0_3 A0_4 c0_4 l0_4 all d l k wr HOK.out HWK.out hall16 hd hl1 hl2 hlt (Kd.C_below HP4.out HM.out.be) HM.out.f1 HM.out.f6)
          have HNB : Aside0 (nextB l0_0 a0_1 all d l k = (decide (stepV l0_0 a0_1 all d l k < 1073741824) && (stepV l0_0 a0_1 all d l k + restG l0_0 a0_1 all (d ||| 2 ^ k) k == due))) := ⟨by rw [HDUE.out]; rfl⟩
          generalize stepV l0_0 a0_1 all d l k = s at *
          have ha0 := (blk_cell BA.out 0).trans rfl
          have ha1 := (blk_cell BA.out 1).trans rfl
          have h8 := (blk_cell HM.out.f8 0).trans rfl
          go_wp2_with (fail)
          refine HCALL.out.mono ?_
          rintro e w8 ⟨rfl, hb8⟩
          have HM8 := Aside0.mk (HM.out.below hb8)
          have BA8 := Aside0.mk (blk_below BA.out hb8)
          have HO8 : Aside0 (w8.ownsRow w4.heap.size 3 1 u2 pre.length (pre.map (fun (i : Nat) => Value.int .i64 (i : Int)))) := ⟨own_move HO.out (fun b hb => hb8.block b (own_lt HO.out b hb))⟩
          clear ha0 ha1 h8 hb8 HM BA HO HCALL
          by_cases hs : s < 1073741824
          · obtain ⟨hc1, hc2, _⟩ := HSC.out hs
            have hrs := remM_step hlt hc1 hc2
            have hp16 : 2 ^ k < 65536 := Nat.pow_lt_pow_right (n := 16) (by decide) (by omega)
            have hdk : d ||| 2 ^ k < 65536 := Nat.or_lt_two_pow (n := 16) hd hp16
            have hshl : IntKind.u16.wrap (2 ^ k) = ((2 ^ k : Nat) : Int) := by have := shl_len (n := k) (by omega); rwa [Nat.min_eq_left (by omega)] at this
            have hor : Go.bits .or .u16 (d : Int) ((2 ^ k : Nat) : Int) = ((d ||| 2 ^ k : Nat) : Int) := u16_or d (2 ^ k) hd hp16
            have hrb2 := restG_bd HWK.out all (d ||| 2 ^ k) (k : Int)
            have HSUB2 := Aside0.mk (sub_step (n := l0_0.length) HSUB.out hc1)
            have HORD2 : Aside0 (s + restG l0_0 a0_1 all (d ||| 2 ^ k) k = due → nextB l0_0 a0_1 all d l k = true ∧ pre ++ (k :: orderGo l0_0 a0_1 all g1 (d ||| 2 ^ k) k) = orderGo l0_0 a0_1 all 9 0 (-1)) := ⟨fun e => by
              have hn : nextB l0_0 a0_1 all d l k = true := by rw [HNB.out, e, decide_eq_true hs]; simp
              refine ⟨hn, ?_⟩
              rw [← HORD.out, orderGo_next HDA.out hlt hn HLOW.out]⟩
            have hkC : k * CT ≤ 8 * CT := Nat.mul_le_mul_right _ (by omega)
            have hgC : (9 - (g1 + 1)) * (10 * CT) ≤ 8 * (10 * CT) := Nat.mul_le_mul_right _ (by omega)
            have HR := Aside0.mk ((rest_calls w4 gb b6 b7 b8 b9 bm A0_0 c0_0 l0_0 a0_1 A0_2 c0_2 l0_2 a0_3 A0_4 c0_4 l0_4 all HOK.out HWK.out hall16 HP4.out HBM.out 9 (d ||| 2 ^ k) (k : Int) (c + CT + k * CT) w8.drew (by have := remM_le l0_0.length all (d ||| 2 ^ k); omega) hdk (by omega) hlz (by rw [← hCT]; omega) (HM8.out.below (below_drew1 (Below.refl _ _)))).mono (R' := fun e w' => e = .returned (.int .i64 (restG l0_0 a0_1 all (d ||| 2 ^ k) (k : Int))) ∧ w'.cell? ⟨b9, 0, none⟩ = some (.func (.func 62) #[] #[.pointer (some ⟨b6, 0, none⟩), .pointer (some ⟨b7, 0, none⟩), .pointer (some ⟨gb, 0, none⟩), .pointer (some ⟨b8, 0, none⟩), .pointer (some ⟨b9, 0, none⟩)]) ∧ w'.cell? ⟨b10, 0, none⟩ = some (.int .u16 (d : Int)) ∧ Aside0 (WorkMem w4 gb b6 b7 b8 b9 bm A0_0 c0_0 l0_0 a0_1 A0_2 c0_2 l0_2 a0_3 A0_4 c0_4 l0_4 all (c + CT + (k + 1) * CT) w') ∧ Aside0 (w'.heap[b10]? = some (.cells #[.int .u16 ((d : Nat) : Int), .int .i64 (l)] 86 (0, 0))) ∧ Aside0 (w'.ownsRow w4.heap.size 3 1 u2 pre.length (pre.map (fun (i : Nat) => Value.int .i64 (i : Int)))))
              (fun e w' ⟨h1, h2, h3⟩ => by
                have hba := KeepBut.blk h3 (show w8.drew.heap[b10]? = _ from BA8.out) (HNEA.out _ _ _ _ _ HM8.out BA8.out) (by simp)
                refine ⟨h1, (blk_cell h2.f9 0).trans rfl, (blk_cell hba 0).trans rfl, ⟨?_⟩, ⟨hba⟩, ⟨own_move HO8.out (fun b hb => h3.2 b (own_lt HO8.out b hb) (by
                  obtain ⟨cells, hcc⟩ := own_typed HO8.out b hb
                  exact HNEA.out _ _ _ _ _ HM8.out hcc) (by simp))⟩⟩
                rw [← hCT] at h2
                rw [Nat.add_mul, Nat.one_mul, ← Nat.add_assoc]
                exact h2))
            generalize hgr : restG l0_0 a0_1 all (d ||| 2 ^ k) (k : Int) = rv at *
            have HGR := Aside0.mk hgr
            clear hgr
            generalize ((2 ^ k : Nat) : Int) = p2 at *
            generalize hgd : d ||| 2 ^ k = dk at *
            have HGD := Aside0.mk hgd
            clear hgd
            have h9' := (blk_cell HM8.out.f9 0).trans rfl
            have ha0 := (blk_cell BA8.out 0).trans rfl
            have hds : decide (s < 1073741824) = true := decide_eq_true hs
            have hwr : IntKind.i64.wrap (s + rv) = s + rv := IntWalk.i64_in _ (by omega)
            have hdk2 := hdk
            clear HM8 BA8 HO8 hc1 hc2 hp16 HSC
            by_cases heq : s + rv = due
            · have hbe : (s + rv == due) = true := beq_iff_eq.2 heq
              obtain ⟨hnx, hord⟩ := HORD2.out heq
              have HN2 := Aside0.mk hnx
              have HO2 := Aside0.mk hord
              clear heq hnx hord HORD2 HNB
              go_wp2
              go_region_held3 (fun w' => w'.cell? ⟨b9, 0, none⟩ = some (.func (.func 62) #[] #[.pointer (some ⟨b6, 0, none⟩), .pointer (some ⟨b7, 0, none⟩), .pointer (some ⟨gb, 0, none⟩), .pointer (some ⟨b8, 0, none⟩), .pointer (some ⟨b9, 0, none⟩)]) ∧ w'.cell? ⟨b10, 0, none⟩ = some (.int .u16 (d : Int))) (first | exact ⟨h9', ha0⟩ | go_keep) (first | (go_at_call 62; refine HR.out.mono ?_; rintro e w9 ⟨rfl, hc9, hca, HM9, BA9, HO9⟩))
              all_goals
                clear h9' ha0 hc9 hca
                have hq0 := (blk_cell BA9.out 0).trans rfl
                have hq1 := (blk_cell BA9.out 1).trans rfl
                have hf0 := blk_frozen BA9.out 0
                have hf1 := blk_frozen BA9.out 1
                have HNO : Aside0 (some b10 ≠ u2.ownBlock) := ⟨fun e => by
                  obtain ⟨cells, hcc⟩ := own_typed HO9.out b10 e.symm
                  rw [BA9.out] at hcc
                  injection hcc with hcc
                  injection hcc with _ hcc
                  exact absurd hcc (by decide)⟩
                have KB : ∀ {X W1 : World}, X.heap[b10]? = some (.cells #[.int .u16 (d : Int), .int .i64 l] 86 (0, 0)) → X.grownBy W1 u2.ownBlock → W1.cell? ⟨b10, 0, none⟩ = some (.int .u16 (d : Int)) ∧ W1.cell? ⟨b10, 1, none⟩ = some (.int .i64 l) ∧ W1.frozen? ⟨b10, 0, none⟩ = false ∧ W1.frozen? ⟨b10, 1, none⟩ = false := fun hx hg => by
                  have hb := (hg.block b10 (blk_lt hx) HNO.out).trans hx
                  exact ⟨(blk_cell hb 0).trans rfl, (blk_cell hb 1).trans rfl, blk_frozen hb 0, blk_frozen hb 1⟩
                have KBA := Aside0.mk @KB
                clear KB
                have BF : ∀ {X : World}, X.heap[b10]? = some (.cells #[.int .u16 (d : Int), .int .i64 l] 86 (0, 0)) → X.cell? ⟨b10, 0, none⟩ = some (.int .u16 (d : Int)) ∧ X.cell? ⟨b10, 1, none⟩ = some (.int .i64 l) ∧ X.frozen? ⟨b10, 0, none⟩ = false ∧ X.frozen? ⟨b10, 1, none⟩ = false := fun hb => ⟨(blk_cell hb 0).trans rfl, (blk_cell hb 1).trans rfl, blk_frozen hb 0, blk_frozen hb 1⟩
                have BFA := Aside0.mk @BF
                clear BF
                go_upto_region 18 with (fail)
                have hbA := blk_alloc BA9.out (.cells #[.int .i64 (k : Int)] 3)
                have hqA0 := (blk_cell hbA 0).trans rfl
                have hqA1 := (blk_cell hbA 1).trans rfl
                have hfA0 := blk_frozen hbA 0
                have hfA1 := blk_frozen hbA 1
                go_region_law ((refine step_append_lies _ (by rfl) _ _ _ (by rfl) w4.heap.size 3 i0 _ 1 8 Try.underlying24 hi hz0 hz1 hz2 rfl (by omega) u2 pre.length _ (by rfl) ((HO9.out.alloc _).drew) ⟨w9.heap.size, 0, none⟩ 1 1 [.int .i64 (k : Int)] (by rfl) (by rfl) (World.news_of_block (cs := #[.int .i64 (k : Int)]) (t := 3) (fr := (0, 0)) (blk_new w9 _)) (by simp [Value.oneCell']) (by omega) (by unfold maxLen; omega) (by omega) (by have h1 := HM9.out.be.size; have h2 := HBW4.out.size; simp; omega) (w9.heap.size + 1) (by simp) ?_; intro gg cap w10 hown hgrow hat hlt10; obtain ⟨q0_, q1_, q2_, q3_⟩ := KBA.out (by (with_reducible repeat (first | refine blk_drewN ?_ _ | refine blk_drew ?_ | refine blk_alloc ?_ _)); exact BA9.out) hgrow))
                all_goals
                  obtain ⟨hM', hB', hO'⟩ := hit_mem (x := .int .u16 (dk : Int)) (y := .int .i64 (k : Int)) HM9.out BA9.out ((Below.alloc (Below.refl _ _) (Nat.le_refl _) _).drew) HO9.out hgrow HB10.out HNO.out hown
                  have HMF := Aside0.mk hM'
                  have HBF := Aside0.mk hB'
                  have HOF := Aside0.mk hO'
                  clear q0_ q1_ q2_ q3_ hown hgrow hat hlt10 hM' hB' hO' KBA BFA hq0 hq1 hf0 hf1 hbA hqA0 hqA1 hfA0 hfA1 HM9 BA9 HO9 HNO
                  generalize ((w10.setCell ⟨b10, 0, none⟩ (.int .u16 (dk : Int))).setCell ⟨b10, 1, none⟩ (.int .i64 (k : Int))) = wf at *
                  go_wp2
                  go_roundg g1
                  case measure => omega
                  case rel =>
                    have hc9 : (9 - g1) * (10 * CT) = (9 - (g1 + 1)) * (10 * CT) + 10 * CT := by
                      rw [show 9 - g1 = (9 - (g1 + 1)) + 1 by omega, Nat.add_mul, Nat.one_mul]
                    have hk9 : (k + 1) * CT ≤ 9 * CT := Nat.mul_le_mul_right _ (by omega)
                    exact ⟨dk, k, pre ++ [k], c + CT + (k + 1) * CT, by omega, by omega, hdk, by omega, by omega, by omega, by simp; omega, HSUB2, ⟨by rw [← HO2.out, List.append_assoc]; rfl⟩, HMF, HBF, ⟨by rw [List.map_append, List.length_append]; exact HOF.out⟩⟩
            · have hbe : (s + rv == due) = false := beq_eq_false_iff_ne.2 heq
              have HN2 : Aside0 (nextB l0_0 a0_1 all d l k = false) := ⟨by rw [HNB.out, hds]; exact hbe⟩
              clear heq HORD2 HNB
              go_wp2
              go_region_held3 (fun w' => w'.cell? ⟨b9, 0, none⟩ = some (.func (.func 62) #[] #[.pointer (some ⟨b6, 0, none⟩), .pointer (some ⟨b7, 0, none⟩), .pointer (some ⟨gb, 0, none⟩), .pointer (some ⟨b8, 0, none⟩), .pointer (some ⟨b9, 0, none⟩)]) ∧ w'.cell? ⟨b10, 0, none⟩ = some (.int .u16 (d : Int))) (first | exact ⟨h9', ha0⟩ | go_keep) (first | (go_at_call 62; refine HR.out.mono ?_; rintro e w9 ⟨rfl, hc9, hca, HM9, BA9, HO9⟩))
              all_goals
                go_wp2
                go_roundg (l0_0.length - (k + 1))
                case measure => omega
                case rel => exact ⟨k + 1, by omega, by omega, by go_num, ⟨fun i hi => by
                  by_cases e : i = k
                  · rw [e]; exact HN2.out
                  · exact HLOW.out i (by omega)⟩, HM9, BA9, HO9⟩
          · have hds : decide (s < 1073741824) = false := decide_eq_false hs
            have HN2 : Aside0 (nextB l0_0 a0_1 all d l k = false) := ⟨by rw [HNB.out, hds]; rfl⟩
            clear HNB
            go_wp2
            go_quiet (fail)
            go_wp2
            go_roundg (l0_0.length - (k + 1))
            case measure => omega
            case rel => exact ⟨k + 1, by omega, by omega, by go_num, ⟨fun i hi => by
              by_cases e : i = k
              · rw [e]; exact HN2.out
              · exact HLOW.out i (by omega)⟩, ⟨(HM8.out.more (Nat.add_le_add_left (Nat.mul_le_mul_right _ (Nat.le_succ _)) _)).below (by repeat (first | exact Below.refl _ _ | apply pw_below_drewN | apply below_drew1))⟩, ⟨by (with_reducible repeat (first | refine blk_drewN ?_ _ | refine blk_drew ?_ | refine blk_alloc ?_ _)); exact BA8.out⟩, HO8⟩
        · have : k = l0_0.length := by omega
          subst this
          obtain ⟨i, h1, h2⟩ := HNX.out
          rw [HLOW.out i h1] at h2
          cases h2
end Go.Proofs.Ytkkmfcdikkiodaa.PC4
namespace Go.Proofs.Ytkkmfcdikkiodaa.PC4
open Go.RowKit Go.Proofs.YtkkmfcdikkiodaaW.PrintWords Go.Proofs.YtkkmfcdikkiodaaW.PrintLast Go.Proofs.YtkkmfcdikkiodaaW.PrintMore
attribute [local go_sem] max2_int min2_int max_two min_two max_three min_three max_four min_four
set_option linter.unusedVariables false
set_option linter.unusedSimpArgs false
def swarfkit_EqualInts.l0 : Nat → List Int → List Int → Bool → Int → Option (Bool)
 | 0, _, _, _, _ => none
 | k + 1, x0, x1, x5, x6 => if x5 = true then (if x6 < (x0.length : Int) then (if 0 ≤ x6 then (if x6 < (x1.length : Int) then (swarfkit_EqualInts.l0 k x0 x1 ((rd x0 x6) == (rd x1 x6)) (wrap64 (x6 + 1))) else (none)) else (none)) else (some x5)) else (some x5)
def swarfkit_EqualInts.f (k : Nat) (l0 : List Int) (l1 : List Int) : Option (Bool) := swarfkit_EqualInts.l0 k l0 l1 ((l0.length : Int) == (l1.length : Int)) 0
theorem swarfkit_EqualInts.mono_l : ∀ k, (∀ y0 y1 y2 y3, LeO (swarfkit_EqualInts.l0 k y0 y1 y2 y3) (swarfkit_EqualInts.l0 (k + 1) y0 y1 y2 y3))
 | 0 => fun _ _ _ _ r h => by simp [swarfkit_EqualInts.l0] at h
 | k + 1 => by
  have ih0 := swarfkit_EqualInts.mono_l k
  ·
   intro y0 y1 y2 y3
   unfold swarfkit_EqualInts.l0
   repeat' first
   | (with_reducible exact ih0 _ _ _ _)
   | (with_reducible exact LeO.refl _)
   | (with_reducible exact LeO.none _)
   | (with_reducible refine LeO.ite ?_ ?_)
   | (with_reducible refine LeO.bind ?_ (fun _ => ?_))
   | exact ih0 _ _ _ _
   | exact LeO.none _
   | refine LeO.ite ?_ ?_
   | refine LeO.bind ?_ (fun _ => ?_)
theorem swarfkit_EqualInts.mono : ∀ a0 a1 k, LeO (swarfkit_EqualInts.f k a0 a1) (swarfkit_EqualInts.f (k + 1) a0 a1) := by
 intro a0 a1 k
 have ih0 := swarfkit_EqualInts.mono_l k
 unfold swarfkit_EqualInts.f
 repeat' first
   | (with_reducible exact ih0 _ _ _ _)
   | (with_reducible exact LeO.refl _)
   | (with_reducible exact LeO.none _)
   | (with_reducible refine LeO.ite ?_ ?_)
   | (with_reducible refine LeO.bind ?_ (fun _ => ?_))
   | exact ih0 _ _ _ _
   | exact LeO.none _
   | refine LeO.ite ?_ ?_
   | refine LeO.bind ?_ (fun _ => ?_)
set_option maxHeartbeats 8000000 in
set_option maxRecDepth 100000 in
theorem swarfkit_EqualInts.calls (k : Nat) (A0 : Option Addr) (c0 : Nat) (l0 : List Int) (A1 : Option Addr) (c1 : Nat) (l1 : List Int) (r : Bool) (w : World) (hr0 : Kd.C (Kd.int .i64) w A0 l0.length l0) (hc0 : l0.length ≤ c0) (hr1 : Kd.C (Kd.int .i64) w A1 l1.length l1) (hc1 : l1.length ≤ c1) (h : swarfkit_EqualInts.f k l0 l1 = some r) :
  Calls Try.prog 22 #[.slice A0 l0.length c0, .slice A1 l1.length c1] w fun e w' => e = .returned (.bool r) ∧ Drawn0 w w' := by
 have HR0 := Aside0.mk hr0
 have HC0 := Aside0.mk hc0
 clear hr0 hc0
 have HR1 := Aside0.mk hr1
 have HC1 := Aside0.mk hc1
 clear hr1 hc1
 have H : (swarfkit_EqualInts.l0 k l0 l1 ((l0.length : Int) == (l1.length : Int)) 0) = some r := h
 clear h
 have H' := Aside0.mk H
 clear H
 go_enter Try.func22, Try.ntmps22
 go_wp2
 repeat (go_quiet (fail); try go_wp2)
 go_loopg [5, 6] k (fun kq v5 v6 w' => ∃ (x5_1 : Bool) (x6_1 : Int), v5 = .bool x5_1 ∧ v6 = .int .i64 x6_1 ∧ Aside0 (swarfkit_EqualInts.l0 kq l0 l1 x5_1 x6_1 = some r) ∧ Aside0 (kq ≤ k) ∧ Drawn0 w w')
 case atStart => exact ⟨(((l0.length : Int) == (l1.length : Int))), (0), (by first | rfl | (simp; done) | (simp [*]; done)), (by first | rfl | (simp; done) | (simp [*]; done)), H', ⟨Nat.le_refl _⟩, by repeat (first | exact Drawn0.refl _ | apply Drawn0.step)⟩
 case round =>
  clear H'
  obtain ⟨x5_1, x6_1, rfl, rfl, HA, HK1, ⟨m1, rfl⟩⟩ := hrel
  cases gk with
  | zero => exact absurd HA.out (by simp [swarfkit_EqualInts.l0])
  | succ k1 =>
   have H := HA.out
   clear HA
   simp only [swarfkit_EqualInts.l0] at H
   by_cases c3 : x5_1 = true
   ·
    subst c3
    have H1 : (if x6_1 < (l0.length : Int) then (if 0 ≤ x6_1 then (if x6_1 < (l1.length : Int) then (swarfkit_EqualInts.l0 k1 l0 l1 ((rd l0 x6_1) == (rd l1 x6_1)) (wrap64 (x6_1 + 1))) else (none)) else (none)) else (some true)) = some r := by rw [if_pos rfl] at H; exact H
    clear H
    have H := H1
    clear H1
    by_cases c4 : x6_1 < (l0.length : Int)
    ·
     rw [if_pos c4] at H
     have c4b0 : decide (x6_1 < (l0.length : Int)) = true := decide_eq_true c4
     clear c4
     by_cases c5 : 0 ≤ x6_1
     ·
      rw [if_pos c5] at H
      have c5b0 : decide (0 ≤ x6_1) = true := decide_eq_true c5
      clear c5
      by_cases c6 : x6_1 < (l1.length : Int)
      ·
       rw [if_pos c6] at H
       have c6b0 : decide (x6_1 < (l1.length : Int)) = true := decide_eq_true c6
       clear c6
       have H' := Aside0.mk H
       clear H
       have p121 : 0 ≤ (x6_1 : Int) := of_x
       have q121 : x6_1 < (l0.length : Int) := of_x
       obtain ⟨ad121, e121, hx121_0⟩ := Kd.at_int HR0.out x6_1 p121 q121
       cases e121
       replace p121 := eq_true p121
       replace q121 := eq_true q121
       have p122 : 0 ≤ (x6_1 : Int) := of_x
       have q122 : x6_1 < (l1.length : Int) := of_x
       obtain ⟨ad122, e122, hx122_0⟩ := Kd.at_int HR1.out x6_1 p122 q122
       cases e122
       replace p122 := eq_true p122
       replace q122 := eq_true q122
       go_wp2
       repeat (go_quiet (fail); try go_wp2)
       go_roundg k1
       case measure => have := HK1.out; omega
       case rel => exact ⟨(((rd l0 x6_1) == (rd l1 x6_1))), (wrap64 (x6_1 + 1)), (by first | rfl | (simp; done) | (simp [*]; done)), (by first | rfl | (simp; done) | (simp [*]; done)), H', ⟨by have := HK1.out; omega⟩, by repeat (first | exact Drawn0.refl _ | apply Drawn0.step)⟩
      ·
       rw [if_neg c6] at H
       exact absurd H (by simp)
     ·
      rw [if_neg c5] at H
      exact absurd H (by simp)
    ·
     rw [if_neg c4] at H
     have c4b0 : decide (x6_1 < (l0.length : Int)) = false := decide_eq_false c4
     clear c4
     obtain rfl := Option.some.inj H
     go_wp2
     repeat (go_quiet (fail); try go_wp2)
     go_ret
     exact ⟨by first | rfl | (simp; done) | (simp [*]; done), by repeat (first | exact Drawn0.refl _ | apply Drawn0.step)⟩
   ·
    replace c3 := Bool.eq_false_iff.mpr c3
    subst c3
    have H1 : (some false) = some r := by rw [if_neg (show ¬ (false = true) by decide)] at H; exact H
    clear H
    have H := H1
    clear H1
    obtain rfl := Option.some.inj H
    go_wp2
    repeat (go_quiet (fail); try go_wp2)
    go_ret
    exact ⟨by first | rfl | (simp; done) | (simp [*]; done), by repeat (first | exact Drawn0.refl _ | apply Drawn0.step)⟩
def swarflaw04_car.f  : Option ((List (S50)) × Int × (List (S61)) × Int × List Int) := some ((([(⟨([] : List Int), true, 1, 10⟩ : S50), (⟨(([0] : List Int)), true, 2, 20⟩ : S50), (⟨(([1] : List Int)), true, 1, 15⟩ : S50), (⟨([] : List Int), false, 3, 30⟩ : S50), (⟨(([0, 3] : List Int)), true, 3, 5⟩ : S50)] : List (S50))), 2, (([(⟨0, true⟩ : S61), (⟨1, true⟩ : S61), (⟨2, false⟩ : S61), (⟨4, false⟩ : S61)] : List (S61))), 1, (([2, 5] : List Int)))
set_option maxHeartbeats 8000000 in
set_option maxRecDepth 100000 in
theorem swarflaw04_car.calls  (r1 : List (S50)) (r2 : Int) (r3 : List (S61)) (r4 : Int) (r5 : List Int) (w : World) (h : swarflaw04_car.f  = some (r1, r2, r3, r4, r5)) :
  Calls Try.prog 55 #[] w fun e w' => ∃ v0_ v2_ v4_ : Value, e = .returned (.agg #[v0_, .int .i64 r2, v2_, .int .i64 r4, v4_]) ∧ Kd.N k50 50 w' w.heap.size (fun k_ => (w.heap.size ≤ k_) ∧ some k_ ≠ (v2_ : Value).ownBlock ∧ some k_ ≠ (v4_ : Value).ownBlock) v0_ r1 ∧ Kd.R k61 61 w' w.heap.size (fun k_ => (w.heap.size ≤ k_)) v2_ r3 ∧ Kd.R (Kd.int .i64) 3 w' w.heap.size (fun k_ => (w.heap.size ≤ k_)) v4_ r5 ∧ Below w.heap.size w w' := by
 have hu26 := Try.underlying26
 have hu50 := Try.underlying50
 have hu61 := Try.underlying61
 have HB := Aside0.mk (Below.refl w.heap.size w)
 have H : (some ((([(⟨([] : List Int), true, 1, 10⟩ : S50), (⟨(([0] : List Int)), true, 2, 20⟩ : S50), (⟨(([1] : List Int)), true, 1, 15⟩ : S50), (⟨([] : List Int), false, 3, 30⟩ : S50), (⟨(([0, 3] : List Int)), true, 3, 5⟩ : S50)] : List (S50))), 2, (([(⟨0, true⟩ : S61), (⟨1, true⟩ : S61), (⟨2, false⟩ : S61), (⟨4, false⟩ : S61)] : List (S61))), 1, (([2, 5] : List Int)))) = some (r1, r2, r3, r4, r5) := h
 clear h
 obtain ⟨y124, hy124⟩ : ∃ y_ : List Int, y_ = (([0] : List Int)) := ⟨_, rfl⟩
 replace H : (some ((([(⟨([] : List Int), true, 1, 10⟩ : S50), (⟨y124, true, 2, 20⟩ : S50), (⟨(([1] : List Int)), true, 1, 15⟩ : S50), (⟨([] : List Int), false, 3, 30⟩ : S50), (⟨(([0, 3] : List Int)), true, 3, 5⟩ : S50)] : List (S50))), 2, (([(⟨0, true⟩ : S61), (⟨1, true⟩ : S61), (⟨2, false⟩ : S61), (⟨4, false⟩ : S61)] : List (S61))), 1, (([2, 5] : List Int)))) = some (r1, r2, r3, r4, r5) := by first | (rw [hy124]; with_reducible exact H) | (have H2_ := (Option.bind_some _ _).symm.trans H; rw [hy124]; with_reducible exact H2_) | (have H2_ := (Option.bind_some _ _).symm.trans H; with_reducible exact H2_) | with_reducible exact H | (rw [hy124]; exact H) | exact H
 have Ny124 := Aside0.mk hy124
 clear hy124
 obtain ⟨y127, hy127⟩ : ∃ y_ : List Int, y_ = (([1] : List Int)) := ⟨_, rfl⟩
 replace H : (some ((([(⟨([] : List Int), true, 1, 10⟩ : S50), (⟨y124, true, 2, 20⟩ : S50), (⟨y127, true, 1, 15⟩ : S50), (⟨([] : List Int), false, 3, 30⟩ : S50), (⟨(([0, 3] : List Int)), true, 3, 5⟩ : S50)] : List (S50))), 2, (([(⟨0, true⟩ : S61), (⟨1, true⟩ : S61), (⟨2, false⟩ : S61), (⟨4, false⟩ : S61)] : List (S61))), 1, (([2, 5] : List Int)))) = some (r1, r2, r3, r4, r5) := by first | (rw [hy127]; with_reducible exact H) | (have H2_ := (Option.bind_some _ _).symm.trans H; rw [hy127]; with_reducible exact H2_) | (have H2_ := (Option.bind_some _ _).symm.trans H; with_reducible exact H2_) | with_reducible exact H | (rw [hy127]; exact H) | exact H
 have Ny127 := Aside0.mk hy127
 clear hy127
 obtain ⟨y130, hy130⟩ : ∃ y_ : List Int, y_ = (([0, 3] : List Int)) := ⟨_, rfl⟩
 replace H : (some ((([(⟨([] : List Int), true, 1, 10⟩ : S50), (⟨y124, true, 2, 20⟩ : S50), (⟨y127, true, 1, 15⟩ : S50), (⟨([] : List Int), false, 3, 30⟩ : S50), (⟨y130, true, 3, 5⟩ : S50)] : List (S50))), 2, (([(⟨0, true⟩ : S61), (⟨1, true⟩ : S61), (⟨2, false⟩ : S61), (⟨4, false⟩ : S61)] : List (S61))), 1, (([2, 5] : List Int)))) = some (r1, r2, r3, r4, r5) := by first | (rw [hy130]; with_reducible exact H) | (have H2_ := (Option.bind_some _ _).symm.trans H; rw [hy130]; with_reducible exact H2_) | (have H2_ := (Option.bind_some _ _).symm.trans H; with_reducible exact H2_) | with_reducible exact H | (rw [hy130]; exact H) | exact H
 have Ny130 := Aside0.mk hy130
 clear hy130
 obtain ⟨y133, hy133⟩ : ∃ y_ : List (S50), y_ = (([(⟨([] : List Int), true, 1, 10⟩ : S50), (⟨y124, true, 2, 20⟩ : S50), (⟨y127, true, 1, 15⟩ : S50), (⟨([] : List Int), false, 3, 30⟩ : S50), (⟨y130, true, 3, 5⟩ : S50)] : List (S50))) := ⟨_, rfl⟩
 replace H : (some (y133, 2, (([(⟨0, true⟩ : S61), (⟨1, true⟩ : S61), (⟨2, false⟩ : S61), (⟨4, false⟩ : S61)] : List (S61))), 1, (([2, 5] : List Int)))) = some (r1, r2, r3, r4, r5) := by first | (rw [hy133]; with_reducible exact H) | (have H2_ := (Option.bind_some _ _).symm.trans H; rw [hy133]; with_reducible exact H2_) | (have H2_ := (Option.bind_some _ _).symm.trans H; with_reducible exact H2_) | with_reducible exact H | (rw [hy133]; exact H) | exact H
 have Ny133 := Aside0.mk hy133
 clear hy133
 obtain ⟨y136, hy136⟩ : ∃ y_ : List (S61), y_ = (([(⟨0, true⟩ : S61), (⟨1, true⟩ : S61), (⟨2, false⟩ : S61), (⟨4, false⟩ : S61)] : List (S61))) := ⟨_, rfl⟩
 replace H : (some (y133, 2, y136, 1, (([2, 5] : List Int)))) = some (r1, r2, r3, r4, r5) := by first | (rw [hy136]; with_reducible exact H) | (have H2_ := (Option.bind_some _ _).symm.trans H; rw [hy136]; with_reducible exact H2_) | (have H2_ := (Option.bind_some _ _).symm.trans H; with_reducible exact H2_) | with_reducible exact H | (rw [hy136]; exact H) | exact H
 have Ny136 := Aside0.mk hy136
 clear hy136
 obtain ⟨y139, hy139⟩ : ∃ y_ : List Int, y_ = (([2, 5] : List Int)) := ⟨_, rfl⟩
 replace H : (some (y133, 2, y136, 1, y139)) = some (r1, r2, r3, r4, r5) := by first | (rw [hy139]; with_reducible exact H) | (have H2_ := (Option.bind_some _ _).symm.trans H; rw [hy139]; with_reducible exact H2_) | (have H2_ := (Option.bind_some _ _).symm.trans H; with_reducible exact H2_) | with_reducible exact H | (rw [hy139]; exact H) | exact H
 have Ny139 := Aside0.mk hy139
 clear hy139
 simp only [Option.some.injEq, Prod.mk.injEq] at H
 obtain ⟨rfl, rfl, rfl, rfl, rfl⟩ := H
 go_enter Try.func55, Try.ntmps55
 go_wp2_with (first | ((with_reducible refine gate_dst (N := 0) rfl ?_); refine box_event ?hg (N := 0) ?hd (cs := #[.slice none 0 0, .int .i64 0, .slice none 0 0, .int .i64 0, .slice none 0 0]) (t := 26) ?hr ?_; (case hd => rfl); (case hg => rfl); (case hr => first | (go_simp; done) | (go_simp; rfl)); intro gb123 hg w1 hbox hb; have BK123 := Aside0.mk (hbox); have GW123 := Aside0.mk ((by rw [hg]; exact (below_size (below_x HB.out)) : w.heap.size ≤ gb123)); have GE123 := Aside0.mk ((by rw [hg]; exact (below_size (below_x HB.out)) : w.heap.size ≤ gb123)); replace HB := Aside0.mk (below_step (below_x HB.out) hb); clear hb hbox hg) | ((with_reducible refine gate_dst (N := 2) rfl ?_); refine Kd.R_lit (Kd.int .i64) _ 3 ?hg (N := 2) ?hd (xs := ([0] : List Int)) (inner := [.int .i64 0]) (ok := fun _ => True) (okp := fun _ => True) ?hr ?hp (fun _ hk => hk) trivial (Below.refl _ _) (Nat.le_refl _) (by simp) ?_; (case hd => rfl); (case hg => rfl); (case hr => first | (go_simp; done) | (go_simp; rfl)); (case hp => exact (Reps.one (show Kd.M (Kd.int .i64) _ _ _ 0 [.int .i64 0] from rfl) (Reps.none _ _))); intro v125 w2 ho3 hb hg_ hnew_; clear hg_ hnew_; (first | rw [← Ny124.out] at ho3 | (simp only [Int.reduceToNat] at ho3; rw [← Ny124.out] at ho3)); have HO126 := Aside0.mk (Kd.R_lower (Kd.R_newM (M := fun k_ => (w.heap.size ≤ k_)) ho3 (below_size (by exact below_y HB.out)) (fun k_ h_ => h_)) (below_size (by exact below_y HB.out))); replace BK123 := Aside0.mk (blk_below (blk_x BK123.out) hb); replace HB := bl_x HB hb; clear hb ho3; obtain ⟨Ao4, co4, eo4⟩ := Kd.R_slice HO126.out; subst eo4) | ((with_reducible refine gate_dst (N := 4) rfl ?_); refine Kd.R_lit (Kd.int .i64) _ 3 ?hg (N := 4) ?hd (xs := ([1] : List Int)) (inner := [.int .i64 1]) (ok := fun _ => True) (okp := fun _ => True) ?hr ?hp (fun _ hk => hk) trivial (Below.refl _ _) (Nat.le_refl _) (by simp) ?_; (case hd => rfl); (case hg => rfl); (case hr => first | (go_simp; done) | (go_simp; rfl)); (case hp => exact (Reps.one (show Kd.M (Kd.int .i64) _ _ _ 1 [.int .i64 1] from rfl) (Reps.none _ _))); intro v128 w5 ho6 hb hg_ hnew_; clear hg_ hnew_; (first | rw [← Ny127.out] at ho6 | (simp only [Int.reduceToNat] at ho6; rw [← Ny127.out] at ho6)); have HO129 := Aside0.mk (Kd.R_lower (Kd.R_new' (Kd.R_newM (M := fun k_ => (w.heap.size ≤ k_)) ho6 (below_size (by exact below_y HB.out)) (fun k_ h_ => h_)) (Kd.R_lt (Kd.R_x HO126.out))) (below_size (by exact below_y HB.out))); replace HO126 := Aside0.mk (Kd.R_elder' (Kd.R_x HO126.out) (Kd.R_base ho6) hb); replace BK123 := Aside0.mk (blk_below (blk_x BK123.out) hb); replace HB := bl_x HB hb; clear hb ho6; obtain ⟨Ao7, co7, eo7⟩ := Kd.R_slice HO129.out; subst eo7) | ((with_reducible refine gate_dst (N := 7) rfl ?_); refine Kd.R_lit (Kd.int .i64) _ 3 ?hg (N := 7) ?hd (xs := ([0, 3] : List Int)) (inner := [.int .i64 0, .int .i64 3]) (ok := fun _ => True) (okp := fun _ => True) ?hr ?hp (fun _ hk => hk) trivial (Below.refl _ _) (Nat.le_refl _) (by simp) ?_; (case hd => rfl); (case hg => rfl); (case hr => first | (go_simp; done) | (go_simp; rfl)); (case hp => exact (Reps.one (show Kd.M (Kd.int .i64) _ _ _ 0 [.int .i64 0] from rfl) (Reps.one (show Kd.M (Kd.int .i64) _ _ _ 3 [.int .i64 3] from rfl) (Reps.none _ _)))); intro v131 w8 ho9 hb hg_ hnew_; clear hg_ hnew_; (first | rw [← Ny130.out] at ho9 | (simp only [Int.reduceToNat] at ho9; rw [← Ny130.out] at ho9)); have HO132 := Aside0.mk (Kd.R_lower (Kd.R_new' (Kd.R_new' (Kd.R_newM (M := fun k_ => (w.heap.size ≤ k_)) ho9 (below_size (by exact below_y HB.out)) (fun k_ h_ => h_)) (Kd.R_lt (Kd.R_x HO126.out))) (Kd.R_lt (Kd.R_x HO129.out))) (below_size (by exact below_y HB.out))); replace HO126 := Aside0.mk (Kd.R_elder' (Kd.R_x HO126.out) (Kd.R_base ho9) hb); replace HO129 := Aside0.mk (Kd.R_elder' (Kd.R_x HO129.out) (Kd.R_base ho9) hb); replace BK123 := Aside0.mk (blk_below (blk_x BK123.out) hb); replace HB := bl_x HB hb; clear hb ho9; obtain ⟨Ao10, co10, eo10⟩ := Kd.R_slice HO132.out; subst eo10) | ((with_reducible refine gate_dst (N := 9) rfl ?_); refine Kd.N_lit k50 _ 50 ?hg (N' := 9) ?hd (xs := ([(⟨([] : List Int), true, 1, 10⟩ : S50), (⟨y124, true, 2, 20⟩ : S50), (⟨y127, true, 1, 15⟩ : S50), (⟨([] : List Int), false, 3, 30⟩ : S50), (⟨y130, true, 3, 5⟩ : S50)] : List (S50))) (inner := [.slice none 0 0, .bool true, .int .i64 1, .int .i64 10, .slice Ao4 y124.length co4, .bool true, .int .i64 2, .int .i64 20, .slice Ao7 y127.length co7, .bool true, .int .i64 1, .int .i64 15, .slice none 0 0, .bool false, .int .i64 3, .int .i64 30, .slice Ao10 y130.length co10, .bool true, .int .i64 3, .int .i64 5]) (ok := (fun k_ => (w.heap.size ≤ k_) ∧ k_ ≠ gb123)) (okp := (fun k_ => (w.heap.size ≤ k_) ∧ k_ ≠ gb123)) ?hr ?hp (fun _ hk => hk) ((show ∀ k_, w8.heap.size ≤ k_ → (fun k_ => (w.heap.size ≤ k_) ∧ k_ ≠ gb123) k_ from fun k_ hk => ⟨(Nat.le_trans (below_size (by exact below_y HB.out)) hk), Kd.freshB (g := gb123) (o := .cells #[.slice none 0 0, .int .i64 0, .slice none 0 0, .int .i64 0, .slice none 0 0] 26 (0, 0)) (blk_x BK123.out) k_ hk⟩) _ (Nat.le_refl _)) (Below.refl _ _) (Nat.le_refl _) (by simp) ?_; (case hd => rfl); (case hg => rfl); (case hr => first | (go_simp; done) | (go_simp; rfl)); (case hp => exact (Reps.c4 (show Kd.FK k50 _ _ (⟨([] : List Int), true, 1, 10⟩ : S50) [.slice none 0 0, .bool true, .int .i64 1, .int .i64 10] from (k50_mkF _ _ (⟨([] : List Int), true, 1, 10⟩ : S50) (Nat.le_refl _) (Kd.F_nil _ _ _))) (Reps.c4 (show Kd.FK k50 _ _ (⟨y124, true, 2, 20⟩ : S50) [.slice Ao4 y124.length co4, .bool true, .int .i64 2, .int .i64 20] from (k50_mkF _ _ (⟨y124, true, 2, 20⟩ : S50) (Kd.R_reads' (Kd.R_mono (ok' := (fun k_ => (w.heap.size ≤ k_) ∧ k_ ≠ gb123)) (Kd.R_types (HO126.out) BK123.out (by decide)) (fun k_ hk => ⟨hk.1.1.1.1, hk.2⟩))).2.1 (Kd.R_F (Kd.R_mono (ok' := (fun k_ => (w.heap.size ≤ k_) ∧ k_ ≠ gb123)) (Kd.R_types (HO126.out) BK123.out (by decide)) (fun k_ hk => ⟨hk.1.1.1.1, hk.2⟩))))) (Reps.c4 (show Kd.FK k50 _ _ (⟨y127, true, 1, 15⟩ : S50) [.slice Ao7 y127.length co7, .bool true, .int .i64 1, .int .i64 15] from (k50_mkF _ _ (⟨y127, true, 1, 15⟩ : S50) (Kd.R_reads' (Kd.R_mono (ok' := (fun k_ => (w.heap.size ≤ k_) ∧ k_ ≠ gb123)) (Kd.R_types (HO129.out) BK123.out (by decide)) (fun k_ hk => ⟨hk.1.1.1.1, hk.2⟩))).2.1 (Kd.R_F (Kd.R_mono (ok' := (fun k_ => (w.heap.size ≤ k_) ∧ k_ ≠ gb123)) (Kd.R_types (HO129.out) BK123.out (by decide)) (fun k_ hk => ⟨hk.1.1.1.1, hk.2⟩))))) (Reps.c4 (show Kd.FK k50 _ _ (⟨([] : List Int), false, 3, 30⟩ : S50) [.slice none 0 0, .bool false, .int .i64 3, .int .i64 30] from (k50_mkF _ _ (⟨([] : List Int), false, 3, 30⟩ : S50) (Nat.le_refl _) (Kd.F_nil _ _ _))) (Reps.c4 (show Kd.FK k50 _ _ (⟨y130, true, 3, 5⟩ : S50) [.slice Ao10 y130.length co10, .bool true, .int .i64 3, .int .i64 5] from (k50_mkF _ _ (⟨y130, true, 3, 5⟩ : S50) (Kd.R_reads' (Kd.R_mono (ok' := (fun k_ => (w.heap.size ≤ k_) ∧ k_ ≠ gb123)) (Kd.R_types (HO132.out) BK123.out (by decide)) (fun k_ hk => ⟨hk.1.1.1.1, hk.2⟩))).2.1 (Kd.R_F (Kd.R_mono (ok' := (fun k_ => (w.heap.size ≤ k_) ∧ k_ ≠ gb123)) (Kd.R_types (HO132.out) BK123.out (by decide)) (fun k_ hk => ⟨hk.1.1.1.1, hk.2⟩))))) (Reps.none _ _))))))); intro v134 w11 ho12 hb hg_ hnew_; clear hg_ hnew_; (first | rw [← Ny133.out] at ho12 | (simp only [Int.reduceToNat] at ho12; rw [← Ny133.out] at ho12)); have HO135 := Aside0.mk (Kd.N_lower ho12 (below_size (by exact below_y HB.out))); replace BK123 := Aside0.mk (blk_below (blk_x BK123.out) hb); replace HB := bl_x HB hb; clear HO126 HO129 HO132; clear hb ho12) | ((with_reducible refine gate_dst (N := 14) rfl ?_); refine Kd.R_lit k61 _ 61 ?hg (N := 14) ?hd (xs := ([(⟨0, true⟩ : S61), (⟨1, true⟩ : S61), (⟨2, false⟩ : S61), (⟨4, false⟩ : S61)] : List (S61))) (inner := [.int .i64 0, .bool true, .int .i64 1, .bool true, .int .i64 2, .bool false, .int .i64 4, .bool false]) (ok := fun _ => True) (okp := fun _ => True) ?hr ?hp (fun _ hk => hk) trivial (Below.refl _ _) (Nat.le_refl _) (by simp) ?_; (case hd => rfl); (case hg => rfl); (case hr => first | (go_simp; done) | (go_simp; rfl)); (case hp => exact (Reps.c2 (show Kd.M k61 _ _ _ (⟨0, true⟩ : S61) [.int .i64 0, .bool true] from (k61_mkM _ _ _ (⟨0, true⟩ : S61) )) (Reps.c2 (show Kd.M k61 _ _ _ (⟨1, true⟩ : S61) [.int .i64 1, .bool true] from (k61_mkM _ _ _ (⟨1, true⟩ : S61) )) (Reps.c2 (show Kd.M k61 _ _ _ (⟨2, false⟩ : S61) [.int .i64 2, .bool false] from (k61_mkM _ _ _ (⟨2, false⟩ : S61) )) (Reps.c2 (show Kd.M k61 _ _ _ (⟨4, false⟩ : S61) [.int .i64 4, .bool false] from (k61_mkM _ _ _ (⟨4, false⟩ : S61) )) (Reps.none _ _)))))); intro v137 w13 ho14 hb hg_ hnew_; clear hg_ hnew_; (first | rw [← Ny136.out] at ho14 | (simp only [Int.reduceToNat] at ho14; rw [← Ny136.out] at ho14)); replace HO135 := Aside0.mk (Kd.N_elder' (Kd.N_x HO135.out) (Kd.R_base ho14) hb); have HO138 := Aside0.mk (Kd.R_lower (Kd.R_newM (M := fun k_ => (w.heap.size ≤ k_)) ho14 (below_size (by exact below_y HB.out)) (fun k_ h_ => h_)) (below_size (by exact below_y HB.out))); replace BK123 := Aside0.mk (blk_below (blk_x BK123.out) hb); replace HB := bl_x HB hb; clear hb ho14) | ((with_reducible refine gate_dst (N := 15) rfl ?_); refine Kd.R_lit (Kd.int .i64) _ 3 ?hg (N := 15) ?hd (xs := ([2, 5] : List Int)) (inner := [.int .i64 2, .int .i64 5]) (ok := fun _ => True) (okp := fun _ => True) ?hr ?hp (fun _ hk => hk) trivial (Below.refl _ _) (Nat.le_refl _) (by simp) ?_; (case hd => rfl); (case hg => rfl); (case hr => first | (go_simp; done) | (go_simp; rfl)); (case hp => exact (Reps.one (show Kd.M (Kd.int .i64) _ _ _ 2 [.int .i64 2] from rfl) (Reps.one (show Kd.M (Kd.int .i64) _ _ _ 5 [.int .i64 5] from rfl) (Reps.none _ _)))); intro v140 w15 ho16 hb hg_ hnew_; clear hg_ hnew_; (first | rw [← Ny139.out] at ho16 | (simp only [Int.reduceToNat] at ho16; rw [← Ny139.out] at ho16)); replace HO135 := Aside0.mk (Kd.N_elder' (Kd.N_x HO135.out) (Kd.R_base ho16) hb); replace HO138 := Aside0.mk (Kd.R_below (Kd.R_x HO138.out) hb); have HO141 := Aside0.mk (Kd.R_lower (Kd.R_newM (M := fun k_ => (w.heap.size ≤ k_)) ho16 (below_size (by exact below_y HB.out)) (fun k_ h_ => h_)) (below_size (by exact below_y HB.out))); replace BK123 := Aside0.mk (blk_below (blk_x BK123.out) hb); replace HB := bl_x HB hb; clear hb ho16; obtain ⟨Ao17, co17, eo17⟩ := Kd.R_slice HO141.out; subst eo17; obtain ⟨Ao18, co18, eo18⟩ := Kd.R_slice HO138.out; subst eo18; obtain ⟨Ao19, co19, eo19⟩ := Kd.N_slice HO135.out; subst eo19; obtain ⟨_, _, _, _, _⟩ := cz5 BK123; have hfz20_0 := blk_frozen BK123.out))
 refine bodyPost_ret (results_cell_row rfl _ _ gb123 26 #[.slice Ao19 y133.length co19, .int .i64 2, .slice Ao18 y136.length co18, .int .i64 1, .slice Ao17 y139.length co17] (0, 0) _ rfl (by (with_reducible repeat (first | refine blk_drewN ?_ _ | refine blk_drew ?_ | refine blk_alloc ?_ _)); refine blk_put (cs := #[.slice Ao19 y133.length co19, .int .i64 2, .slice Ao18 y136.length co18, .int .i64 1, .slice none 0 0]) ?_ 4 _ rfl; (with_reducible repeat (first | refine blk_drewN ?_ _ | refine blk_drew ?_ | refine blk_alloc ?_ _)); refine blk_put (cs := #[.slice Ao19 y133.length co19, .int .i64 2, .slice Ao18 y136.length co18, .int .i64 0, .slice none 0 0]) ?_ 3 _ rfl; (with_reducible repeat (first | refine blk_drewN ?_ _ | refine blk_drew ?_ | refine blk_alloc ?_ _)); refine blk_put (cs := #[.slice Ao19 y133.length co19, .int .i64 2, .slice none 0 0, .int .i64 0, .slice none 0 0]) ?_ 2 _ rfl; (with_reducible repeat (first | refine blk_drewN ?_ _ | refine blk_drew ?_ | refine blk_alloc ?_ _)); refine blk_put (cs := #[.slice Ao19 y133.length co19, .int .i64 0, .slice none 0 0, .int .i64 0, .slice none 0 0]) ?_ 1 _ rfl; (with_reducible repeat (first | refine blk_drewN ?_ _ | refine blk_drew ?_ | refine blk_alloc ?_ _)); refine blk_put (cs := #[.slice none 0 0, .int .i64 0, .slice none 0 0, .int .i64 0, .slice none 0 0]) ?_ 0 _ rfl; (with_reducible repeat (first | refine blk_drewN ?_ _ | refine blk_drew ?_ | refine blk_alloc ?_ _)); exact BK123.out) Try.underlying26 rfl (by kernel_rfl)) rfl ?_
 exact ⟨_, _, _, by first | rfl | (simp [errW_none, errW_some] <;> rfl) | (simp [*, errW_none, errW_some] <;> rfl), by (with_reducible repeat (first | apply Kd.N_alloc | apply Kd.N_drewN | apply Kd.N_drew)); exact Kd.N_mono (Kd.N_far (p := ⟨gb123, 4, none⟩) (Kd.N_far (p := ⟨gb123, 3, none⟩) (Kd.N_far (p := ⟨gb123, 2, none⟩) (Kd.N_far (p := ⟨gb123, 1, none⟩) (Kd.N_far (p := ⟨gb123, 0, none⟩) (Kd.N_mono HO135.out (fun k_ hk => (⟨hk, hk.1.1.2⟩ : _ ∧ k_ ≠ gb123))) (fun _ hk => hk.2) (.slice Ao19 y133.length co19)) (fun _ hk => hk.2) (.int .i64 2)) (fun _ hk => hk.2) (.slice Ao18 y136.length co18)) (fun _ hk => hk.2) (.int .i64 1)) (fun _ hk => hk.2) (.slice Ao17 y139.length co17)) (fun _ hk => ⟨hk.1.1.1.1, ⟨hk.1.1.2, hk.1.2⟩⟩), by (with_reducible repeat (first | apply Kd.R_alloc | apply Kd.R_drewN | apply Kd.R_drew)); exact Kd.R_mono (Kd.R_far (p := ⟨gb123, 4, none⟩) (Kd.R_far (p := ⟨gb123, 3, none⟩) (Kd.R_far (p := ⟨gb123, 2, none⟩) (Kd.R_far (p := ⟨gb123, 1, none⟩) (Kd.R_far (p := ⟨gb123, 0, none⟩) (Kd.R_types HO138.out BK123.out (by decide)) (fun _ hk => hk.2) (.slice Ao19 y133.length co19)) (fun _ hk => hk.2) (.int .i64 2)) (fun _ hk => hk.2) (.slice Ao18 y136.length co18)) (fun _ hk => hk.2) (.int .i64 1)) (fun _ hk => hk.2) (.slice Ao17 y139.length co17)) (fun _ hk => hk.1.1), by (with_reducible repeat (first | apply Kd.R_alloc | apply Kd.R_drewN | apply Kd.R_drew)); exact Kd.R_mono (Kd.R_far (p := ⟨gb123, 4, none⟩) (Kd.R_far (p := ⟨gb123, 3, none⟩) (Kd.R_far (p := ⟨gb123, 2, none⟩) (Kd.R_far (p := ⟨gb123, 1, none⟩) (Kd.R_far (p := ⟨gb123, 0, none⟩) (Kd.R_types HO141.out BK123.out (by decide)) (fun _ hk => hk.2) (.slice Ao19 y133.length co19)) (fun _ hk => hk.2) (.int .i64 2)) (fun _ hk => hk.2) (.slice Ao18 y136.length co18)) (fun _ hk => hk.2) (.int .i64 1)) (fun _ hk => hk.2) (.slice Ao17 y139.length co17)) (fun _ hk => hk.1.1), by exact below_y HB.out⟩
def swarflaw04_awake.f (k : Nat)  : Option (Bool) := (swarflaw04_car.f).bind fun bt142 => ((strip_Out.f bt142.1 bt142.2.1 bt142.2.2.1 bt142.2.2.2.1 bt142.2.2.2.2).bind fun bt153 => ((swarflaw04_car.f).bind fun bt157 => ((strip_Clean.f bt157.1 bt157.2.1 bt157.2.2.1 bt157.2.2.2.1 bt157.2.2.2.2).bind fun bt168 => ((swarflaw04_car.f).bind fun bt170 => ((strip_Work.f bt170.1 bt170.2.1 bt170.2.2.1 bt170.2.2.2.1 bt170.2.2.2.2).bind fun bt181 => (if bt153.2 = 0 then (if bt168.2 = 0 then (if bt181.2.2 = 0 then (if bt168.1 = 2 then (if bt181.2.1 = 74 then ((swarfkit_EqualInts.f k bt153.1 (([1, 3, 3, 3, 3] : List Int))).bind fun t189 => (if t189 = true then ((swarfkit_EqualInts.f k bt181.1 (([1, 2, 3, 4] : List Int))).bind fun t193 => (some t193)) else (some false))) else (some false)) else (some false)) else (some false)) else (some false)) else (some false)))))))
theorem swarflaw04_awake.mono : ∀ k, LeO (swarflaw04_awake.f k ) (swarflaw04_awake.f (k + 1) ) := by
 intro  k
 unfold swarflaw04_awake.f
 repeat' first
   | (with_reducible exact swarfkit_EqualInts.mono _ _ _)
   | (with_reducible exact LeO.refl _)
   | (with_reducible exact LeO.none _)
   | (with_reducible refine LeO.ite ?_ ?_)
   | (with_reducible refine LeO.bind ?_ (fun _ => ?_))
   | exact swarfkit_EqualInts.mono _ _ _
   | exact LeO.none _
   | refine LeO.ite ?_ ?_
   | refine LeO.bind ?_ (fun _ => ?_)
end Go.Proofs.Ytkkmfcdikkiodaa.PC4
namespace Go.Proofs.Ytkkmfcdikkiodaa.PC4
set_option linter.unusedVariables false
open Go.RowKit Go.Proofs.YtkkmfcdikkiodaaW.PrintWords Go.Proofs.YtkkmfcdikkiodaaW.PrintLast Go.Proofs.YtkkmfcdikkiodaaW.PrintMore
def feedA (s : Int) : Int := Go.bits .xor .u64 s (IntKind.u64.wrap (s * 8192))
def feedB (s : Int) : Int := Go.bits .xor .u64 s (s / 128)
def feedC (s : Int) : Int := Go.bits .xor .u64 s (IntKind.u64.wrap (s * 131072))
def feedM (s : Int) : Int := IntKind.u64.wrap (s * 2685821657736338717)
def feedN (s : Int) : Int := feedC (feedB (feedA (if s = 0 then 1 else s)))
def swarfkit_Feed_next.f (s0_0 : Int) : Option (Int × Int) := some (feedM (feedN s0_0), feedN s0_0)
structure FeedAt (w0 w W : World) (g : Nat) (x : Int) : Prop where
  is : IsS79 w0 W g x
  be : Below w0.heap.size w0 W
  ke : KeepBut w W g none
theorem FeedAt.next {w0 w W : World} {g : Nat} {x : Int} (h : FeedAt w0 w W g x) (y : Int) : FeedAt w0 w (W.setCell ⟨g, 0, none⟩ (.int .u64 y)) g y :=
  ⟨h.is.set_0 y, below_set h.be h.is.ge, h.ke.set_ 0 _⟩
theorem FeedAt.drew {w0 w W : World} {g : Nat} {x : Int} (h : FeedAt w0 w W g x) : FeedAt w0 w W.drew g x := ⟨h.is.drew, h.be.drew, h.ke⟩
theorem FeedAt.cell {w0 w W : World} {g : Nat} {x : Int} (h : FeedAt w0 w W g x) : W.cell? ⟨g, 0, none⟩ = some (.int .u64 x) := (blk_cell h.is.1 0).trans rfl
theorem FeedAt.free {w0 w W : World} {g : Nat} {x : Int} (h : FeedAt w0 w W g x) : W.frozen? ⟨g, 0, none⟩ = false := blk_frozen h.is.1 0
set_option maxHeartbeats 4000000 in
set_option maxRecDepth 100000 in
theorem feed_nz (g : Nat) (s0_0 : Int) (w0 w : World) (hI : IsS79 w0 w g s0_0) (hB : Below w0.heap.size w0 w) (hz : (s0_0 == 0) = false) :
    Calls Try.prog 56 #[.pointer (some ⟨g, 0, none⟩)] w fun e w' => e = .returned (.int .u64 (feedM (feedC (feedB (feedA s0_0))))) ∧ FeedAt w0 w w' g (feedC (feedB (feedA s0_0))) := by
  have hu79 := Try.underlying79
  have F := Aside0.mk (FeedAt.mk hI hB (KeepBut.refl w g none))
  have hc := F.out.cell
  have hf := F.out.free
  clear hI hB
  go_enter Try.func56, Try.ntmps56
  go_wp2
  go_region
  go_wp2
  have F1 := Aside0.mk (F.out.next (feedA s0_0)).drew
  clear hc hf
  generalize hx1 : bits BinOp.xor IntKind.u64 s0_0 (IntKind.u64.wrap (s0_0 * 8192)) = x1
  have hy1 : feedA s0_0 = x1 := hx1
  rw [hy1] at F1
  generalize hw1 : (w.setCell ⟨g, 0, none⟩ (.int .u64 x1)).drew = w1
  rw [hw1] at F1
  have hc1 := F1.out.cell
  have hf1 := F1.out.free
  have Hx1 := Aside0.mk hy1
  clear hx1 hw1 hy1
  go_region
  go_wp2
  have F2 := Aside0.mk (F1.out.next (feedB x1)).drew
  clear hc1 hf1
  generalize hx2 : bits BinOp.xor IntKind.u64 x1 (x1 / 128) = x2
  have hy2 : feedB x1 = x2 := hx2
  rw [hy2] at F2
  generalize hw2 : (w1.setCell ⟨g, 0, none⟩ (.int .u64 x2)).drew = w2
  rw [hw2] at F2
  have hc2 := F2.out.cell
  have hf2 := F2.out.free
  have Hx2 := Aside0.mk hy2
  clear hx2 hw2 hy2
  go_region
  have F3 := Aside0.mk (F2.out.next (feedC x2)).drew
  clear hc2 hf2
  generalize hx3 : bits BinOp.xor IntKind.u64 x2 (IntKind.u64.wrap (x2 * 131072)) = x3
  have hy3 : feedC x2 = x3 := hx3
  rw [hy3] at F3
  generalize hw3 : (w2.setCell ⟨g, 0, none⟩ (.int .u64 x3)).drew = w3
  rw [hw3] at F3
  have hc3 := F3.out.cell
  have Hx3 := Aside0.mk hy3
  clear hx3 hw3 hy3
  go_wp2
  go_ret
  rw [Hx1.out, Hx2.out, Hx3.out]
  exact ⟨rfl, F3.out⟩
set_option maxHeartbeats 4000000 in
set_option maxRecDepth 100000 in
theorem feed_z (g : Nat) (w0 w : World) (hI : IsS79 w0 w g 0) (hB : Below w0.heap.size w0 w) :
    Calls Try.prog 56 #[.pointer (some ⟨g, 0, none⟩)] w fun e w' => e = .returned (.int .u64 (feedM (feedC (feedB (feedA 1))))) ∧ FeedAt w0 w w' g (feedC (feedB (feedA 1))) := by
  have hu79 := Try.underlying79
  have F := Aside0.mk (FeedAt.mk hI hB (KeepBut.refl w g none))
  have hc := F.out.cell
  have hf := F.out.free
  clear hI hB
  go_enter Try.func56, Try.ntmps56
  go_wp2
  have F0 := Aside0.mk (F.out.next 1)
  clear hc hf
  generalize hw0 : w.setCell ⟨g, 0, none⟩ (.int .u64 1) = W0
  rw [hw0] at F0
  obtain ⟨x0, hx0⟩ : ∃ x0 : Int, x0 = 1 := ⟨_, rfl⟩
  rw [← hx0] at F0
  have Hx0 := Aside0.mk hx0
  clear hx0 hw0
  have hc0 := F0.out.cell
  have hf0 := F0.out.free
  go_region
  go_wp2
  have F1 := Aside0.mk (F0.out.next (feedA x0)).drew
  clear hc0 hf0
  generalize hx1 : bits BinOp.xor IntKind.u64 x0 (IntKind.u64.wrap (x0 * 8192)) = x1
  have hy1 : feedA x0 = x1 := hx1
  rw [hy1] at F1
  generalize hw1 : (W0.setCell ⟨g, 0, none⟩ (.int .u64 x1)).drew = w1
  rw [hw1] at F1
  have hc1 := F1.out.cell
  have hf1 := F1.out.free
  have Hx1 := Aside0.mk hy1
  clear hx1 hw1 hy1
  go_region
  go_wp2
  have F2 := Aside0.mk (F1.out.next (feedB x1)).drew
  clear hc1 hf1
  generalize hx2 : bits BinOp.xor IntKind.u64 x1 (x1 / 128) = x2
  have hy2 : feedB x1 = x2 := hx2
  rw [hy2] at F2
  generalize hw2 : (w1.setCell ⟨g, 0, none⟩ (.int .u64 x2)).drew = w2
  rw [hw2] at F2
  have hc2 := F2.out.cell
  have hf2 := F2.out.free
  have Hx2 := Aside0.mk hy2
  clear hx2 hw2 hy2
  go_region
  have F3 := Aside0.mk (F2.out.next (feedC x2)).drew
  clear hc2 hf2
  generalize hx3 : bits BinOp.xor IntKind.u64 x2 (IntKind.u64.wrap (x2 * 131072)) = x3
  have hy3 : feedC x2 = x3 := hx3
  rw [hy3] at F3
  generalize hw3 : (w2.setCell ⟨g, 0, none⟩ (.int .u64 x3)).drew = w3
  rw [hw3] at F3
  have hc3 := F3.out.cell
  have Hx3 := Aside0.mk hy3
  clear hx3 hw3 hy3
  go_wp2
  go_ret
  rw [← Hx0.out, Hx1.out, Hx2.out, Hx3.out]
  exact ⟨rfl, F3.out⟩
theorem swarfkit_Feed_next.calls (g : Nat) (s0_0 : Int) (r1 : Int) (r2 : Int) (w0 w : World) (hI : IsS79 w0 w g s0_0) (hB : Below w0.heap.size w0 w) (h : swarfkit_Feed_next.f s0_0 = some (r1, r2)) :
    Calls Try.prog 56 #[.pointer (some ⟨g, 0, none⟩)] w fun e w' => e = .returned (.int .u64 r1) ∧ IsS79 w0 w' g r2 ∧ Below w0.heap.size w0 w' ∧ KeepBut w w' g none := by
  simp only [swarfkit_Feed_next.f, feedN, Option.some.injEq, Prod.mk.injEq] at h
  obtain ⟨rfl, rfl⟩ := h
  by_cases hz : s0_0 = 0
  · subst hz
    exact (feed_z g w0 w hI hB).mono fun e w' ⟨he, hF⟩ => ⟨he, hF.is, hF.be, hF.ke⟩
  · rw [if_neg hz]
    exact (feed_nz g s0_0 w0 w hI hB (by simpa using hz)).mono fun e w' ⟨he, hF⟩ => ⟨he, hF.is, hF.be, hF.ke⟩
end Go.Proofs.Ytkkmfcdikkiodaa.PC4
namespace Go.Proofs.Ytkkmfcdikkiodaa.PC4
open Go.RowKit Go.Proofs.YtkkmfcdikkiodaaW.PrintWords Go.Proofs.YtkkmfcdikkiodaaW.PrintLast Go.Proofs.YtkkmfcdikkiodaaW.PrintMore
attribute [local go_sem] max2_int min2_int max_two min_two max_three min_three max_four min_four
set_option linter.unusedVariables false
set_option linter.unusedSimpArgs false
def swarfkit_Feed_Below.f (s0_0 : Int) (a1 : Int) : Option (Int × Int) := if a1 < 2 then (some (0, s0_0)) else ((swarfkit_Feed_next.f s0_0).bind fun bt194 => (if (IntKind.u64.wrap (a1)) = 0 then (none) else (some (wrap64 (Int.tmod (bt194.1 / 256) (IntKind.u64.wrap (a1))), bt194.2))))
set_option maxHeartbeats 8000000 in
set_option maxRecDepth 100000 in
theorem swarfkit_Feed_Below.calls (g : Nat) (s0_0 : Int) (a1 : Int) (r1 : Int) (r2 : Int) (w0 w : World) (hI : IsS79 w0 w g s0_0) (hB : Below w0.heap.size w0 w) (h : swarfkit_Feed_Below.f s0_0 a1 = some (r1, r2)) :
  Calls Try.prog 25 #[.pointer (some ⟨g, 0, none⟩), .int .i64 a1] w fun e w' => e = .returned (.int .i64 r1) ∧ IsS79 w0 w' g r2 ∧ Below w0.heap.size w0 w' ∧ KeepBut w w' g none := by
 have HI0 := Aside0.mk hI
 have HK := Aside0.mk (KeepBut.refl w g none)
 have HL := Aside0.mk hB.size
 clear hI
 have HW0 := Aside0.mk hB.size
 have HB := Aside0.mk hB
 clear hB
 have H : (if a1 < 2 then (some (0, s0_0)) else ((swarfkit_Feed_next.f s0_0).bind fun bt194 => (if (IntKind.u64.wrap (a1)) = 0 then (none) else (some (wrap64 (Int.tmod (bt194.1 / 256) (IntKind.u64.wrap (a1))), bt194.2))))) = some (r1, r2) := h
 clear h
 by_cases c3 : a1 < 2
 ·
  rw [if_pos c3] at H
  have c3b0 : decide (a1 < 2) = true := decide_eq_true c3
  clear c3
  simp only [Option.some.injEq, Prod.mk.injEq] at H
  obtain ⟨rfl, rfl⟩ := H
  go_enter Try.func25, Try.ntmps25
  go_wp2
  go_ret
  exact ⟨by first | rfl | (simp [errW_none, errW_some] <;> rfl) | (simp [*, errW_none, errW_some] <;> rfl), by exact IsS79.up HI0.out, by exact below_y HB.out, by exact keep_y HK.out⟩
 ·
  rw [if_neg c3] at H
  have c3b0 : decide (a1 < 2) = false := decide_eq_false c3
  clear c3
  replace H := Option.bind_eq_some_iff.mp H
  obtain ⟨⟨t194, t195⟩, A40, H⟩ := H
  try dsimp only at H
  have A4 := Aside0.mk A40
  clear A40
  by_cases c5 : (IntKind.u64.wrap (a1)) = 0
  ·
   rw [if_pos c5] at H
   exact absurd H (by simp)
  ·
   rw [if_neg c5] at H
   have c5b0 : ((IntKind.u64.wrap (a1)) == 0) = false := beq_eq_false_iff_ne.mpr c5
   have c5b1 : ((IntKind.u64.wrap (a1)) != 0) = true := bne_iff_ne.mpr c5
   simp only [Option.some.injEq, Prod.mk.injEq] at H
   obtain ⟨rfl, rfl⟩ := H
   go_enter Try.func25, Try.ntmps25
   go_wp2_with (first | ((with_reducible refine gate_callee (f := 56) rfl ?_); refine goesL_ (some 8) rfl rfl Try.func56 (by kernel_rfl) rfl #[.pointer (some ⟨g, 0, none⟩)] rfl (by (try simp only [List.map_toArray, List.map_cons, List.map_nil]); first | done | rfl | (simp only [List.length_drop, List.length_take]; rfl)) ?_; (with_reducible refine (swarfkit_Feed_next.calls g s0_0 t194 t195 w0 _ ?side1 ?side2 A4.out).mono ?_); (case side1 => exact IsS79.up HI0.out); (case side2 => exact below_y HB.out); rintro e w6 ⟨rfl, hi, hb, hk⟩; refine ⟨_, rfl, ?_⟩; replace HK := Aside0.mk (KeepBut.trans (by exact keep_y HK.out) hk (.inl rfl)); replace HB := Aside0.mk (hb); replace HI0 := Aside0.mk (hi); (try clear hb); (try clear hk); (try clear hi)))
   go_ret
   exact ⟨by first | rfl | (simp [errW_none, errW_some] <;> rfl) | (simp [*, errW_none, errW_some] <;> rfl), by exact IsS79.up HI0.out, by exact below_y HB.out, by exact keep_y HK.out⟩
def swarfkit_Feed_Either.f (s0_0 : Int) (l1 : List Int) : Option (Int × Int) := if (l1.length : Int) = 0 then (some (0, s0_0)) else ((swarfkit_Feed_Below.f s0_0 (l1.length : Int)).bind fun bt196 => (if 0 ≤ bt196.1 then (if bt196.1 < (l1.length : Int) then (some (rd l1 bt196.1, bt196.2)) else (none)) else (none)))
set_option maxHeartbeats 8000000 in
set_option maxRecDepth 100000 in
theorem swarfkit_Feed_Either.calls (g : Nat) (s0_0 : Int) (A1 : Option Addr) (c1 : Nat) (l1 : List Int) (r1 : Int) (r2 : Int) (w0 w : World) (hI : IsS79 w0 w g s0_0) (hB : Below w0.heap.size w0 w) (hr1 : Kd.C (Kd.int .i64) w A1 l1.length l1) (hc1 : l1.length ≤ c1) (hf1 : ∀ ad, A1 = some ad → 0 < l1.length → ad.block ≠ g) (h : swarfkit_Feed_Either.f s0_0 l1 = some (r1, r2)) :
  Calls Try.prog 24 #[.pointer (some ⟨g, 0, none⟩), .slice A1 l1.length c1] w fun e w' => e = .returned (.int .i64 r1) ∧ IsS79 w0 w' g r2 ∧ Below w0.heap.size w0 w' ∧ KeepBut w w' g none := by
 have HR1 := Aside0.mk hr1
 have HC1 := Aside0.mk hc1
 clear hr1 hc1
 have HI0 := Aside0.mk hI
 have HK := Aside0.mk (KeepBut.refl w g none)
 have HL := Aside0.mk hB.size
 clear hI
 have HW0 := Aside0.mk hB.size
 have HB := Aside0.mk hB
 clear hB
 have H : (if (l1.length : Int) = 0 then (some (0, s0_0)) else ((swarfkit_Feed_Below.f s0_0 (l1.length : Int)).bind fun bt196 => (if 0 ≤ bt196.1 then (if bt196.1 < (l1.length : Int) then (some (rd l1 bt196.1, bt196.2)) else (none)) else (none)))) = some (r1, r2) := h
 clear h
 by_cases c3 : (l1.length : Int) = 0
 ·
  rw [if_pos c3] at H
  have c3b0 : ((l1.length : Int) == 0) = true := beq_iff_eq.mpr c3
  have c3b1 : ((l1.length : Int) != 0) = false := bne_eq_false_iff_eq.mpr c3
  clear c3
  simp only [Option.some.injEq, Prod.mk.injEq] at H
  obtain ⟨rfl, rfl⟩ := H
  go_enter Try.func24, Try.ntmps24
  go_wp2
  go_ret
  exact ⟨by first | rfl | (simp [errW_none, errW_some] <;> rfl) | (simp [*, errW_none, errW_some] <;> rfl), by exact IsS79.up HI0.out, by exact below_y HB.out, by exact keep_y HK.out⟩
 ·
  rw [if_neg c3] at H
  have c3b0 : ((l1.length : Int) == 0) = false := beq_eq_false_iff_ne.mpr c3
  have c3b1 : ((l1.length : Int) != 0) = true := bne_iff_ne.mpr c3
  have c3b2 : ¬ (l1 = []) := fun h_ => c3 (by rw [h_]; rfl)
  replace H := Option.bind_eq_some_iff.mp H
  obtain ⟨⟨t196, t197⟩, A40, H⟩ := H
  try dsimp only at H
  have A4 := Aside0.mk A40
  clear A40
  by_cases c5 : 0 ≤ t196
  ·
   rw [if_pos c5] at H
   have c5b0 : decide (0 ≤ t196) = true := decide_eq_true c5
   clear c5
   by_cases c6 : t196 < (l1.length : Int)
   ·
    rw [if_pos c6] at H
    have c6b0 : decide (t196 < (l1.length : Int)) = true := decide_eq_true c6
    clear c6
    simp only [Option.some.injEq, Prod.mk.injEq] at H
    obtain ⟨rfl, rfl⟩ := H
    go_enter Try.func24, Try.ntmps24
    go_wp2_with (first | ((with_reducible refine gate_callee (f := 25) rfl ?_); refine goesL_ (some 12) rfl rfl Try.func25 (by kernel_rfl) rfl #[.pointer (some ⟨g, 0, none⟩), .int .i64 (l1.length : Int)] rfl (by (try simp only [List.map_toArray, List.map_cons, List.map_nil]); first | done | rfl | (simp only [List.length_drop, List.length_take]; rfl)) ?_; (with_reducible refine (swarfkit_Feed_Below.calls g s0_0 (l1.length : Int) t196 t197 w0 _ ?side1 ?side2 A4.out).mono ?_); (case side1 => exact IsS79.up HI0.out); (case side2 => exact below_y HB.out); rintro e w7 ⟨rfl, hi, hb, hk⟩; refine ⟨_, rfl, ?_⟩; replace HK := Aside0.mk (KeepBut.trans (by exact keep_y HK.out) hk (.inl rfl)); replace HB := Aside0.mk (hb); replace HI0 := Aside0.mk (hi); (try clear hb); (try clear hk); (try clear hi); have p198 : 0 ≤ (t196 : Int) := of_x; have q198 : t196 < (l1.length : Int) := of_x; obtain ⟨ad198, e198, hx198_0⟩ := Kd.at_int HR1.out t196 p198 q198; cases e198; replace hx198_0 := keep_cell HK.out hx198_0 (by first | (rw [add_block]; exact hf1 _ rfl (by omega)) | exact hf1 _ rfl (by omega) | exact hf1 ad198 rfl (by omega)); replace p198 := eq_true p198; replace q198 := eq_true q198))
    go_ret
    exact ⟨by first | rfl | (simp [errW_none, errW_some] <;> rfl) | (simp [*, errW_none, errW_some] <;> rfl), by exact IsS79.up HI0.out, by exact below_y HB.out, by exact keep_y HK.out⟩
   ·
    rw [if_neg c6] at H
    exact absurd H (by simp)
  ·
   rw [if_neg c5] at H
   exact absurd H (by simp)
end Go.Proofs.Ytkkmfcdikkiodaa.PC4
