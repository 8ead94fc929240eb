/- Lemmas on the way to this: Work finds the quickest order of work, or the error, as the reference does, and nothing is changed: for every car and every list of numbers of the size that Go can hold. -/
import Derived.Test.YtkkmfcdikkiodaaCStripWorks2
import Derived.Deep.RegionLaw
import Derived.Deep.AppendLies
import Derived.Test.YtkkmfcdikkiodaaCStripWorks1
import Derived.BigRegion
import Derived.RegionTactic
import Derived.ChangeAlike
namespace Go.Proofs.Ytkkmfcdikkiodaa.PC4
set_option linter.unusedVariables false
open Go.RowKit Go.Maps Go.Proofs.YtkkmfcdikkiodaaW.PrintWords Go.Proofs.YtkkmfcdikkiodaaW.PrintLast Go.Proofs.YtkkmfcdikkiodaaW.PrintMore
def GoodD (parts : List S50) (swap : Int) (all : Nat) (D : DataW Unit) : Prop :=
  IsMap D ∧ ∀ (d : Nat) (l : Int), d < 65536 → -1 ≤ l → l < parts.length → has D (keyL d l) = true → ∀ z, D.atKey (keyL d l) z = .lit (.int .i64 (restG parts swap all d l))
structure WorkMem (wB : World) (b1 b6 b7 b8 b9 bm : Nat) (A0 : Option Addr) (c0 : Nat) (parts : List S50) (swap : Int) (A2 : Option Addr) (c2 : Nat) (looks : List S61) (wrong : Int) (A4 : Option Addr) (c4 : Nat) (needs : List Int) (all c : Nat) (W : World) : Prop where
  be : Below wB.heap.size wB W
  f1 : W.heap[b1]? = some (.cells #[.slice A0 parts.length c0, .int .i64 swap, .slice A2 looks.length c2, .int .i64 wrong, .slice A4 needs.length c4] 26 (0, 0))
  f6 : W.heap[b6]? = some (.cells #[.int .u16 (all : Int)] 82 (0, 0))
  f7 : W.heap[b7]? = some (.cells #[.map (some bm)] 84 (0, 0))
  f8 : W.heap[b8]? = some (.cells #[.func (.func 58) #[] #[.pointer (some ⟨b1, 0, none⟩), .pointer (some ⟨b6, 0, none⟩)]] 90 (0, 0))
  f9 : W.heap[b9]? = some (.cells #[.func (.func 62) #[] #[.pointer (some ⟨b6, 0, none⟩), .pointer (some ⟨b7, 0, none⟩), .pointer (some ⟨b1, 0, none⟩), .pointer (some ⟨b8, 0, none⟩), .pointer (some ⟨b9, 0, none⟩)]] 91 (0, 0))
  mp : ∃ D n, W.ownsMap (H := Unit) Try.prog 86 (plainElem Try.prog 3) bm n D ∧ n ≤ c ∧ GoodD parts swap all D
section
variable {wB W W' : World} {b1 b6 b7 b8 b9 bm : Nat} {A0 : Option Addr} {c0 : Nat} {parts : List S50} {swap : Int} {A2 : Option Addr} {c2 : Nat} {looks : List S61} {wrong : Int} {A4 : Option Addr} {c4 : Nat} {needs : List Int} {all c : Nat}
theorem ownsMap_keep {b n : Nat} {D : DataW Unit} (h : W.ownsMap (H := Unit) Try.prog 86 (plainElem Try.prog 3) b n D) (he : W'.heap[b]? = W.heap[b]?) : W'.ownsMap (H := Unit) Try.prog 86 (plainElem Try.prog 3) b n D := by
  obtain ⟨es, clock, hb, r⟩ := h
  exact ⟨es, clock, he.trans hb, r⟩
theorem WorkMem.below (h : WorkMem wB b1 b6 b7 b8 b9 bm A0 c0 parts swap A2 c2 looks wrong A4 c4 needs all c W) (hb : Below W.heap.size W W') : WorkMem wB b1 b6 b7 b8 b9 bm A0 c0 parts swap A2 c2 looks wrong A4 c4 needs all c W' := by
  obtain ⟨D, n, ho, hn, hg⟩ := h.mp
  refine ⟨below_step h.be hb, blk_below h.f1 hb, blk_below h.f6 hb, blk_below h.f7 hb, blk_below h.f8 hb, blk_below h.f9 hb, D, n, ownsMap_keep ho (hb.block bm ?_), hn, hg⟩
  obtain ⟨es, clock, hb', _⟩ := ho
  exact (Array.getElem?_eq_some_iff.1 hb').1
theorem WorkMem.drewN (h : WorkMem wB b1 b6 b7 b8 b9 bm A0 c0 parts swap A2 c2 looks wrong A4 c4 needs all c W) (m : Nat) : WorkMem wB b1 b6 b7 b8 b9 bm A0 c0 parts swap A2 c2 looks wrong A4 c4 needs all c (W.drewN m) := h.below (pw_below_drewN (Below.refl _ _) m)
theorem WorkMem.more {c' : Nat} (h : WorkMem wB b1 b6 b7 b8 b9 bm A0 c0 parts swap A2 c2 looks wrong A4 c4 needs all c W) (hc : c ≤ c') : WorkMem wB b1 b6 b7 b8 b9 bm A0 c0 parts swap A2 c2 looks wrong A4 c4 needs all c' W := by
  obtain ⟨D, n, ho, hn, hg⟩ := h.mp
  exact ⟨h.be, h.f1, h.f6, h.f7, h.f8, h.f9, D, n, ho, Nat.le_trans hn hc, hg⟩
end
def costT : Nat → Nat
  | 0 => 1
  | f + 1 => 1 + 9 * costT f
set_option maxHeartbeats 16000000 in
set_option maxRecDepth 100000 in
theorem rest_calls (wB : World) (b1 b6 b7 b8 b9 bm : Nat) (A0 : Option Addr) (c0 : Nat) (parts : List S50) (swap : Int) (A2 : Option Addr) (c2 : Nat) (looks : List S61) (wrong : Int) (A4 : Option Addr) (c4 : Nat) (needs : List Int) (all : Nat)
    (hok : CarOK parts looks) (hwk : WorkOK parts swap) (hall : all < 65536) (hp : Kd.C k50 wB A0 parts.length parts) (hbm : wB.heap.size ≤ bm) :
    ∀ (f d : Nat) (l : Int) (c : Nat) (W : World), remM parts.length all d ≤ f → d < 65536 → -1 ≤ l → l < parts.length → c + costT f ≤ 1000000000000000 → WorkMem wB b1 b6 b7 b8 b9 bm A0 c0 parts swap A2 c2 looks wrong A4 c4 needs all c W →
    Calls Try.prog 62 #[.agg #[.int .u16 (d : Int), .int .i64 l], .pointer (some ⟨b6, 0, none⟩), .pointer (some ⟨b7, 0, none⟩), .pointer (some ⟨b1, 0, none⟩), .pointer (some ⟨b8, 0, none⟩), .pointer (some ⟨b9, 0, none⟩)] W fun e w' => e = .returned (.int .i64 (restG parts swap all d l)) ∧ WorkMem wB b1 b6 b7 b8 b9 bm A0 c0 parts swap A2 c2 looks wrong A4 c4 needs all (c + costT f) w' ∧ KeepBut W w' bm none := by
  intro f
  induction f using Nat.strongRecOn with
  | _ f ih =>
  intro d l c W hrem hd hl1 hl2 hcap hM
  have HM := Aside0.mk hM
  have HP := Aside0.mk hp
  have HOK := Aside0.mk hok
  have HWK := Aside0.mk hwk
  have IH := Aside0.mk ih
  have h9 := hok.few
  have hu86 := Try.underlying86
  have HG := Aside0.mk (restG_eq parts swap all d l)
  clear hM hp hok hwk ih
  by_cases hda : d = all
  · have hdb : (((d : Nat) : Int) == ((all : Nat) : Int)) = true := by rw [hda]; exact beq_self_eq_true _
    have HG0 : Aside0 (restG parts swap all d l = 0) := ⟨HG.out.trans (if_pos hda)⟩
    clear hda
    go_enter Try.func62, Try.ntmps62
    go_wp2_with ((with_reducible refine gate_dst (N := 6) rfl ?_); refine box_event ?hg (N := 6) ?hd (cs := #[.int .u16 (d : Int), .int .i64 l]) (t := 86) ?hr ?_; (case hd => rfl); (case hg => rfl); (case hr => first | (go_simp; done) | (go_simp; rfl)); intro ba hg w2 hbox hb2; have BA := Aside0.mk hbox; have HM2 := Aside0.mk (HM.out.below hb2); have HK2 := Aside0.mk (KeepBut.of_below hb2 bm none); clear hg hbox hb2 HM; have ha0 := (blk_cell BA.out 0).trans rfl; have ha1 := (blk_cell BA.out 1).trans rfl; have h6 := (blk_cell HM2.out.f6 0).trans rfl; have h7 := (blk_cell HM2.out.f7 0).trans rfl)
    go_ret
    exact ⟨by rw [HG0.out]; rfl, HM2.out.more (Nat.le_add_right _ _), HK2.out⟩
  have hdb : (((d : Nat) : Int) == ((all : Nat) : Int)) = false := beq_eq_false_iff_ne.2 (by omega)
  have HG1 : Aside0 (restG parts swap all d l = bestGo (restG parts swap all) (stepV parts swap all d l) d 1073741824 (List.range parts.length)) := ⟨HG.out.trans (if_neg hda)⟩
  clear hda HG
  obtain ⟨D, n, ho, hn, hgood⟩ := HM.out.mp
  have hkey := keyOf_at hd (show -9223372036854775808 ≤ l by omega) (show l ≤ 9223372036854775807 by omega)
  have HKEY := Aside0.mk hkey
  have HO := Aside0.mk ho
  have HGD := Aside0.mk hgood
  have HBL : Aside0 (bm < W.heap.size) := ⟨by obtain ⟨es, clock, hb', _⟩ := ho; exact (Array.getElem?_eq_some_iff.1 hb').1⟩
  clear hkey ho hgood
  cases hhas : has D (keyL d l) with
  | true =>
    have HCV := Aside0.mk (HGD.out.2 d l hd hl1 hl2 hhas (.lit (.int .i64 0)))
    go_enter Try.func62, Try.ntmps62
    go_wp2_with (first | ((with_reducible refine gate_dst (N := 6) rfl ?_); refine box_event ?hg (N := 6) ?hd (cs := #[.int .u16 (d : Int), .int .i64 l]) (t := 86) ?hr ?_; (case hd => rfl); (case hg => rfl); (case hr => first | (go_simp; done) | (go_simp; rfl)); intro ba hg w2 hbox hb2; have BA := Aside0.mk hbox; have HM2 := Aside0.mk (HM.out.below hb2); have HK2 := Aside0.mk (KeepBut.of_below hb2 bm none); have HO2 := Aside0.mk (ownsMap_keep HO.out (hb2.block bm HBL.out)); have HB2 := Aside0.mk hb2; clear hg hbox hb2 HM HO; have ha0 := (blk_cell BA.out 0).trans rfl; have ha1 := (blk_cell BA.out 1).trans rfl; have h6 := (blk_cell HM2.out.f6 0).trans rfl; have h7 := (blk_cell HM2.out.f7 0).trans rfl; have h1 := (blk_cell HM2.out.f1 0).trans rfl) | (at_lookup; refine wpList_lookup_own_ok_int _ rfl _ _ 84 rfl 86 3 .i64 keyed86 Try.underlying84 Try.underlying3 (zero3 _) bm n D rfl HO2.out (.agg #[.int .u16 (d : Int), .int .i64 l]) (keyL d l) rfl HKEY.out ?_; intro cv hat hwc; have HAT := Aside0.mk hat; clear hat hwc))
    go_ret
    have hcv := HAT.out.symm.trans HCV.out
    injection hcv with hcv
    injection hcv with _ hcv
    exact ⟨by rw [← hcv]; rfl, HM2.out.more (Nat.le_add_right _ _), HK2.out⟩
  | false =>
    go_enter Try.func62, Try.ntmps62
    go_wp2_with (first | ((with_reducible refine gate_dst (N := 6) rfl ?_); refine box_event ?hg (N := 6) ?hd (cs := #[.int .u16 (d : Int), .int .i64 l]) (t := 86) ?hr ?_; (case hd => rfl); (case hg => rfl); (case hr => first | (go_simp; done) | (go_simp; rfl)); intro ba hg w2 hbox hb2; have BA := Aside0.mk hbox; have HM2 := Aside0.mk (HM.out.below hb2); have HK2 := Aside0.mk (KeepBut.of_below hb2 bm none); have HO2 := Aside0.mk (ownsMap_keep HO.out (hb2.block bm HBL.out)); have HB2 := Aside0.mk hb2; clear hg hbox hb2 HM HO; have ha0 := (blk_cell BA.out 0).trans rfl; have ha1 := (blk_cell BA.out 1).trans rfl; have h6 := (blk_cell HM2.out.f6 0).trans rfl; have h7 := (blk_cell HM2.out.f7 0).trans rfl; have h1 := (blk_cell HM2.out.f1 0).trans rfl) | (at_lookup; refine wpList_lookup_own_ok_int _ rfl _ _ 84 rfl 86 3 .i64 keyed86 Try.underlying84 Try.underlying3 (zero3 _) bm n D rfl HO2.out (.agg #[.int .u16 (d : Int), .int .i64 l]) (keyL d l) rfl HKEY.out ?_; intro cv hat hwc; have HAT := Aside0.mk hat; clear hat hwc))
    obtain ⟨t0, ht0, hcost⟩ : ∃ t0, (∀ f', f = f' + 1 → t0 = costT f') ∧ costT f = 1 + 9 * t0 := by
      cases f with
      | zero => exact ⟨0, fun f' e => (by cases e), rfl⟩
      | succ f => exact ⟨costT f, fun f' e => (by injection e with e; rw [e]), rfl⟩
    have HNE : Aside0 (ba ≠ bm) := ⟨by
      intro e
      obtain ⟨es, clock, hb', _⟩ := HO2.out
      have hba := BA.out
      rw [e, hb'] at hba
      cases hba⟩
    have HCOST := Aside0.mk hcost
    have HT0 := Aside0.mk ht0
    clear ht0 ha0 ha1 h6 h7 h1 HAT HB2
    rw [hcost] at hcap
    clear hcost
    go_loopg [10, 28] parts.length (fun gk v10 v28 wr => ∃ k : Nat, k ≤ parts.length ∧ parts.length - k ≤ gk ∧ v28 = .int .i64 k ∧ v10 = .int .i64 (bestGo (restG parts swap all) (stepV parts swap all d l) d 1073741824 (List.range k)) ∧ Aside0 (WorkMem wB b1 b6 b7 b8 b9 bm A0 c0 parts swap A2 c2 looks wrong A4 c4 needs all (c + k * t0) wr) ∧ Aside0 (KeepBut W wr bm none) ∧ Aside0 (wr.heap[ba]? = some (.cells #[.int .u16 (d : Int), .int .i64 l] 86 (0, 0))))
    case atStart => exact ⟨0, Nat.zero_le _, by omega, rfl, rfl, ⟨HM2.out.more (by omega)⟩, HK2, BA⟩
    case round =>
      clear HM2 HK2 BA HO2
      obtain ⟨k, hk, hgk, rfl, rfl, HM, HK, BA⟩ := hrel
      have hbb : 0 ≤ bestGo (restG parts swap all) (stepV parts swap all d l) d 1073741824 (List.range k) ∧ bestGo (restG parts swap all) (stepV parts swap all d l) d 1073741824 (List.range k) ≤ 1073741824 := bestGo_bd _ _ _ _ _ (by omega) (fun i hi => (step_lt HWK.out (by have := List.mem_range.1 hi; omega)).1) (fun i hi => (restG_bd HWK.out all _ _).1)
      have HSN := Aside0.mk (bestGo_snoc (restG parts swap all) (stepV parts swap all d l) d k (List.range k) 1073741824)
      rw [← List.range_succ] at HSN
      generalize hbe : bestGo (restG parts swap all) (stepV parts swap all d l) d 1073741824 (List.range k) = best at *
      have HBE := Aside0.mk hbe
      clear hbe
      by_cases hlt : k < parts.length
      · have hlz : (k : Int) < (parts.length : Int) := by omega
        have hsl := step_lt HWK.out (all := all) (d := d) (l := l) hlt
        have HSC := Aside0.mk (fun h => step_can (parts := parts) (swap := swap) (all := all) (d := d) (l := l) (i := k) h)
        have HCALL := Aside0.mk (step_calls b1 b6 A0 c0 parts swap A2 c2 looks wrong A4 c4 needs all d l k wr HOK.out HWK.out hall hd hl1 hl2 hlt (Kd.C_below HP.out HM.out.be) HM.out.f1 HM.out.f6)
        generalize stepV parts swap all d l k = s at *
        have ha0 := (blk_cell BA.out 0).trans rfl
        have ha1 := (blk_cell BA.out 1).trans rfl
        have h8 := (blk_cell HM.out.f8 0).trans rfl
        go_wp2_with (fail)
        refine HCALL.out.mono ?_
        rintro e w4 ⟨rfl, hb4⟩
        have HM4 := Aside0.mk (HM.out.below hb4)
        have HK4 := Aside0.mk (HK.out.trans (KeepBut.of_below hb4 bm none) (.inl rfl))
        have BA4 := Aside0.mk (blk_below BA.out hb4)
        clear ha0 ha1 h8 hb4 HM HK BA HCALL
        by_cases hs : s < 1073741824
        · obtain ⟨hc1, hc2, _⟩ := HSC.out hs
          have hrs := remM_step hlt hc1 hc2
          rw [if_pos hs] at HSN
          obtain ⟨f', rfl⟩ : ∃ f', f = f' + 1 := ⟨f - 1, by omega⟩
          have ht0 := HT0.out f' rfl
          have hp16 : 2 ^ k < 65536 := Nat.pow_lt_pow_right (n := 16) (by decide) (by omega)
          have hdk : d ||| 2 ^ k < 65536 := Nat.or_lt_two_pow (n := 16) hd hp16
          have hshl : IntKind.u16.wrap (2 ^ k) = ((2 ^ k : Nat) : Int) := by have := shl_len (n := k) (by omega); rwa [Nat.min_eq_left (by omega)] at this
          have hor : Go.bits .or .u16 (d : Int) ((2 ^ k : Nat) : Int) = ((d ||| 2 ^ k : Nat) : Int) := u16_or d (2 ^ k) hd hp16
          have hrb := restG_bd HWK.out all (d ||| 2 ^ k) (k : Int)
          have HR := Aside0.mk ((IH.out f' (by omega) (d ||| 2 ^ k) (k : Int) (c + k * t0) w4.drew (by omega) hdk (by omega) hlz (by
              have : k * t0 ≤ 8 * t0 := Nat.mul_le_mul_right _ (by omega)
              rw [← ht0]; omega) (HM4.out.below (below_drew1 (Below.refl _ _)))).mono (R' := fun e w' => e = .returned (.int .i64 (restG parts swap all (d ||| 2 ^ k) (k : Int))) ∧ w'.cell? ⟨b9, 0, none⟩ = some (.func (.func 62) #[] #[.pointer (some ⟨b6, 0, none⟩), .pointer (some ⟨b7, 0, none⟩), .pointer (some ⟨b1, 0, none⟩), .pointer (some ⟨b8, 0, none⟩), .pointer (some ⟨b9, 0, none⟩)]) ∧ w'.cell? ⟨ba, 0, none⟩ = some (.int .u16 (d : Int)) ∧ Aside0 (WorkMem wB b1 b6 b7 b8 b9 bm A0 c0 parts swap A2 c2 looks wrong A4 c4 needs all (c + (k + 1) * t0) w') ∧ Aside0 (KeepBut W w' bm none) ∧ Aside0 (w'.heap[ba]? = some (.cells #[.int .u16 (d : Int), .int .i64 l] 86 (0, 0))))
            (fun e w' ⟨h1, h2, h3⟩ => by
              have hba := KeepBut.blk h3 (show w4.drew.heap[ba]? = _ from BA4.out) HNE.out (by simp)
              refine ⟨h1, (blk_cell h2.f9 0).trans rfl, (blk_cell hba 0).trans rfl, ⟨?_⟩, ⟨HK4.out.trans ((KeepBut.of_below (below_drew1 (Below.refl w4.heap.size w4)) bm none).trans h3 (.inl rfl)) (.inl rfl)⟩, ⟨hba⟩⟩
              rw [← ht0, Nat.add_assoc] at h2
              rw [Nat.add_mul, Nat.one_mul]
              exact h2))
          generalize hgr : restG parts swap all (d ||| 2 ^ k) (k : Int) = rv at *
          clear hgr
          generalize ((2 ^ k : Nat) : Int) = p2 at *
          generalize d ||| 2 ^ k = dk at *
          have h9' := (blk_cell HM4.out.f9 0).trans rfl
          have ha0 := (blk_cell BA4.out 0).trans rfl
          clear HM4 HK4 BA4 hc1 hc2 hrs hp16 hdk ht0 HSC
          go_wp2
          go_region_held3 (fun w' => w'.cell? ⟨b9, 0, none⟩ = some (.func (.func 62) #[] #[.pointer (some ⟨b6, 0, none⟩), .pointer (some ⟨b7, 0, none⟩), .pointer (some ⟨b1, 0, none⟩), .pointer (some ⟨b8, 0, none⟩), .pointer (some ⟨b9, 0, none⟩)]) ∧ w'.cell? ⟨ba, 0, none⟩ = some (.int .u16 (d : Int))) (first | exact ⟨h9', ha0⟩ | go_keep) (first | (go_at_call 62; refine HR.out.mono ?_; rintro e w5 ⟨rfl, hc9, hca, HM5, HK5, BA5⟩))
          have hmin : (if IntKind.i64.wrap (s + rv) < best then IntKind.i64.wrap (s + rv) else best) = bestGo (restG parts swap all) (stepV parts swap all d l) d 1073741824 (List.range (k + 1)) := by
            have hw : IntKind.i64.wrap (s + rv) = s + rv := IntWalk.i64_in _ (by omega)
            rw [HSN.out, hw]
            split <;> omega
          all_goals
            rw [hmin]
            clear hmin
            go_wp2
            go_roundg (parts.length - (k + 1))
            case measure => omega
            case rel => exact ⟨k + 1, by omega, by omega, by go_num, rfl, HM5, HK5, BA5⟩
        · rw [if_neg hs] at HSN
          go_wp2
          go_roundg (parts.length - (k + 1))
          case measure => omega
          case rel => exact ⟨k + 1, by omega, by omega, by go_num, by rw [HSN.out], ⟨HM4.out.more (Nat.add_le_add_left (Nat.mul_le_mul_right _ (Nat.le_succ _)) _)⟩, HK4, BA4⟩
      · have : k = parts.length := by omega
        subst this
        have HG2 := Aside0.mk (HG1.out.trans HBE.out)
        clear HSN HBE HG1
        obtain ⟨D2, n2, ho2, hn2, hg2⟩ := HM.out.mp
        have hwf : (Lit.int .i64 best).wf = true := WalkArith.wf_i64 ⟨by omega, by omega⟩
        have hkt : parts.length * t0 ≤ 9 * t0 := Nat.mul_le_mul_right _ h9
        have HO2 := Aside0.mk ho2
        have HG3 := Aside0.mk hg2
        have HWF := Aside0.mk hwf
        have ha0 := (blk_cell BA.out 0).trans rfl
        have ha1 := (blk_cell BA.out 1).trans rfl
        have h7 := (blk_cell HM.out.f7 0).trans rfl
        clear ho2 hg2 hwf
        have hfin : ∀ w1 : World, w1.ownsMap (H := Unit) Try.prog 86 (plainElem Try.prog 3) bm (n2 + 1) (D2.put (keyL d l) (.lit (.int .i64 best))) → wr.grownBy w1 (some bm) → WorkMem wB b1 b6 b7 b8 b9 bm A0 c0 parts swap A2 c2 looks wrong A4 c4 needs all (c + costT f) w1 ∧ KeepBut W w1 bm none := by
          intro w1 ho1 hgr
          have hkb : KeepBut wr w1 bm none := ⟨hgr.size, fun i hi h1 _ => hgr.block i hi (fun e => h1 (by injection e))⟩
          have hne : ∀ (g : Nat) (cs : Array Value) (t : TypeId), wr.heap[g]? = some (.cells cs t (0, 0)) → g ≠ bm := by
            intro g cs t hg e
            obtain ⟨es, clock, hb', _⟩ := HO2.out
            rw [e, hb'] at hg
            cases hg
          refine ⟨⟨?_, KeepBut.blk hkb HM.out.f1 (hne _ _ _ HM.out.f1) (by simp), KeepBut.blk hkb HM.out.f6 (hne _ _ _ HM.out.f6) (by simp), KeepBut.blk hkb HM.out.f7 (hne _ _ _ HM.out.f7) (by simp), KeepBut.blk hkb HM.out.f8 (hne _ _ _ HM.out.f8) (by simp), KeepBut.blk hkb HM.out.f9 (hne _ _ _ HM.out.f9) (by simp), _, _, ho1, ?_, ?_⟩, HK.out.trans hkb (.inl rfl)⟩
          · have hb := HM.out.be
            exact ⟨hgr.os.trans hb.os, hgr.tape.trans hb.tape, hgr.output.trans hb.output, Nat.le_trans hb.size hgr.size, fun i hi => (hgr.block i (Nat.lt_of_lt_of_le hi hb.size) (fun e => by injection e with e; omega)).trans (hb.block i hi)⟩
          · rw [HCOST.out]; omega
          · refine ⟨?_, fun d' l' hd' h1' h2' hh z => ?_⟩
            · obtain ⟨es, hes⟩ := HG3.out.1
              rw [hes]; exact ⟨_, rfl⟩
            · by_cases he : d' = d ∧ l' = l
              · obtain ⟨rfl, rfl⟩ := he
                rw [atKey_put_same HG3.out.1 (show WideAt.IsKeyLit (keyL d' l') from trivial), HG2.out]
              · have hne2 : keyL d' l' ≠ keyL d l := fun e => he (keyL_inj hd' (by omega) (by omega) hd (by omega) (by omega) e)
                rw [has_put_other hne2] at hh
                rw [atKey_put_other hne2]
                exact HG3.out.2 d' l' hd' h1' h2' hh z
        have HFIN := Aside0.mk hfin
        clear hfin
        go_wp2_with (at_mapUpdate; refine wpList_mapUpdate_own _ rfl _ _ _ 84 rfl 86 3 keyed86 Try.underlying84 _ bm n2 _ rfl HO2.out (by unfold maxLen; omega) _ _ _ rfl rfl HKEY.out _ [] (plainElem_int Try.underlying3 HWF.out) ?_; intro w1 hown1 hgrow1; have HZ := Aside0.mk (HFIN.out w1 hown1 hgrow1); clear hown1 hgrow1)
        go_ret
        exact ⟨by rw [HG2.out]; rfl, HZ.out.1, HZ.out.2⟩
theorem leftGo_bits (parts : List S50) (out : List Int) (n : Nat) : ∀ m s, m ≤ n → s < 2 ^ n → leftGo parts out m s < 2 ^ n := by
  intro m
  induction m with
  | zero => intro s _ h; exact h
  | succ m ih =>
    intro s hm hs
    refine ih _ (by omega) ?_
    split
    · exact Nat.or_lt_two_pow hs (Nat.pow_lt_pow_right (by decide) (by omega))
    · exact hs
theorem leftM_lt (parts : List S50) (out : List Int) : leftM parts out < 2 ^ parts.length := leftGo_bits parts out _ _ 0 (Nat.le_refl _) (Nat.two_pow_pos _)
theorem workOK_of_check {parts : List S50} {swap : Int} {looks : List S61} {wrong : Int} {needs : List Int} (h : checkE parts swap looks wrong needs = 0) : WorkOK parts swap ∧ Rising parts := by
  obtain ⟨h0, h9, hp, hsw, _⟩ := checkE_zero h
  have hg : ∀ i (hi : i < parts.length), parts.getD i z50 = parts[i] := fun i hi => by rw [List.getD, List.getElem?_eq_getElem hi]; rfl
  refine ⟨⟨inB_true.1 hsw, fun i hi => ?_⟩, fun i hi x hx => ?_⟩
  · have := (partsE_zero parts 0 hp i hi).2.2
    rw [hg i hi]
    exact inB_true.1 this
  · have h1 := (partsE_zero parts 0 hp i hi).1
    rw [hg i hi] at hx
    have := rise_zero _ _ (by decide) _ _ h1 x hx
    omega
theorem hit_mem {wB W X w10 : World} {b1 b6 b7 b8 b9 bm b10 base : Nat} {A0 : Option Addr} {c0 : Nat} {parts : List S50} {swap : Int} {A2 : Option Addr} {c2 : Nat} {looks : List S61} {wrong : Int} {A4 : Option Addr} {c4 : Nat} {needs : List Int} {all c n n' : Nat} {u v x0 y0 x y : Value} {xs xs' : List Value}
    (hM : WorkMem wB b1 b6 b7 b8 b9 bm A0 c0 parts swap A2 c2 looks wrong A4 c4 needs all c W)
    (hBA : W.heap[b10]? = some (.cells #[x0, y0] 86 (0, 0))) (hX : Below W.heap.size W X) (ho : W.ownsRow wB.heap.size 3 1 u n xs) (hg : X.grownBy w10 u.ownBlock) (hb : wB.heap.size ≤ b10) (hne : some b10 ≠ u.ownBlock)
    (hown : w10.ownsRow base 3 1 v n' xs') :
    WorkMem wB b1 b6 b7 b8 b9 bm A0 c0 parts swap A2 c2 looks wrong A4 c4 needs all c ((w10.setCell ⟨b10, 0, none⟩ x).setCell ⟨b10, 1, none⟩ y) ∧ ((w10.setCell ⟨b10, 0, none⟩ x).setCell ⟨b10, 1, none⟩ y).heap[b10]? = some (.cells #[x, y] 86 (0, 0)) ∧ ((w10.setCell ⟨b10, 0, none⟩ x).setCell ⟨b10, 1, none⟩ y).ownsRow base 3 1 v n' xs' := by
  have hk0 : KeepBut W w10 b10 u.ownBlock := (KeepBut.of_below hX b10 u.ownBlock).trans (KeepBut.of_grown hg b10) (.inl rfl)
  have hk := (hk0.set_ 0 x).set_ 1 y
  have h10 : w10.heap[b10]? = some (.cells #[x0, y0] 86 (0, 0)) := (hg.block b10 (Nat.lt_of_lt_of_le (blk_lt hBA) hX.size) hne).trans ((hX.block b10 (blk_lt hBA)).trans hBA)
  have tt : ∀ {g : Nat} {cs : Array Value} {t : TypeId}, W.heap[g]? = some (.cells cs t (0, 0)) → t ≠ 86 → t ≠ 3 → ((w10.setCell ⟨b10, 0, none⟩ x).setCell ⟨b10, 1, none⟩ y).heap[g]? = some (.cells cs t (0, 0)) := by
    intro g cs t hgc h86 h3
    refine KeepBut.blk hk hgc ?_ ?_
    · rintro rfl
      rw [hBA] at hgc
      injection hgc with e
      injection e with _ e
      exact h86 e.symm
    · intro e
      obtain ⟨cells, hcc⟩ := own_typed ho g e.symm
      rw [hgc] at hcc
      injection hcc with e2
      injection e2 with _ e2
      exact h3 e2
  have hbm : ((w10.setCell ⟨b10, 0, none⟩ x).setCell ⟨b10, 1, none⟩ y).heap[bm]? = W.heap[bm]? := by
    obtain ⟨D, m, ⟨es, clock, hb', r⟩, _⟩ := hM.mp
    refine hk.2 bm (blk_lt hb') ?_ ?_
    · rintro rfl
      rw [hBA] at hb'
      cases hb'
    · intro e
      obtain ⟨cells, hcc⟩ := own_typed ho bm e.symm
      rw [hb'] at hcc
      cases hcc
  have hbe : Below wB.heap.size wB w10 := by
    refine Below.grown (below_step hM.be hX) hg (Nat.le_trans hM.be.size hX.size) (fun k e => ?_)
    rcases own_base' ho with h | ⟨b, h1, h2⟩
    · rw [h] at e
      cases e
    · rw [h1] at e
      injection e with e
      omega
  obtain ⟨D, m, ho1, hm, hgd⟩ := hM.mp
  refine ⟨⟨(hbe.setCell (p := ⟨b10, 0, none⟩) hb x).setCell (p := ⟨b10, 1, none⟩) hb y, tt hM.f1 (by decide) (by decide), tt hM.f6 (by decide) (by decide), tt hM.f7 (by decide) (by decide), tt hM.f8 (by decide) (by decide), tt hM.f9 (by decide) (by decide), D, m, ownsMap_keep ho1 hbm, hm, hgd⟩, ?_, ?_⟩
  · simp [World.setCell, Array.getElem?_modify, h10]
  · refine own_move hown (fun k hk' => ?_)
    obtain ⟨cells, hcc⟩ := own_typed hown k hk'
    have hne' : k ≠ b10 := by
      rintro rfl
      rw [h10] at hcc
      injection hcc with e2
      injection e2 with _ e2
      exact absurd e2 (by decide)
    exact (Below.heap_setCell _ ⟨b10, 1, none⟩ _ k hne').trans (Below.heap_setCell _ ⟨b10, 0, none⟩ _ k hne')
def workE (parts : List S50) (swap : Int) (looks : List S61) (wrong : Int) (needs : List Int) : List Int × Int × Int :=
  if (outE parts swap looks wrong needs).2 = 0 then
    ((orderGo parts swap (leftM parts (outE parts swap looks wrong needs).1) 9 0 (-1)).map (fun (i : Nat) => (i : Int)), restG parts swap (leftM parts (outE parts swap looks wrong needs).1) 0 (-1), 0)
  else ([], 0, (outE parts swap looks wrong needs).2)
def strip_Work.f (l0_0 : List (S50)) (a0_1 : Int) (l0_2 : List (S61)) (a0_3 : Int) (l0_4 : List Int) : Option (List Int × Int × Int) :=
  if carFits l0_0 l0_2 l0_4 then some (workE l0_0 a0_1 l0_2 a0_3 l0_4) else none
theorem outE_good {parts : List S50} {swap : Int} {looks : List S61} {wrong : Int} {needs : List Int} (h : (outE parts swap looks wrong needs).2 = 0) : checkE parts swap looks wrong needs = 0 ∧ (outE parts swap looks wrong needs).1.length = parts.length := by
  unfold outE at h ⊢
  by_cases h0 : checkE parts swap looks wrong needs = 0
  · rw [if_pos h0] at h ⊢
    by_cases hT : truthsL parts looks wrong = []
    · rw [if_pos hT] at h; cases h
    · rw [if_neg hT]
      exact ⟨h0, outL_len _ _⟩
  · rw [if_neg h0] at h; exact absurd h h0
theorem six_blocks (w : World) (o1 o2 o3 o4 o5 o6 : Obj) : Below w.heap.size w ((((((w.alloc o1).alloc o2).alloc o3).alloc o4).alloc o5).alloc o6) ∧
    ((((((w.alloc o1).alloc o2).alloc o3).alloc o4).alloc o5).alloc o6).heap[w.heap.size]? = some o1 ∧ ((((((w.alloc o1).alloc o2).alloc o3).alloc o4).alloc o5).alloc o6).heap[w.heap.size + 1]? = some o2 ∧
    ((((((w.alloc o1).alloc o2).alloc o3).alloc o4).alloc o5).alloc o6).heap[w.heap.size + 1 + 1]? = some o3 ∧ ((((((w.alloc o1).alloc o2).alloc o3).alloc o4).alloc o5).alloc o6).heap[w.heap.size + 1 + 1 + 1]? = some o4 ∧
    ((((((w.alloc o1).alloc o2).alloc o3).alloc o4).alloc o5).alloc o6).heap[w.heap.size + 1 + 1 + 1 + 1]? = some o5 ∧ ((((((w.alloc o1).alloc o2).alloc o3).alloc o4).alloc o5).alloc o6).heap[w.heap.size + 1 + 1 + 1 + 1 + 1]? = some o6 := by
  have n1 := World.alloc_heap_new w o1
  have n2 := World.alloc_heap_new (w.alloc o1) o2
  have n3 := World.alloc_heap_new ((w.alloc o1).alloc o2) o3
  have n4 := World.alloc_heap_new (((w.alloc o1).alloc o2).alloc o3) o4
  have n5 := World.alloc_heap_new ((((w.alloc o1).alloc o2).alloc o3).alloc o4) o5
  have n6 := World.alloc_heap_new (((((w.alloc o1).alloc o2).alloc o3).alloc o4).alloc o5) o6
  simp only [World.size_alloc] at n1 n2 n3 n4 n5 n6
  refine ⟨by repeat (first | exact Below.refl _ _ | apply below_alloc), ?_, ?_, ?_, ?_, ?_, n6⟩
  · rw [Below.heap_alloc _ _ _ (by simp <;> omega), Below.heap_alloc _ _ _ (by simp <;> omega), Below.heap_alloc _ _ _ (by simp <;> omega), Below.heap_alloc _ _ _ (by simp <;> omega), Below.heap_alloc _ _ _ (by simp)]; exact n1
  · rw [Below.heap_alloc _ _ _ (by simp <;> omega), Below.heap_alloc _ _ _ (by simp <;> omega), Below.heap_alloc _ _ _ (by simp <;> omega), Below.heap_alloc _ _ _ (by simp)]; exact n2
  · rw [Below.heap_alloc _ _ _ (by simp <;> omega), Below.heap_alloc _ _ _ (by simp <;> omega), Below.heap_alloc _ _ _ (by simp)]; exact n3
  · rw [Below.heap_alloc _ _ _ (by simp <;> omega), Below.heap_alloc _ _ _ (by simp)]; exact n4
  · rw [Below.heap_alloc _ _ _ (by simp)]; exact n5
set_option maxHeartbeats 16000000 in
set_option maxRecDepth 100000 in
theorem strip_Work.calls (A0_0 : Option Addr) (c0_0 : Nat) (l0_0 : List (S50)) (a0_1 : Int) (A0_2 : Option Addr) (c0_2 : Nat) (l0_2 : List (S61)) (a0_3 : Int) (A0_4 : Option Addr) (c0_4 : Nat) (l0_4 : List Int) (r1 : List Int) (r2 : Int) (r3 : Int) (w : World) (hr0_0 : Kd.C k50 w A0_0 l0_0.length l0_0) (hc0_0 : l0_0.length ≤ c0_0) (hr0_2 : Kd.C k61 w A0_2 l0_2.length l0_2) (hc0_2 : l0_2.length ≤ c0_2) (hr0_4 : Kd.C (Kd.int .i64) w A0_4 l0_4.length l0_4) (hc0_4 : l0_4.length ≤ c0_4) (h : strip_Work.f l0_0 a0_1 l0_2 a0_3 l0_4 = some (r1, r2, r3)) :
    Calls Try.prog 20 #[.agg #[.slice A0_0 l0_0.length c0_0, .int .i64 a0_1, .slice A0_2 l0_2.length c0_2, .int .i64 a0_3, .slice A0_4 l0_4.length c0_4]] w fun e w' => ∃ v0_ : Value, e = .returned (.tuple #[v0_, .int .i64 r2, .int .i64 r3]) ∧ Kd.R (Kd.int .i64) 3 w' w.heap.size (fun _ => True) v0_ r1 ∧ Below w.heap.size w w' := by
  unfold strip_Work.f at h
  by_cases hf : carFits l0_0 l0_2 l0_4
  case neg => rw [if_neg hf] at h; cases h
  rw [if_pos hf] at h
  have hE := Option.some.inj h
  clear h
  have HR0 := Aside0.mk hr0_0
  have HR2 := Aside0.mk hr0_2
  have HR4 := Aside0.mk hr0_4
  have HF := Aside0.mk hf
  have HEE := Aside0.mk hE
  clear hr0_0 hr0_2 hr0_4 hf hE
  have hu26 := Try.underlying26
  have hu86 := Try.underlying86
  have hmf : ∀ (fn : Fn) (first cap : Array Value) (w : World), (Instr.makeFunc fn first cap).run Try.prog w = .ok (.func fn first cap) w := fun _ _ _ _ => rfl
  have hmm := @run_makeMap Try.prog
  go_enter Try.func20, Try.ntmps20
  go_wp2_with ((with_reducible refine gate_dst (N := 1) rfl ?_); refine box_event ?hg (N := 1) ?hd (cs := #[.slice A0_0 l0_0.length c0_0, .int .i64 a0_1, .slice A0_2 l0_2.length c0_2, .int .i64 a0_3, .slice A0_4 l0_4.length c0_4]) (t := 26) ?hr ?_; (case hd => rfl); (case hg => rfl); (case hr => first | (go_simp; done) | (go_simp; rfl)); intro gb hg w2 hbox hb2; have hz0 := (blk_cell hbox 0).trans rfl; have hz1 := (blk_cell hbox 1).trans rfl; have hz2 := (blk_cell hbox 2).trans rfl; have hz3 := (blk_cell hbox 3).trans rfl; have hz4 := (blk_cell hbox 4).trans rfl; have BK := Aside0.mk hbox; have HB := Aside0.mk hb2; clear hg hbox hb2)
  refine (strip_Out.calls A0_0 c0_0 l0_0 a0_1 A0_2 c0_2 l0_2 a0_3 A0_4 c0_4 l0_4 _ _ w2 (Kd.C_below HR0.out HB.out) hc0_0 (Kd.C_below HR2.out HB.out) hc0_2 (Kd.C_below HR4.out HB.out) hc0_4 (by rw [strip_Out.f, if_pos HF.out])).mono ?_
  rintro e w3 ⟨v, rfl, hro, hb3⟩
  have BK3 := Aside0.mk (blk_below BK.out hb3)
  have HB3 := Aside0.mk (below_step HB.out hb3)
  have HRO := Aside0.mk hro
  clear hro hb3 BK HB hz0 hz1 hz2 hz3 hz4
  obtain ⟨Av, cv, hv⟩ := Kd.R_slice HRO.out
  subst hv
  by_cases her : (outE l0_0 a0_1 l0_2 a0_3 l0_4).2 = 0
  case neg =>
    have h1 := HEE.out.symm.trans (if_neg her)
    obtain ⟨rfl, h2⟩ := Prod.mk.inj h1
    obtain ⟨rfl, h3⟩ := Prod.mk.inj h2
    rw [← h3]
    have hnb : (r3 == 0) = false := beq_eq_false_iff_ne.2 (by rw [h3]; exact her)
    clear her h1 h2 h3 HEE
    go_wp2
    go_ret3
    exact ⟨_, rfl, Kd.R_nil _ _ _ _ _, HB3.out⟩
  obtain ⟨hck, hol⟩ := outE_good her
  have h1 := HEE.out.symm.trans (if_pos her)
  rw [her]
  obtain ⟨hwk, hri⟩ := workOK_of_check hck
  have HOK := Aside0.mk (carOK_of_check HF.out hck)
  have HWK := Aside0.mk hwk
  have HRI := Aside0.mk hri
  have h9 := HOK.out.few
  generalize (outE l0_0 a0_1 l0_2 a0_3 l0_4).1 = out at *
  obtain ⟨K, hK⟩ := left_ev l0_0 out a0_1 l0_2 a0_3 l0_4 h9 HF.out.2.2.2 hol
  have HLF := Aside0.mk hK
  have hall2 := leftM_lt l0_0 out
  generalize leftM l0_0 out = all at *
  obtain ⟨rfl, h2⟩ := Prod.mk.inj h1
  obtain ⟨rfl, rfl⟩ := Prod.mk.inj h2
  have HOL := Aside0.mk hol
  clear her h1 h2 HEE hck hwk hri hK hol
  have hz0 := (blk_cell BK3.out 0).trans rfl
  have hz1 := (blk_cell BK3.out 1).trans rfl
  have hz2 := (blk_cell BK3.out 2).trans rfl
  have hz3 := (blk_cell BK3.out 3).trans rfl
  have hz4 := (blk_cell BK3.out 4).trans rfl
  go_wp2_with (fail)
  refine (strip_left.calls K A0_0 c0_0 l0_0 a0_1 A0_2 c0_2 l0_2 a0_3 A0_4 c0_4 l0_4 Av cv out _ w3 (Kd.C_below HR0.out HB3.out) hc0_0 (Kd.C_below HR2.out HB3.out) hc0_2 (Kd.C_below HR4.out HB3.out) hc0_4 (Kd.R_reads' HRO.out).2.2 (Kd.R_reads' HRO.out).2.1 HLF.out).mono ?_
  rintro e w4 ⟨rfl, hb4⟩
  have BK4 := Aside0.mk (blk_below BK3.out hb4)
  have HB4 := Aside0.mk (below_step HB3.out hb4)
  clear hb4 BK3 HB3 HRO HLF hz0 hz1 hz2 hz3 hz4
  go_upto_region 10 with (fail)
  have S6 := six_blocks w4 (.cells #[.int .u16 (all : Int)] 82 (0, 0)) (.map #[] 0) (.cells #[.map (some (w4.heap.size + 1))] 84 (0, 0)) (.cells #[.func (.func 58) #[] #[.pointer (some ⟨gb, 0, none⟩), .pointer (some ⟨w4.heap.size, 0, none⟩)]] 90 (0, 0)) (.cells #[.func (.func 62) #[] #[.pointer (some ⟨w4.heap.size, 0, none⟩), .pointer (some ⟨w4.heap.size + 1 + 1, 0, none⟩), .pointer (some ⟨gb, 0, none⟩), .pointer (some ⟨w4.heap.size + 1 + 1 + 1, 0, none⟩), .pointer (some ⟨w4.heap.size + 1 + 1 + 1 + 1, 0, none⟩)]] 91 (0, 0)) (.cells #[.int .u16 0, .int .i64 (-1)] 86 (0, 0))
  have hmade := World.ownsMap_made (H := Unit) (w4.alloc (.cells #[.int .u16 (all : Int)] 82 (0, 0))) Try.prog 86 (plainElem Try.prog 3)
  rw [World.size_alloc] at hmade
  have hbm : w4.heap.size ≤ w4.heap.size + 1 := Nat.le_succ _
  have hb10 : w4.heap.size ≤ w4.heap.size + 1 + 1 + 1 + 1 + 1 := by omega
  generalize hW5 : ((((((w4.alloc (.cells #[.int .u16 (all : Int)] 82 (0, 0))).alloc (.map #[] 0)).alloc (.cells #[.map (some (w4.heap.size + 1))] 84 (0, 0))).alloc (.cells #[.func (.func 58) #[] #[.pointer (some ⟨gb, 0, none⟩), .pointer (some ⟨w4.heap.size, 0, none⟩)]] 90 (0, 0))).alloc (.cells #[.func (.func 62) #[] #[.pointer (some ⟨w4.heap.size, 0, none⟩), .pointer (some ⟨w4.heap.size + 1 + 1, 0, none⟩), .pointer (some ⟨gb, 0, none⟩), .pointer (some ⟨w4.heap.size + 1 + 1 + 1, 0, none⟩), .pointer (some ⟨w4.heap.size + 1 + 1 + 1 + 1, 0, none⟩)]] 91 (0, 0))).alloc (.cells #[.int .u16 0, .int .i64 (-1)] 86 (0, 0))) = W5 at S6 ⊢
  obtain ⟨sb, s1, s2, s3, s4, s5, s6⟩ := S6
  have hmade2 : W5.ownsMap (H := Unit) Try.prog 86 (plainElem Try.prog 3) (w4.heap.size + 1) 0 (.map []) := by
    obtain ⟨es, clock, hb, r⟩ := hmade
    have he : (some (Obj.map es clock)) = some (Obj.map #[] 0) := by
      rw [← hb]
      have := World.alloc_heap_new (w4.alloc (.cells #[.int .u16 (all : Int)] 82 (0, 0))) (.map #[] 0)
      rw [World.size_alloc] at this
      exact this
    exact ⟨es, clock, s2.trans he.symm, r⟩
  clear hmade hW5
  generalize w4.heap.size + 1 + 1 + 1 + 1 + 1 = b10 at *
  generalize w4.heap.size + 1 + 1 + 1 + 1 = b9 at *
  generalize w4.heap.size + 1 + 1 + 1 = b8 at *
  generalize w4.heap.size + 1 + 1 = b7 at *
  generalize w4.heap.size + 1 = bm at *
  obtain ⟨b6, hb6⟩ : ∃ b, b = w4.heap.size := ⟨_, rfl⟩
  rw [← hb6] at s1 s4 s5 ⊢
  have HM := Aside0.mk (WorkMem.mk (wB := w4) (b1 := gb) (b6 := b6) (b7 := b7) (b8 := b8) (b9 := b9) (bm := bm) (A0 := A0_0) (c0 := c0_0) (parts := l0_0) (swap := a0_1) (A2 := A0_2) (c2 := c0_2) (looks := l0_2) (wrong := a0_3) (A4 := A0_4) (c4 := c0_4) (needs := l0_4) (all := all) (c := 0) (W := W5) sb (blk_below BK4.out sb) s1 s3 s4 s5 ⟨_, 0, hmade2, Nat.le_refl _, ⟨_, rfl⟩, fun d l _ _ _ hh => by cases hh⟩)
  have BA := Aside0.mk s6
  have HP4 := Aside0.mk (Kd.C_below HR0.out HB4.out)
  have HBM := Aside0.mk hbm
  have HB10 := Aside0.mk hb10
  clear sb s1 s2 s3 s4 s5 s6 hmade2 hb6 hbm hb10 BK4
  have hp9 := pow_le_512 h9
  have hall16 : all < 65536 := by omega
  obtain ⟨CT, hCT⟩ : ∃ C, C = costT 9 := ⟨_, rfl⟩
  have hCTb : CT ≤ 1000000000 := by rw [hCT]; decide
  have HBW4 := Aside0.mk HB4.out
  have HNE : ∀ (g : Nat) (cs : Array Value) (t : TypeId) (W : World) (c : Nat), WorkMem w4 gb b6 b7 b8 b9 bm A0_0 c0_0 l0_0 a0_1 A0_2 c0_2 l0_2 a0_3 A0_4 c0_4 l0_4 all (c) W → W.heap[g]? = some (.cells cs t (0, 0)) → g ≠ bm := by
    intro g cs t W c hm hg e
    obtain ⟨D, n, ⟨es, clock, hb', _⟩, _⟩ := hm.mp
    rw [e, hb'] at hg
    cases hg
  have HNEA := Aside0.mk HNE
  clear HNE
  have hrem0 := remM_le l0_0.length all 0
  have HC0 : Calls Try.prog 62 #[.agg #[.int .u16 0, .int .i64 (-1)], .pointer (some ⟨b6, 0, none⟩), .pointer (some ⟨b7, 0, none⟩), .pointer (some ⟨gb, 0, none⟩), .pointer (some ⟨b8, 0, none⟩), .pointer (some ⟨b9, 0, none⟩)] W5 fun e w' => e = .returned (.int .i64 (restG l0_0 a0_1 all 0 (-1))) ∧ WorkMem w4 gb b6 b7 b8 b9 bm A0_0 c0_0 l0_0 a0_1 A0_2 c0_2 l0_2 a0_3 A0_4 c0_4 l0_4 all (0 + costT 9) w' ∧ KeepBut W5 w' bm none := rest_calls w4 gb b6 b7 b8 b9 bm A0_0 c0_0 l0_0 a0_1 A0_2 c0_2 l0_2 a0_3 A0_4 c0_4 l0_4 all HOK.out HWK.out hall16 HP4.out HBM.out 9 0 (-1) 0 W5 (by omega) (by decide) (by omega) (by omega) (by rw [← hCT]; omega) HM.out
  have HC0A := Aside0.mk HC0
  clear HC0
  have ha0 := (blk_cell BA.out 0).trans rfl
  have ha1 := (blk_cell BA.out 1).trans rfl
  have h9c := (blk_cell HM.out.f9 0).trans rfl
  go_wp2_with (fail)
  refine HC0A.out.mono ?_
  rintro e w6 ⟨rfl, hm6, hk6⟩
  have BA6 := Aside0.mk (KeepBut.blk hk6 BA.out (HNEA.out _ _ _ _ _ HM.out BA.out) (by simp))
  rw [Nat.zero_add, ← hCT] at hm6
  have HM6 := Aside0.mk hm6
  clear hm6 hk6 ha0 ha1 h9c HM BA HC0A
  go_wp2
  obtain ⟨i0, hi, hz0, hz1, hz2⟩ := info_parts infoInt
  go_loopg [2] 9 (fun gk v2 wr => ∃ (d : Nat) (l : Int) (pre : List Nat) (c : Nat), gk ≤ 9 ∧ remM l0_0.length all d ≤ gk ∧ d < 65536 ∧ -1 ≤ l ∧ l < l0_0.length ∧ c ≤ CT + (9 - gk) * (10 * CT) ∧ pre.length + gk ≤ 9 ∧ Aside0 (subM d all = true) ∧ Aside0 (pre ++ orderGo l0_0 a0_1 all gk d l = orderGo l0_0 a0_1 all 9 0 (-1)) ∧ Aside0 (WorkMem w4 gb b6 b7 b8 b9 bm A0_0 c0_0 l0_0 a0_1 A0_2 c0_2 l0_2 a0_3 A0_4 c0_4 l0_4 all (c) wr) ∧ Aside0 (wr.heap[b10]? = some (.cells #[.int .u16 ((d : Nat) : Int), .int .i64 (l)] 86 (0, 0))) ∧ Aside0 (wr.ownsRow w4.heap.size 3 1 v2 pre.length (pre.map (fun (i : Nat) => Value.int .i64 (i : Int)))))
  case atStart => exact ⟨0, -1, [], CT, Nat.le_refl _, by omega, by decide, by omega, by omega, by omega, by simp, ⟨by rw [subM_iff]; intro i hi; simp at hi⟩, ⟨rfl⟩, HM6, BA6, ⟨World.ownsRow_nil _ _ _ _⟩⟩
  case round =>
    clear HM6 BA6
    obtain ⟨d, l, pre, c, hgk9, hrem, hd, hl1, hl2, hcc, hpl, HSUB, HORD, HM, BA, HO⟩ := hrel
    have ha0 := (blk_cell BA.out 0).trans rfl
    have ha1 := (blk_cell BA.out 1).trans rfl
    have h6c := (blk_cell HM.out.f6 0).trans rfl
    have h9c := (blk_cell HM.out.f9 0).trans rfl
    have h1c := (blk_cell HM.out.f1 0).trans rfl
    by_cases hda : d = all
    · subst hda
      have hdb : (((d : Nat) : Int) == ((d : Nat) : Int)) = true := beq_self_eq_true _
      have HPR : Aside0 (pre = orderGo l0_0 a0_1 d 9 0 (-1)) := ⟨by have := HORD.out; rwa [orderGo_done, List.append_nil] at this⟩
      go_wp2
      go_ret3
      refine ⟨_, rfl, R_of_owns .i64 ?_, below_step HBW4.out HM.out.be⟩
      rw [← HPR.out, List.length_map, List.map_map]
      exact own_weaken HO.out HBW4.out.size
    · have hdb : (((d : Nat) : Int) == ((all : Nat) : Int)) = false := beq_eq_false_iff_ne.2 (by omega)
      have HDA := Aside0.mk hda
      clear hda
      obtain ⟨g1, rfl⟩ : ∃ g1, gk = g1 + 1 := ⟨gk - 1, by
        obtain ⟨i, h1, h2, h3⟩ := sub_lacks HSUB.out hall2 HDA.out
        have := remM_step h1 h2 h3
        omega⟩
      have HC1 := Aside0.mk (rest_calls w4 gb b6 b7 b8 b9 bm A0_0 c0_0 l0_0 a0_1 A0_2 c0_2 l0_2 a0_3 A0_4 c0_4 l0_4 all HOK.out HWK.out hall16 HP4.out HBM.out 9 d l c wr (by have := remM_le l0_0.length all d; omega) hd hl1 hl2 (by rw [← hCT]; have : (9 - (g1 + 1)) * (10 * CT) ≤ 9 * (10 * CT) := Nat.mul_le_mul_right _ (by omega); omega) HM.out)
      go_wp2_with (fail)
      refine HC1.out.mono ?_
      rintro e w7 ⟨rfl, hm7, hk7⟩
      have BA7 := Aside0.mk (KeepBut.blk hk7 BA.out (HNEA.out _ _ _ _ _ HM.out BA.out) (by simp))
      have HO7 : Aside0 (w7.ownsRow w4.heap.size 3 1 u2 pre.length (pre.map (fun (i : Nat) => Value.int .i64 (i : Int)))) := ⟨own_move HO.out (fun b hb => hk7.2 b (own_lt HO.out b hb) (by
        obtain ⟨cells, hcc⟩ := own_typed HO.out b hb
        exact HNEA.out _ _ _ _ _ HM.out hcc) (by simp))⟩
      rw [← hCT] at hm7
      have HM7 := Aside0.mk hm7
      clear hm7 hk7 HM BA HO HC1 ha0 ha1 h6c h9c h1c
      have hrb := restG_bd HWK.out all d l
      have HNX := Aside0.mk (next_some h9 HWK.out HRI.out l HSUB.out hall2 HDA.out)
      obtain ⟨due, hdue⟩ : ∃ x, x = restG l0_0 a0_1 all d l := ⟨_, rfl⟩
      rw [← hdue] at hrb ⊢
      have HDUE := Aside0.mk hdue
      clear hdue
      have h1c := (blk_cell HM7.out.f1 0).trans rfl
      go_wp2
      clear h1c
      go_loopg [2, 42] l0_0.length (fun gk2 v2 v42 wr2 => ∃ k : Nat, k ≤ l0_0.length ∧ l0_0.length - k ≤ gk2 ∧ v42 = .int .i64 k ∧ Aside0 (∀ i, i < k → nextB l0_0 a0_1 all d l i = false) ∧ Aside0 (WorkMem w4 gb b6 b7 b8 b9 bm A0_0 c0_0 l0_0 a0_1 A0_2 c0_2 l0_2 a0_3 A0_4 c0_4 l0_4 all (c + CT + k * CT) wr2) ∧ Aside0 (wr2.heap[b10]? = some (.cells #[.int .u16 ((d : Nat) : Int), .int .i64 (l)] 86 (0, 0))) ∧ Aside0 (wr2.ownsRow w4.heap.size 3 1 v2 pre.length (pre.map (fun (i : Nat) => Value.int .i64 (i : Int)))))
      case atStart => exact ⟨0, Nat.zero_le _, by omega, rfl, ⟨fun i hi => by omega⟩, ⟨by rw [Nat.zero_mul, Nat.add_zero]; exact HM7.out⟩, BA7, HO7⟩
      case round =>
        clear HM7 BA7 HO7
        obtain ⟨k, hk, hgk2, rfl, HLOW, HM, BA, HO⟩ := hrel
        by_cases hlt : k < l0_0.length
        · have hlz : (k : Int) < (l0_0.length : Int) := by omega
          have hsl := step_lt HWK.out (all := all) (d := d) (l := l) hlt
          have HSC := Aside0.mk (fun h => step_can (parts := l0_0) (swap := a0_1) (all := all) (d := d) (l := l) (i := k) h)
          have HCALL := Aside0.mk (step_calls gb b6 A0_0 c0_0 l0_0 a0_1 A0_2 c0_2 l0_2 a0_3 A0_4 c0_4 l0_4 all d l k wr HOK.out HWK.out hall16 hd hl1 hl2 hlt (Kd.C_below HP4.out HM.out.be) HM.out.f1 HM.out.f6)
          have HNB : Aside0 (nextB l0_0 a0_1 all d l k = (decide (stepV l0_0 a0_1 all d l k < 1073741824) && (stepV l0_0 a0_1 all d l k + restG l0_0 a0_1 all (d ||| 2 ^ k) k == due))) := ⟨by rw [HDUE.out]; rfl⟩
          generalize stepV l0_0 a0_1 all d l k = s at *
          have ha0 := (blk_cell BA.out 0).trans rfl
          have ha1 := (blk_cell BA.out 1).trans rfl
          have h8 := (blk_cell HM.out.f8 0).trans rfl
          go_wp2_with (fail)
          refine HCALL.out.mono ?_
          rintro e w8 ⟨rfl, hb8⟩
          have HM8 := Aside0.mk (HM.out.below hb8)
          have BA8 := Aside0.mk (blk_below BA.out hb8)
          have HO8 : Aside0 (w8.ownsRow w4.heap.size 3 1 u2 pre.length (pre.map (fun (i : Nat) => Value.int .i64 (i : Int)))) := ⟨own_move HO.out (fun b hb => hb8.block b (own_lt HO.out b hb))⟩
          clear ha0 ha1 h8 hb8 HM BA HO HCALL
          by_cases hs : s < 1073741824
          · obtain ⟨hc1, hc2, _⟩ := HSC.out hs
            have hrs := remM_step hlt hc1 hc2
            have hp16 : 2 ^ k < 65536 := Nat.pow_lt_pow_right (n := 16) (by decide) (by omega)
            have hdk : d ||| 2 ^ k < 65536 := Nat.or_lt_two_pow (n := 16) hd hp16
            have hshl : IntKind.u16.wrap (2 ^ k) = ((2 ^ k : Nat) : Int) := by have := shl_len (n := k) (by omega); rwa [Nat.min_eq_left (by omega)] at this
            have hor : Go.bits .or .u16 (d : Int) ((2 ^ k : Nat) : Int) = ((d ||| 2 ^ k : Nat) : Int) := u16_or d (2 ^ k) hd hp16
            have hrb2 := restG_bd HWK.out all (d ||| 2 ^ k) (k : Int)
            have HSUB2 := Aside0.mk (sub_step (n := l0_0.length) HSUB.out hc1)
            have HORD2 : Aside0 (s + restG l0_0 a0_1 all (d ||| 2 ^ k) k = due → nextB l0_0 a0_1 all d l k = true ∧ pre ++ (k :: orderGo l0_0 a0_1 all g1 (d ||| 2 ^ k) k) = orderGo l0_0 a0_1 all 9 0 (-1)) := ⟨fun e => by
              have hn : nextB l0_0 a0_1 all d l k = true := by rw [HNB.out, e, decide_eq_true hs]; simp
              refine ⟨hn, ?_⟩
              rw [← HORD.out, orderGo_next HDA.out hlt hn HLOW.out]⟩
            have hkC : k * CT ≤ 8 * CT := Nat.mul_le_mul_right _ (by omega)
            have hgC : (9 - (g1 + 1)) * (10 * CT) ≤ 8 * (10 * CT) := Nat.mul_le_mul_right _ (by omega)
            have HR := Aside0.mk ((rest_calls w4 gb b6 b7 b8 b9 bm A0_0 c0_0 l0_0 a0_1 A0_2 c0_2 l0_2 a0_3 A0_4 c0_4 l0_4 all HOK.out HWK.out hall16 HP4.out HBM.out 9 (d ||| 2 ^ k) (k : Int) (c + CT + k * CT) w8.drew (by have := remM_le l0_0.length all (d ||| 2 ^ k); omega) hdk (by omega) hlz (by rw [← hCT]; omega) (HM8.out.below (below_drew1 (Below.refl _ _)))).mono (R' := fun e w' => e = .returned (.int .i64 (restG l0_0 a0_1 all (d ||| 2 ^ k) (k : Int))) ∧ w'.cell? ⟨b9, 0, none⟩ = some (.func (.func 62) #[] #[.pointer (some ⟨b6, 0, none⟩), .pointer (some ⟨b7, 0, none⟩), .pointer (some ⟨gb, 0, none⟩), .pointer (some ⟨b8, 0, none⟩), .pointer (some ⟨b9, 0, none⟩)]) ∧ w'.cell? ⟨b10, 0, none⟩ = some (.int .u16 (d : Int)) ∧ Aside0 (WorkMem w4 gb b6 b7 b8 b9 bm A0_0 c0_0 l0_0 a0_1 A0_2 c0_2 l0_2 a0_3 A0_4 c0_4 l0_4 all (c + CT + (k + 1) * CT) w') ∧ Aside0 (w'.heap[b10]? = some (.cells #[.int .u16 ((d : Nat) : Int), .int .i64 (l)] 86 (0, 0))) ∧ Aside0 (w'.ownsRow w4.heap.size 3 1 u2 pre.length (pre.map (fun (i : Nat) => Value.int .i64 (i : Int)))))
              (fun e w' ⟨h1, h2, h3⟩ => by
                have hba := KeepBut.blk h3 (show w8.drew.heap[b10]? = _ from BA8.out) (HNEA.out _ _ _ _ _ HM8.out BA8.out) (by simp)
                refine ⟨h1, (blk_cell h2.f9 0).trans rfl, (blk_cell hba 0).trans rfl, ⟨?_⟩, ⟨hba⟩, ⟨own_move HO8.out (fun b hb => h3.2 b (own_lt HO8.out b hb) (by
                  obtain ⟨cells, hcc⟩ := own_typed HO8.out b hb
                  exact HNEA.out _ _ _ _ _ HM8.out hcc) (by simp))⟩⟩
                rw [← hCT] at h2
                rw [Nat.add_mul, Nat.one_mul, ← Nat.add_assoc]
                exact h2))
            generalize hgr : restG l0_0 a0_1 all (d ||| 2 ^ k) (k : Int) = rv at *
            have HGR := Aside0.mk hgr
            clear hgr
            generalize ((2 ^ k : Nat) : Int) = p2 at *
            generalize hgd : d ||| 2 ^ k = dk at *
            have HGD := Aside0.mk hgd
            clear hgd
            have h9' := (blk_cell HM8.out.f9 0).trans rfl
            have ha0 := (blk_cell BA8.out 0).trans rfl
            have hds : decide (s < 1073741824) = true := decide_eq_true hs
            have hwr : IntKind.i64.wrap (s + rv) = s + rv := IntWalk.i64_in _ (by omega)
            have hdk2 := hdk
            clear HM8 BA8 HO8 hc1 hc2 hp16 HSC
            by_cases heq : s + rv = due
            · have hbe : (s + rv == due) = true := beq_iff_eq.2 heq
              obtain ⟨hnx, hord⟩ := HORD2.out heq
              have HN2 := Aside0.mk hnx
              have HO2 := Aside0.mk hord
              clear heq hnx hord HORD2 HNB
              go_wp2
              go_region_held3 (fun w' => w'.cell? ⟨b9, 0, none⟩ = some (.func (.func 62) #[] #[.pointer (some ⟨b6, 0, none⟩), .pointer (some ⟨b7, 0, none⟩), .pointer (some ⟨gb, 0, none⟩), .pointer (some ⟨b8, 0, none⟩), .pointer (some ⟨b9, 0, none⟩)]) ∧ w'.cell? ⟨b10, 0, none⟩ = some (.int .u16 (d : Int))) (first | exact ⟨h9', ha0⟩ | go_keep) (first | (go_at_call 62; refine HR.out.mono ?_; rintro e w9 ⟨rfl, hc9, hca, HM9, BA9, HO9⟩))
              all_goals
                clear h9' ha0 hc9 hca
                have hq0 := (blk_cell BA9.out 0).trans rfl
                have hq1 := (blk_cell BA9.out 1).trans rfl
                have hf0 := blk_frozen BA9.out 0
                have hf1 := blk_frozen BA9.out 1
                have HNO : Aside0 (some b10 ≠ u2.ownBlock) := ⟨fun e => by
                  obtain ⟨cells, hcc⟩ := own_typed HO9.out b10 e.symm
                  rw [BA9.out] at hcc
                  injection hcc with hcc
                  injection hcc with _ hcc
                  exact absurd hcc (by decide)⟩
                have KB : ∀ {X W1 : World}, X.heap[b10]? = some (.cells #[.int .u16 (d : Int), .int .i64 l] 86 (0, 0)) → X.grownBy W1 u2.ownBlock → W1.cell? ⟨b10, 0, none⟩ = some (.int .u16 (d : Int)) ∧ W1.cell? ⟨b10, 1, none⟩ = some (.int .i64 l) ∧ W1.frozen? ⟨b10, 0, none⟩ = false ∧ W1.frozen? ⟨b10, 1, none⟩ = false := fun hx hg => by
                  have hb := (hg.block b10 (blk_lt hx) HNO.out).trans hx
                  exact ⟨(blk_cell hb 0).trans rfl, (blk_cell hb 1).trans rfl, blk_frozen hb 0, blk_frozen hb 1⟩
                have KBA := Aside0.mk @KB
                clear KB
                have BF : ∀ {X : World}, X.heap[b10]? = some (.cells #[.int .u16 (d : Int), .int .i64 l] 86 (0, 0)) → X.cell? ⟨b10, 0, none⟩ = some (.int .u16 (d : Int)) ∧ X.cell? ⟨b10, 1, none⟩ = some (.int .i64 l) ∧ X.frozen? ⟨b10, 0, none⟩ = false ∧ X.frozen? ⟨b10, 1, none⟩ = false := fun hb => ⟨(blk_cell hb 0).trans rfl, (blk_cell hb 1).trans rfl, blk_frozen hb 0, blk_frozen hb 1⟩
                have BFA := Aside0.mk @BF
                clear BF
                go_upto_region 18 with (fail)
                have hbA := blk_alloc BA9.out (.cells #[.int .i64 (k : Int)] 3)
                have hqA0 := (blk_cell hbA 0).trans rfl
                have hqA1 := (blk_cell hbA 1).trans rfl
                have hfA0 := blk_frozen hbA 0
                have hfA1 := blk_frozen hbA 1
                go_region_law ((refine step_append_lies _ (by rfl) _ _ _ (by rfl) w4.heap.size 3 i0 _ 1 8 Try.underlying24 hi hz0 hz1 hz2 rfl (by omega) u2 pre.length _ (by rfl) ((HO9.out.alloc _).drew) ⟨w9.heap.size, 0, none⟩ 1 1 [.int .i64 (k : Int)] (by rfl) (by rfl) (World.news_of_block (cs := #[.int .i64 (k : Int)]) (t := 3) (fr := (0, 0)) (blk_new w9 _)) (by simp [Value.oneCell']) (by omega) (by unfold maxLen; omega) (by omega) (by have h1 := HM9.out.be.size; have h2 := HBW4.out.size; simp; omega) (w9.heap.size + 1) (by simp) ?_; intro gg cap w10 hown hgrow hat hlt10; obtain ⟨q0_, q1_, q2_, q3_⟩ := KBA.out (by (with_reducible repeat (first | refine blk_drewN ?_ _ | refine blk_drew ?_ | refine blk_alloc ?_ _)); exact BA9.out) hgrow))
                all_goals
                  obtain ⟨hM', hB', hO'⟩ := hit_mem (x := .int .u16 (dk : Int)) (y := .int .i64 (k : Int)) HM9.out BA9.out ((Below.alloc (Below.refl _ _) (Nat.le_refl _) _).drew) HO9.out hgrow HB10.out HNO.out hown
                  have HMF := Aside0.mk hM'
                  have HBF := Aside0.mk hB'
                  have HOF := Aside0.mk hO'
                  clear q0_ q1_ q2_ q3_ hown hgrow hat hlt10 hM' hB' hO' KBA BFA hq0 hq1 hf0 hf1 hbA hqA0 hqA1 hfA0 hfA1 HM9 BA9 HO9 HNO
                  generalize ((w10.setCell ⟨b10, 0, none⟩ (.int .u16 (dk : Int))).setCell ⟨b10, 1, none⟩ (.int .i64 (k : Int))) = wf at *
                  go_wp2
                  go_roundg g1
                  case measure => omega
                  case rel =>
                    have hc9 : (9 - g1) * (10 * CT) = (9 - (g1 + 1)) * (10 * CT) + 10 * CT := by
                      rw [show 9 - g1 = (9 - (g1 + 1)) + 1 by omega, Nat.add_mul, Nat.one_mul]
                    have hk9 : (k + 1) * CT ≤ 9 * CT := Nat.mul_le_mul_right _ (by omega)
                    exact ⟨dk, k, pre ++ [k], c + CT + (k + 1) * CT, by omega, by omega, hdk, by omega, by omega, by omega, by simp; omega, HSUB2, ⟨by rw [← HO2.out, List.append_assoc]; rfl⟩, HMF, HBF, ⟨by rw [List.map_append, List.length_append]; exact HOF.out⟩⟩
            · have hbe : (s + rv == due) = false := beq_eq_false_iff_ne.2 heq
              have HN2 : Aside0 (nextB l0_0 a0_1 all d l k = false) := ⟨by rw [HNB.out, hds]; exact hbe⟩
              clear heq HORD2 HNB
              go_wp2
              go_region_held3 (fun w' => w'.cell? ⟨b9, 0, none⟩ = some (.func (.func 62) #[] #[.pointer (some ⟨b6, 0, none⟩), .pointer (some ⟨b7, 0, none⟩), .pointer (some ⟨gb, 0, none⟩), .pointer (some ⟨b8, 0, none⟩), .pointer (some ⟨b9, 0, none⟩)]) ∧ w'.cell? ⟨b10, 0, none⟩ = some (.int .u16 (d : Int))) (first | exact ⟨h9', ha0⟩ | go_keep) (first | (go_at_call 62; refine HR.out.mono ?_; rintro e w9 ⟨rfl, hc9, hca, HM9, BA9, HO9⟩))
              all_goals
                go_wp2
                go_roundg (l0_0.length - (k + 1))
                case measure => omega
                case rel => exact ⟨k + 1, by omega, by omega, by go_num, ⟨fun i hi => by
                  by_cases e : i = k
                  · rw [e]; exact HN2.out
                  · exact HLOW.out i (by omega)⟩, HM9, BA9, HO9⟩
          · have hds : decide (s < 1073741824) = false := decide_eq_false hs
            have HN2 : Aside0 (nextB l0_0 a0_1 all d l k = false) := ⟨by rw [HNB.out, hds]; rfl⟩
            clear HNB
            go_wp2
            go_quiet (fail)
            go_wp2
            go_roundg (l0_0.length - (k + 1))
            case measure => omega
            case rel => exact ⟨k + 1, by omega, by omega, by go_num, ⟨fun i hi => by
              by_cases e : i = k
              · rw [e]; exact HN2.out
              · exact HLOW.out i (by omega)⟩, ⟨(HM8.out.more (Nat.add_le_add_left (Nat.mul_le_mul_right _ (Nat.le_succ _)) _)).below (by repeat (first | exact Below.refl _ _ | apply pw_below_drewN | apply below_drew1))⟩, ⟨by (with_reducible repeat (first | refine blk_drewN ?_ _ | refine blk_drew ?_ | refine blk_alloc ?_ _)); exact BA8.out⟩, HO8⟩
        · have : k = l0_0.length := by omega
          subst this
          obtain ⟨i, h1, h2⟩ := HNX.out
          rw [HLOW.out i h1] at h2
          cases h2
end Go.Proofs.Ytkkmfcdikkiodaa.PC4
namespace Go.Proofs.Ytkkmfcdikkiodaa.PC4
open Go.RowKit Go.Proofs.YtkkmfcdikkiodaaW.PrintWords Go.Proofs.YtkkmfcdikkiodaaW.PrintLast Go.Proofs.YtkkmfcdikkiodaaW.PrintMore
attribute [local go_sem] max2_int min2_int max_two min_two max_three min_three max_four min_four
set_option linter.unusedVariables false
set_option linter.unusedSimpArgs false
def swarfkit_EqualInts.l0 : Nat → List Int → List Int → Bool → Int → Option (Bool)
 | 0, _, _, _, _ => none
 | k + 1, x0, x1, x5, x6 => if x5 = true then (if x6 < (x0.length : Int) then (if 0 ≤ x6 then (if x6 < (x1.length : Int) then (swarfkit_EqualInts.l0 k x0 x1 ((rd x0 x6) == (rd x1 x6)) (wrap64 (x6 + 1))) else (none)) else (none)) else (some x5)) else (some x5)
def swarfkit_EqualInts.f (k : Nat) (l0 : List Int) (l1 : List Int) : Option (Bool) := swarfkit_EqualInts.l0 k l0 l1 ((l0.length : Int) == (l1.length : Int)) 0
theorem swarfkit_EqualInts.mono_l : ∀ k, (∀ y0 y1 y2 y3, LeO (swarfkit_EqualInts.l0 k y0 y1 y2 y3) (swarfkit_EqualInts.l0 (k + 1) y0 y1 y2 y3))
 | 0 => fun _ _ _ _ r h => by simp [swarfkit_EqualInts.l0] at h
 | k + 1 => by
  have ih0 := swarfkit_EqualInts.mono_l k
  ·
   intro y0 y1 y2 y3
   unfold swarfkit_EqualInts.l0
   repeat' first
   | (with_reducible exact ih0 _ _ _ _)
   | (with_reducible exact LeO.refl _)
   | (with_reducible exact LeO.none _)
   | (with_reducible refine LeO.ite ?_ ?_)
   | (with_reducible refine LeO.bind ?_ (fun _ => ?_))
   | exact ih0 _ _ _ _
   | exact LeO.none _
   | refine LeO.ite ?_ ?_
   | refine LeO.bind ?_ (fun _ => ?_)
theorem swarfkit_EqualInts.mono : ∀ a0 a1 k, LeO (swarfkit_EqualInts.f k a0 a1) (swarfkit_EqualInts.f (k + 1) a0 a1) := by
 intro a0 a1 k
 have ih0 := swarfkit_EqualInts.mono_l k
 unfold swarfkit_EqualInts.f
 repeat' first
   | (with_reducible exact ih0 _ _ _ _)
   | (with_reducible exact LeO.refl _)
   | (with_reducible exact LeO.none _)
   | (with_reducible refine LeO.ite ?_ ?_)
   | (with_reducible refine LeO.bind ?_ (fun _ => ?_))
   | exact ih0 _ _ _ _
   | exact LeO.none _
   | refine LeO.ite ?_ ?_
   | refine LeO.bind ?_ (fun _ => ?_)
set_option maxHeartbeats 8000000 in
set_option maxRecDepth 100000 in
theorem swarfkit_EqualInts.calls (k : Nat) (A0 : Option Addr) (c0 : Nat) (l0 : List Int) (A1 : Option Addr) (c1 : Nat) (l1 : List Int) (r : Bool) (w : World) (hr0 : Kd.C (Kd.int .i64) w A0 l0.length l0) (hc0 : l0.length ≤ c0) (hr1 : Kd.C (Kd.int .i64) w A1 l1.length l1) (hc1 : l1.length ≤ c1) (h : swarfkit_EqualInts.f k l0 l1 = some r) :
  Calls Try.prog 22 #[.slice A0 l0.length c0, .slice A1 l1.length c1] w fun e w' => e = .returned (.bool r) ∧ Drawn0 w w' := by
 have HR0 := Aside0.mk hr0
 have HC0 := Aside0.mk hc0
 clear hr0 hc0
 have HR1 := Aside0.mk hr1
 have HC1 := Aside0.mk hc1
 clear hr1 hc1
 have H : (swarfkit_EqualInts.l0 k l0 l1 ((l0.length : Int) == (l1.length : Int)) 0) = some r := h
 clear h
 have H' := Aside0.mk H
 clear H
 go_enter Try.func22, Try.ntmps22
 go_wp2
 repeat (go_quiet (fail); try go_wp2)
 go_loopg [5, 6] k (fun kq v5 v6 w' => ∃ (x5_1 : Bool) (x6_1 : Int), v5 = .bool x5_1 ∧ v6 = .int .i64 x6_1 ∧ Aside0 (swarfkit_EqualInts.l0 kq l0 l1 x5_1 x6_1 = some r) ∧ Aside0 (kq ≤ k) ∧ Drawn0 w w')
 case atStart => exact ⟨(((l0.length : Int) == (l1.length : Int))), (0), (by first | rfl | (simp; done) | (simp [*]; done)), (by first | rfl | (simp; done) | (simp [*]; done)), H', ⟨Nat.le_refl _⟩, by repeat (first | exact Drawn0.refl _ | apply Drawn0.step)⟩
 case round =>
  clear H'
  obtain ⟨x5_1, x6_1, rfl, rfl, HA, HK1, ⟨m1, rfl⟩⟩ := hrel
  cases gk with
  | zero => exact absurd HA.out (by simp [swarfkit_EqualInts.l0])
  | succ k1 =>
   have H := HA.out
   clear HA
   simp only [swarfkit_EqualInts.l0] at H
   by_cases c3 : x5_1 = true
   ·
    subst c3
    have H1 : (if x6_1 < (l0.length : Int) then (if 0 ≤ x6_1 then (if x6_1 < (l1.length : Int) then (swarfkit_EqualInts.l0 k1 l0 l1 ((rd l0 x6_1) == (rd l1 x6_1)) (wrap64 (x6_1 + 1))) else (none)) else (none)) else (some true)) = some r := by rw [if_pos rfl] at H; exact H
    clear H
    have H := H1
    clear H1
    by_cases c4 : x6_1 < (l0.length : Int)
    ·
     rw [if_pos c4] at H
     have c4b0 : decide (x6_1 < (l0.length : Int)) = true := decide_eq_true c4
     clear c4
     by_cases c5 : 0 ≤ x6_1
     ·
      rw [if_pos c5] at H
      have c5b0 : decide (0 ≤ x6_1) = true := decide_eq_true c5
      clear c5
      by_cases c6 : x6_1 < (l1.length : Int)
      ·
       rw [if_pos c6] at H
       have c6b0 : decide (x6_1 < (l1.length : Int)) = true := decide_eq_true c6
       clear c6
       have H' := Aside0.mk H
       clear H
       have p121 : 0 ≤ (x6_1 : Int) := of_x
       have q121 : x6_1 < (l0.length : Int) := of_x
       obtain ⟨ad121, e121, hx121_0⟩ := Kd.at_int HR0.out x6_1 p121 q121
       cases e121
       replace p121 := eq_true p121
       replace q121 := eq_true q121
       have p122 : 0 ≤ (x6_1 : Int) := of_x
       have q122 : x6_1 < (l1.length : Int) := of_x
       obtain ⟨ad122, e122, hx122_0⟩ := Kd.at_int HR1.out x6_1 p122 q122
       cases e122
       replace p122 := eq_true p122
       replace q122 := eq_true q122
       go_wp2
       repeat (go_quiet (fail); try go_wp2)
       go_roundg k1
       case measure => have := HK1.out; omega
       case rel => exact ⟨(((rd l0 x6_1) == (rd l1 x6_1))), (wrap64 (x6_1 + 1)), (by first | rfl | (simp; done) | (simp [*]; done)), (by first | rfl | (simp; done) | (simp [*]; done)), H', ⟨by have := HK1.out; omega⟩, by repeat (first | exact Drawn0.refl _ | apply Drawn0.step)⟩
      ·
       rw [if_neg c6] at H
       exact absurd H (by simp)
     ·
      rw [if_neg c5] at H
      exact absurd H (by simp)
    ·
     rw [if_neg c4] at H
     have c4b0 : decide (x6_1 < (l0.length : Int)) = false := decide_eq_false c4
     clear c4
     obtain rfl := Option.some.inj H
     go_wp2
     repeat (go_quiet (fail); try go_wp2)
     go_ret
     exact ⟨by first | rfl | (simp; done) | (simp [*]; done), by repeat (first | exact Drawn0.refl _ | apply Drawn0.step)⟩
   ·
    replace c3 := Bool.eq_false_iff.mpr c3
    subst c3
    have H1 : (some false) = some r := by rw [if_neg (show ¬ (false = true) by decide)] at H; exact H
    clear H
    have H := H1
    clear H1
    obtain rfl := Option.some.inj H
    go_wp2
    repeat (go_quiet (fail); try go_wp2)
    go_ret
    exact ⟨by first | rfl | (simp; done) | (simp [*]; done), by repeat (first | exact Drawn0.refl _ | apply Drawn0.step)⟩
def swarflaw04_car.f  : Option ((List (S50)) × Int × (List (S61)) × Int × List Int) := some ((([(⟨([] : List Int), true, 1, 10⟩ : S50), (⟨(([0] : List Int)), true, 2, 20⟩ : S50), (⟨(([1] : List Int)), true, 1, 15⟩ : S50), (⟨([] : List Int), false, 3, 30⟩ : S50), (⟨(([0, 3] : List Int)), true, 3, 5⟩ : S50)] : List (S50))), 2, (([(⟨0, true⟩ : S61), (⟨1, true⟩ : S61), (⟨2, false⟩ : S61), (⟨4, false⟩ : S61)] : List (S61))), 1, (([2, 5] : List Int)))
set_option maxHeartbeats 8000000 in
set_option maxRecDepth 100000 in
theorem swarflaw04_car.calls  (r1 : List (S50)) (r2 : Int) (r3 : List (S61)) (r4 : Int) (r5 : List Int) (w : World) (h : swarflaw04_car.f  = some (r1, r2, r3, r4, r5)) :
  Calls Try.prog 55 #[] w fun e w' => ∃ v0_ v2_ v4_ : Value, e = .returned (.agg #[v0_, .int .i64 r2, v2_, .int .i64 r4, v4_]) ∧ Kd.N k50 50 w' w.heap.size (fun k_ => (w.heap.size ≤ k_) ∧ some k_ ≠ (v2_ : Value).ownBlock ∧ some k_ ≠ (v4_ : Value).ownBlock) v0_ r1 ∧ Kd.R k61 61 w' w.heap.size (fun k_ => (w.heap.size ≤ k_)) v2_ r3 ∧ Kd.R (Kd.int .i64) 3 w' w.heap.size (fun k_ => (w.heap.size ≤ k_)) v4_ r5 ∧ Below w.heap.size w w' := by
 have hu26 := Try.underlying26
 have hu50 := Try.underlying50
 have hu61 := Try.underlying61
 have HB := Aside0.mk (Below.refl w.heap.size w)
 have H : (some ((([(⟨([] : List Int), true, 1, 10⟩ : S50), (⟨(([0] : List Int)), true, 2, 20⟩ : S50), (⟨(([1] : List Int)), true, 1, 15⟩ : S50), (⟨([] : List Int), false, 3, 30⟩ : S50), (⟨(([0, 3] : List Int)), true, 3, 5⟩ : S50)] : List (S50))), 2, (([(⟨0, true⟩ : S61), (⟨1, true⟩ : S61), (⟨2, false⟩ : S61), (⟨4, false⟩ : S61)] : List (S61))), 1, (([2, 5] : List Int)))) = some (r1, r2, r3, r4, r5) := h
 clear h
 obtain ⟨y124, hy124⟩ : ∃ y_ : List Int, y_ = (([0] : List Int)) := ⟨_, rfl⟩
 replace H : (some ((([(⟨([] : List Int), true, 1, 10⟩ : S50), (⟨y124, true, 2, 20⟩ : S50), (⟨(([1] : List Int)), true, 1, 15⟩ : S50), (⟨([] : List Int), false, 3, 30⟩ : S50), (⟨(([0, 3] : List Int)), true, 3, 5⟩ : S50)] : List (S50))), 2, (([(⟨0, true⟩ : S61), (⟨1, true⟩ : S61), (⟨2, false⟩ : S61), (⟨4, false⟩ : S61)] : List (S61))), 1, (([2, 5] : List Int)))) = some (r1, r2, r3, r4, r5) := by first | (rw [hy124]; with_reducible exact H) | (have H2_ := (Option.bind_some _ _).symm.trans H; rw [hy124]; with_reducible exact H2_) | (have H2_ := (Option.bind_some _ _).symm.trans H; with_reducible exact H2_) | with_reducible exact H | (rw [hy124]; exact H) | exact H
 have Ny124 := Aside0.mk hy124
 clear hy124
 obtain ⟨y127, hy127⟩ : ∃ y_ : List Int, y_ = (([1] : List Int)) := ⟨_, rfl⟩
 replace H : (some ((([(⟨([] : List Int), true, 1, 10⟩ : S50), (⟨y124, true, 2, 20⟩ : S50), (⟨y127, true, 1, 15⟩ : S50), (⟨([] : List Int), false, 3, 30⟩ : S50), (⟨(([0, 3] : List Int)), true, 3, 5⟩ : S50)] : List (S50))), 2, (([(⟨0, true⟩ : S61), (⟨1, true⟩ : S61), (⟨2, false⟩ : S61), (⟨4, false⟩ : S61)] : List (S61))), 1, (([2, 5] : List Int)))) = some (r1, r2, r3, r4, r5) := by first | (rw [hy127]; with_reducible exact H) | (have H2_ := (Option.bind_some _ _).symm.trans H; rw [hy127]; with_reducible exact H2_) | (have H2_ := (Option.bind_some _ _).symm.trans H; with_reducible exact H2_) | with_reducible exact H | (rw [hy127]; exact H) | exact H
 have Ny127 := Aside0.mk hy127
 clear hy127
 obtain ⟨y130, hy130⟩ : ∃ y_ : List Int, y_ = (([0, 3] : List Int)) := ⟨_, rfl⟩
 replace H : (some ((([(⟨([] : List Int), true, 1, 10⟩ : S50), (⟨y124, true, 2, 20⟩ : S50), (⟨y127, true, 1, 15⟩ : S50), (⟨([] : List Int), false, 3, 30⟩ : S50), (⟨y130, true, 3, 5⟩ : S50)] : List (S50))), 2, (([(⟨0, true⟩ : S61), (⟨1, true⟩ : S61), (⟨2, false⟩ : S61), (⟨4, false⟩ : S61)] : List (S61))), 1, (([2, 5] : List Int)))) = some (r1, r2, r3, r4, r5) := by first | (rw [hy130]; with_reducible exact H) | (have H2_ := (Option.bind_some _ _).symm.trans H; rw [hy130]; with_reducible exact H2_) | (have H2_ := (Option.bind_some _ _).symm.trans H; with_reducible exact H2_) | with_reducible exact H | (rw [hy130]; exact H) | exact H
 have Ny130 := Aside0.mk hy130
 clear hy130
 obtain ⟨y133, hy133⟩ : ∃ y_ : List (S50), y_ = (([(⟨([] : List Int), true, 1, 10⟩ : S50), (⟨y124, true, 2, 20⟩ : S50), (⟨y127, true, 1, 15⟩ : S50), (⟨([] : List Int), false, 3, 30⟩ : S50), (⟨y130, true, 3, 5⟩ : S50)] : List (S50))) := ⟨_, rfl⟩
 replace H : (some (y133, 2, (([(⟨0, true⟩ : S61), (⟨1, true⟩ : S61), (⟨2, false⟩ : S61), (⟨4, false⟩ : S61)] : List (S61))), 1, (([2, 5] : List Int)))) = some (r1, r2, r3, r4, r5) := by first | (rw [hy133]; with_reducible exact H) | (have H2_ := (Option.bind_some _ _).symm.trans H; rw [hy133]; with_reducible exact H2_) | (have H2_ := (Option.bind_some _ _).symm.trans H; with_reducible exact H2_) | with_reducible exact H | (rw [hy133]; exact H) | exact H
 have Ny133 := Aside0.mk hy133
 clear hy133
 obtain ⟨y136, hy136⟩ : ∃ y_ : List (S61), y_ = (([(⟨0, true⟩ : S61), (⟨1, true⟩ : S61), (⟨2, false⟩ : S61), (⟨4, false⟩ : S61)] : List (S61))) := ⟨_, rfl⟩
 replace H : (some (y133, 2, y136, 1, (([2, 5] : List Int)))) = some (r1, r2, r3, r4, r5) := by first | (rw [hy136]; with_reducible exact H) | (have H2_ := (Option.bind_some _ _).symm.trans H; rw [hy136]; with_reducible exact H2_) | (have H2_ := (Option.bind_some _ _).symm.trans H; with_reducible exact H2_) | with_reducible exact H | (rw [hy136]; exact H) | exact H
 have Ny136 := Aside0.mk hy136
 clear hy136
 obtain ⟨y139, hy139⟩ : ∃ y_ : List Int, y_ = (([2, 5] : List Int)) := ⟨_, rfl⟩
 replace H : (some (y133, 2, y136, 1, y139)) = some (r1, r2, r3, r4, r5) := by first | (rw [hy139]; with_reducible exact H) | (have H2_ := (Option.bind_some _ _).symm.trans H; rw [hy139]; with_reducible exact H2_) | (have H2_ := (Option.bind_some _ _).symm.trans H; with_reducible exact H2_) | with_reducible exact H | (rw [hy139]; exact H) | exact H
 have Ny139 := Aside0.mk hy139
 clear hy139
 simp only [Option.some.injEq, Prod.mk.injEq] at H
 obtain ⟨rfl, rfl, rfl, rfl, rfl⟩ := H
 go_enter Try.func55, Try.ntmps55
 go_wp2_with (first | ((with_reducible refine gate_dst (N := 0) rfl ?_); refine box_event ?hg (N := 0) ?hd (cs := #[.slice none 0 0, .int .i64 0, .slice none 0 0, .int .i64 0, .slice none 0 0]) (t := 26) ?hr ?_; (case hd => rfl); (case hg => rfl); (case hr => first | (go_simp; done) | (go_simp; rfl)); intro gb123 hg w1 hbox hb; have BK123 := Aside0.mk (hbox); have GW123 := Aside0.mk ((by rw [hg]; exact (below_size (below_x HB.out)) : w.heap.size ≤ gb123)); have GE123 := Aside0.mk ((by rw [hg]; exact (below_size (below_x HB.out)) : w.heap.size ≤ gb123)); replace HB := Aside0.mk (below_step (below_x HB.out) hb); clear hb hbox hg) | ((with_reducible refine gate_dst (N := 2) rfl ?_); refine Kd.R_lit (Kd.int .i64) _ 3 ?hg (N := 2) ?hd (xs := ([0] : List Int)) (inner := [.int .i64 0]) (ok := fun _ => True) (okp := fun _ => True) ?hr ?hp (fun _ hk => hk) trivial (Below.refl _ _) (Nat.le_refl _) (by simp) ?_; (case hd => rfl); (case hg => rfl); (case hr => first | (go_simp; done) | (go_simp; rfl)); (case hp => exact (Reps.one (show Kd.M (Kd.int .i64) _ _ _ 0 [.int .i64 0] from rfl) (Reps.none _ _))); intro v125 w2 ho3 hb hg_ hnew_; clear hg_ hnew_; (first | rw [← Ny124.out] at ho3 | (simp only [Int.reduceToNat] at ho3; rw [← Ny124.out] at ho3)); have HO126 := Aside0.mk (Kd.R_lower (Kd.R_newM (M := fun k_ => (w.heap.size ≤ k_)) ho3 (below_size (by exact below_y HB.out)) (fun k_ h_ => h_)) (below_size (by exact below_y HB.out))); replace BK123 := Aside0.mk (blk_below (blk_x BK123.out) hb); replace HB := bl_x HB hb; clear hb ho3; obtain ⟨Ao4, co4, eo4⟩ := Kd.R_slice HO126.out; subst eo4) | ((with_reducible refine gate_dst (N := 4) rfl ?_); refine Kd.R_lit (Kd.int .i64) _ 3 ?hg (N := 4) ?hd (xs := ([1] : List Int)) (inner := [.int .i64 1]) (ok := fun _ => True) (okp := fun _ => True) ?hr ?hp (fun _ hk => hk) trivial (Below.refl _ _) (Nat.le_refl _) (by simp) ?_; (case hd => rfl); (case hg => rfl); (case hr => first | (go_simp; done) | (go_simp; rfl)); (case hp => exact (Reps.one (show Kd.M (Kd.int .i64) _ _ _ 1 [.int .i64 1] from rfl) (Reps.none _ _))); intro v128 w5 ho6 hb hg_ hnew_; clear hg_ hnew_; (first | rw [← Ny127.out] at ho6 | (simp only [Int.reduceToNat] at ho6; rw [← Ny127.out] at ho6)); have HO129 := Aside0.mk (Kd.R_lower (Kd.R_new' (Kd.R_newM (M := fun k_ => (w.heap.size ≤ k_)) ho6 (below_size (by exact below_y HB.out)) (fun k_ h_ => h_)) (Kd.R_lt (Kd.R_x HO126.out))) (below_size (by exact below_y HB.out))); replace HO126 := Aside0.mk (Kd.R_elder' (Kd.R_x HO126.out) (Kd.R_base ho6) hb); replace BK123 := Aside0.mk (blk_below (blk_x BK123.out) hb); replace HB := bl_x HB hb; clear hb ho6; obtain ⟨Ao7, co7, eo7⟩ := Kd.R_slice HO129.out; subst eo7) | ((with_reducible refine gate_dst (N := 7) rfl ?_); refine Kd.R_lit (Kd.int .i64) _ 3 ?hg (N := 7) ?hd (xs := ([0, 3] : List Int)) (inner := [.int .i64 0, .int .i64 3]) (ok := fun _ => True) (okp := fun _ => True) ?hr ?hp (fun _ hk => hk) trivial (Below.refl _ _) (Nat.le_refl _) (by simp) ?_; (case hd => rfl); (case hg => rfl); (case hr => first | (go_simp; done) | (go_simp; rfl)); (case hp => exact (Reps.one (show Kd.M (Kd.int .i64) _ _ _ 0 [.int .i64 0] from rfl) (Reps.one (show Kd.M (Kd.int .i64) _ _ _ 3 [.int .i64 3] from rfl) (Reps.none _ _)))); intro v131 w8 ho9 hb hg_ hnew_; clear hg_ hnew_; (first | rw [← Ny130.out] at ho9 | (simp only [Int.reduceToNat] at ho9; rw [← Ny130.out] at ho9)); have HO132 := Aside0.mk (Kd.R_lower (Kd.R_new' (Kd.R_new' (Kd.R_newM (M := fun k_ => (w.heap.size ≤ k_)) ho9 (below_size (by exact below_y HB.out)) (fun k_ h_ => h_)) (Kd.R_lt (Kd.R_x HO126.out))) (Kd.R_lt (Kd.R_x HO129.out))) (below_size (by exact below_y HB.out))); replace HO126 := Aside0.mk (Kd.R_elder' (Kd.R_x HO126.out) (Kd.R_base ho9) hb); replace HO129 := Aside0.mk (Kd.R_elder' (Kd.R_x HO129.out) (Kd.R_base ho9) hb); replace BK123 := Aside0.mk (blk_below (blk_x BK123.out) hb); replace HB := bl_x HB hb; clear hb ho9; obtain ⟨Ao10, co10, eo10⟩ := Kd.R_slice HO132.out; subst eo10) | ((with_reducible refine gate_dst (N := 9) rfl ?_); refine Kd.N_lit k50 _ 50 ?hg (N' := 9) ?hd (xs := ([(⟨([] : List Int), true, 1, 10⟩ : S50), (⟨y124, true, 2, 20⟩ : S50), (⟨y127, true, 1, 15⟩ : S50), (⟨([] : List Int), false, 3, 30⟩ : S50), (⟨y130, true, 3, 5⟩ : S50)] : List (S50))) (inner := [.slice none 0 0, .bool true, .int .i64 1, .int .i64 10, .slice Ao4 y124.length co4, .bool true, .int .i64 2, .int .i64 20, .slice Ao7 y127.length co7, .bool true, .int .i64 1, .int .i64 15, .slice none 0 0, .bool false, .int .i64 3, .int .i64 30, .slice Ao10 y130.length co10, .bool true, .int .i64 3, .int .i64 5]) (ok := (fun k_ => (w.heap.size ≤ k_) ∧ k_ ≠ gb123)) (okp := (fun k_ => (w.heap.size ≤ k_) ∧ k_ ≠ gb123)) ?hr ?hp (fun _ hk => hk) ((show ∀ k_, w8.heap.size ≤ k_ → (fun k_ => (w.heap.size ≤ k_) ∧ k_ ≠ gb123) k_ from fun k_ hk => ⟨(Nat.le_trans (below_size (by exact below_y HB.out)) hk), Kd.freshB (g := gb123) (o := .cells #[.slice none 0 0, .int .i64 0, .slice none 0 0, .int .i64 0, .slice none 0 0] 26 (0, 0)) (blk_x BK123.out) k_ hk⟩) _ (Nat.le_refl _)) (Below.refl _ _) (Nat.le_refl _) (by simp) ?_; (case hd => rfl); (case hg => rfl); (case hr => first | (go_simp; done) | (go_simp; rfl)); (case hp => exact (Reps.c4 (show Kd.FK k50 _ _ (⟨([] : List Int), true, 1, 10⟩ : S50) [.slice none 0 0, .bool true, .int .i64 1, .int .i64 10] from (k50_mkF _ _ (⟨([] : List Int), true, 1, 10⟩ : S50) (Nat.le_refl _) (Kd.F_nil _ _ _))) (Reps.c4 (show Kd.FK k50 _ _ (⟨y124, true, 2, 20⟩ : S50) [.slice Ao4 y124.length co4, .bool true, .int .i64 2, .int .i64 20] from (k50_mkF _ _ (⟨y124, true, 2, 20⟩ : S50) (Kd.R_reads' (Kd.R_mono (ok' := (fun k_ => (w.heap.size ≤ k_) ∧ k_ ≠ gb123)) (Kd.R_types (HO126.out) BK123.out (by decide)) (fun k_ hk => ⟨hk.1.1.1.1, hk.2⟩))).2.1 (Kd.R_F (Kd.R_mono (ok' := (fun k_ => (w.heap.size ≤ k_) ∧ k_ ≠ gb123)) (Kd.R_types (HO126.out) BK123.out (by decide)) (fun k_ hk => ⟨hk.1.1.1.1, hk.2⟩))))) (Reps.c4 (show Kd.FK k50 _ _ (⟨y127, true, 1, 15⟩ : S50) [.slice Ao7 y127.length co7, .bool true, .int .i64 1, .int .i64 15] from (k50_mkF _ _ (⟨y127, true, 1, 15⟩ : S50) (Kd.R_reads' (Kd.R_mono (ok' := (fun k_ => (w.heap.size ≤ k_) ∧ k_ ≠ gb123)) (Kd.R_types (HO129.out) BK123.out (by decide)) (fun k_ hk => ⟨hk.1.1.1.1, hk.2⟩))).2.1 (Kd.R_F (Kd.R_mono (ok' := (fun k_ => (w.heap.size ≤ k_) ∧ k_ ≠ gb123)) (Kd.R_types (HO129.out) BK123.out (by decide)) (fun k_ hk => ⟨hk.1.1.1.1, hk.2⟩))))) (Reps.c4 (show Kd.FK k50 _ _ (⟨([] : List Int), false, 3, 30⟩ : S50) [.slice none 0 0, .bool false, .int .i64 3, .int .i64 30] from (k50_mkF _ _ (⟨([] : List Int), false, 3, 30⟩ : S50) (Nat.le_refl _) (Kd.F_nil _ _ _))) (Reps.c4 (show Kd.FK k50 _ _ (⟨y130, true, 3, 5⟩ : S50) [.slice Ao10 y130.length co10, .bool true, .int .i64 3, .int .i64 5] from (k50_mkF _ _ (⟨y130, true, 3, 5⟩ : S50) (Kd.R_reads' (Kd.R_mono (ok' := (fun k_ => (w.heap.size ≤ k_) ∧ k_ ≠ gb123)) (Kd.R_types (HO132.out) BK123.out (by decide)) (fun k_ hk => ⟨hk.1.1.1.1, hk.2⟩))).2.1 (Kd.R_F (Kd.R_mono (ok' := (fun k_ => (w.heap.size ≤ k_) ∧ k_ ≠ gb123)) (Kd.R_types (HO132.out) BK123.out (by decide)) (fun k_ hk => ⟨hk.1.1.1.1, hk.2⟩))))) (Reps.none _ _))))))); intro v134 w11 ho12 hb hg_ hnew_; clear hg_ hnew_; (first | rw [← Ny133.out] at ho12 | (simp only [Int.reduceToNat] at ho12; rw [← Ny133.out] at ho12)); have HO135 := Aside0.mk (Kd.N_lower ho12 (below_size (by exact below_y HB.out))); replace BK123 := Aside0.mk (blk_below (blk_x BK123.out) hb); replace HB := bl_x HB hb; clear HO126 HO129 HO132; clear hb ho12) | ((with_reducible refine gate_dst (N := 14) rfl ?_); refine Kd.R_lit k61 _ 61 ?hg (N := 14) ?hd (xs := ([(⟨0, true⟩ : S61), (⟨1, true⟩ : S61), (⟨2, false⟩ : S61), (⟨4, false⟩ : S61)] : List (S61))) (inner := [.int .i64 0, .bool true, .int .i64 1, .bool true, .int .i64 2, .bool false, .int .i64 4, .bool false]) (ok := fun _ => True) (okp := fun _ => True) ?hr ?hp (fun _ hk => hk) trivial (Below.refl _ _) (Nat.le_refl _) (by simp) ?_; (case hd => rfl); (case hg => rfl); (case hr => first | (go_simp; done) | (go_simp; rfl)); (case hp => exact (Reps.c2 (show Kd.M k61 _ _ _ (⟨0, true⟩ : S61) [.int .i64 0, .bool true] from (k61_mkM _ _ _ (⟨0, true⟩ : S61) )) (Reps.c2 (show Kd.M k61 _ _ _ (⟨1, true⟩ : S61) [.int .i64 1, .bool true] from (k61_mkM _ _ _ (⟨1, true⟩ : S61) )) (Reps.c2 (show Kd.M k61 _ _ _ (⟨2, false⟩ : S61) [.int .i64 2, .bool false] from (k61_mkM _ _ _ (⟨2, false⟩ : S61) )) (Reps.c2 (show Kd.M k61 _ _ _ (⟨4, false⟩ : S61) [.int .i64 4, .bool false] from (k61_mkM _ _ _ (⟨4, false⟩ : S61) )) (Reps.none _ _)))))); intro v137 w13 ho14 hb hg_ hnew_; clear hg_ hnew_; (first | rw [← Ny136.out] at ho14 | (simp only [Int.reduceToNat] at ho14; rw [← Ny136.out] at ho14)); replace HO135 := Aside0.mk (Kd.N_elder' (Kd.N_x HO135.out) (Kd.R_base ho14) hb); have HO138 := Aside0.mk (Kd.R_lower (Kd.R_newM (M := fun k_ => (w.heap.size ≤ k_)) ho14 (below_size (by exact below_y HB.out)) (fun k_ h_ => h_)) (below_size (by exact below_y HB.out))); replace BK123 := Aside0.mk (blk_below (blk_x BK123.out) hb); replace HB := bl_x HB hb; clear hb ho14) | ((with_reducible refine gate_dst (N := 15) rfl ?_); refine Kd.R_lit (Kd.int .i64) _ 3 ?hg (N := 15) ?hd (xs := ([2, 5] : List Int)) (inner := [.int .i64 2, .int .i64 5]) (ok := fun _ => True) (okp := fun _ => True) ?hr ?hp (fun _ hk => hk) trivial (Below.refl _ _) (Nat.le_refl _) (by simp) ?_; (case hd => rfl); (case hg => rfl); (case hr => first | (go_simp; done) | (go_simp; rfl)); (case hp => exact (Reps.one (show Kd.M (Kd.int .i64) _ _ _ 2 [.int .i64 2] from rfl) (Reps.one (show Kd.M (Kd.int .i64) _ _ _ 5 [.int .i64 5] from rfl) (Reps.none _ _)))); intro v140 w15 ho16 hb hg_ hnew_; clear hg_ hnew_; (first | rw [← Ny139.out] at ho16 | (simp only [Int.reduceToNat] at ho16; rw [← Ny139.out] at ho16)); replace HO135 := Aside0.mk (Kd.N_elder' (Kd.N_x HO135.out) (Kd.R_base ho16) hb); replace HO138 := Aside0.mk (Kd.R_below (Kd.R_x HO138.out) hb); have HO141 := Aside0.mk (Kd.R_lower (Kd.R_newM (M := fun k_ => (w.heap.size ≤ k_)) ho16 (below_size (by exact below_y HB.out)) (fun k_ h_ => h_)) (below_size (by exact below_y HB.out))); replace BK123 := Aside0.mk (blk_below (blk_x BK123.out) hb); replace HB := bl_x HB hb; clear hb ho16; obtain ⟨Ao17, co17, eo17⟩ := Kd.R_slice HO141.out; subst eo17; obtain ⟨Ao18, co18, eo18⟩ := Kd.R_slice HO138.out; subst eo18; obtain ⟨Ao19, co19, eo19⟩ := Kd.N_slice HO135.out; subst eo19; obtain ⟨_, _, _, _, _⟩ := cz5 BK123; have hfz20_0 := blk_frozen BK123.out))
 refine bodyPost_ret (results_cell_row rfl _ _ gb123 26 #[.slice Ao19 y133.length co19, .int .i64 2, .slice Ao18 y136.length co18, .int .i64 1, .slice Ao17 y139.length co17] (0, 0) _ rfl (by (with_reducible repeat (first | refine blk_drewN ?_ _ | refine blk_drew ?_ | refine blk_alloc ?_ _)); refine blk_put (cs := #[.slice Ao19 y133.length co19, .int .i64 2, .slice Ao18 y136.length co18, .int .i64 1, .slice none 0 0]) ?_ 4 _ rfl; (with_reducible repeat (first | refine blk_drewN ?_ _ | refine blk_drew ?_ | refine blk_alloc ?_ _)); refine blk_put (cs := #[.slice Ao19 y133.length co19, .int .i64 2, .slice Ao18 y136.length co18, .int .i64 0, .slice none 0 0]) ?_ 3 _ rfl; (with_reducible repeat (first | refine blk_drewN ?_ _ | refine blk_drew ?_ | refine blk_alloc ?_ _)); refine blk_put (cs := #[.slice Ao19 y133.length co19, .int .i64 2, .slice none 0 0, .int .i64 0, .slice none 0 0]) ?_ 2 _ rfl; (with_reducible repeat (first | refine blk_drewN ?_ _ | refine blk_drew ?_ | refine blk_alloc ?_ _)); refine blk_put (cs := #[.slice Ao19 y133.length co19, .int .i64 0, .slice none 0 0, .int .i64 0, .slice none 0 0]) ?_ 1 _ rfl; (with_reducible repeat (first | refine blk_drewN ?_ _ | refine blk_drew ?_ | refine blk_alloc ?_ _)); refine blk_put (cs := #[.slice none 0 0, .int .i64 0, .slice none 0 0, .int .i64 0, .slice none 0 0]) ?_ 0 _ rfl; (with_reducible repeat (first | refine blk_drewN ?_ _ | refine blk_drew ?_ | refine blk_alloc ?_ _)); exact BK123.out) Try.underlying26 rfl (by kernel_rfl)) rfl ?_
 exact ⟨_, _, _, by first | rfl | (simp [errW_none, errW_some] <;> rfl) | (simp [*, errW_none, errW_some] <;> rfl), by (with_reducible repeat (first | apply Kd.N_alloc | apply Kd.N_drewN | apply Kd.N_drew)); exact Kd.N_mono (Kd.N_far (p := ⟨gb123, 4, none⟩) (Kd.N_far (p := ⟨gb123, 3, none⟩) (Kd.N_far (p := ⟨gb123, 2, none⟩) (Kd.N_far (p := ⟨gb123, 1, none⟩) (Kd.N_far (p := ⟨gb123, 0, none⟩) (Kd.N_mono HO135.out (fun k_ hk => (⟨hk, hk.1.1.2⟩ : _ ∧ k_ ≠ gb123))) (fun _ hk => hk.2) (.slice Ao19 y133.length co19)) (fun _ hk => hk.2) (.int .i64 2)) (fun _ hk => hk.2) (.slice Ao18 y136.length co18)) (fun _ hk => hk.2) (.int .i64 1)) (fun _ hk => hk.2) (.slice Ao17 y139.length co17)) (fun _ hk => ⟨hk.1.1.1.1, ⟨hk.1.1.2, hk.1.2⟩⟩), by (with_reducible repeat (first | apply Kd.R_alloc | apply Kd.R_drewN | apply Kd.R_drew)); exact Kd.R_mono (Kd.R_far (p := ⟨gb123, 4, none⟩) (Kd.R_far (p := ⟨gb123, 3, none⟩) (Kd.R_far (p := ⟨gb123, 2, none⟩) (Kd.R_far (p := ⟨gb123, 1, none⟩) (Kd.R_far (p := ⟨gb123, 0, none⟩) (Kd.R_types HO138.out BK123.out (by decide)) (fun _ hk => hk.2) (.slice Ao19 y133.length co19)) (fun _ hk => hk.2) (.int .i64 2)) (fun _ hk => hk.2) (.slice Ao18 y136.length co18)) (fun _ hk => hk.2) (.int .i64 1)) (fun _ hk => hk.2) (.slice Ao17 y139.length co17)) (fun _ hk => hk.1.1), by (with_reducible repeat (first | apply Kd.R_alloc | apply Kd.R_drewN | apply Kd.R_drew)); exact Kd.R_mono (Kd.R_far (p := ⟨gb123, 4, none⟩) (Kd.R_far (p := ⟨gb123, 3, none⟩) (Kd.R_far (p := ⟨gb123, 2, none⟩) (Kd.R_far (p := ⟨gb123, 1, none⟩) (Kd.R_far (p := ⟨gb123, 0, none⟩) (Kd.R_types HO141.out BK123.out (by decide)) (fun _ hk => hk.2) (.slice Ao19 y133.length co19)) (fun _ hk => hk.2) (.int .i64 2)) (fun _ hk => hk.2) (.slice Ao18 y136.length co18)) (fun _ hk => hk.2) (.int .i64 1)) (fun _ hk => hk.2) (.slice Ao17 y139.length co17)) (fun _ hk => hk.1.1), by exact below_y HB.out⟩
def swarflaw04_awake.f (k : Nat)  : Option (Bool) := (swarflaw04_car.f).bind fun bt142 => ((strip_Out.f bt142.1 bt142.2.1 bt142.2.2.1 bt142.2.2.2.1 bt142.2.2.2.2).bind fun bt153 => ((swarflaw04_car.f).bind fun bt157 => ((strip_Clean.f bt157.1 bt157.2.1 bt157.2.2.1 bt157.2.2.2.1 bt157.2.2.2.2).bind fun bt168 => ((swarflaw04_car.f).bind fun bt170 => ((strip_Work.f bt170.1 bt170.2.1 bt170.2.2.1 bt170.2.2.2.1 bt170.2.2.2.2).bind fun bt181 => (if bt153.2 = 0 then (if bt168.2 = 0 then (if bt181.2.2 = 0 then (if bt168.1 = 2 then (if bt181.2.1 = 74 then ((swarfkit_EqualInts.f k bt153.1 (([1, 3, 3, 3, 3] : List Int))).bind fun t189 => (if t189 = true then ((swarfkit_EqualInts.f k bt181.1 (([1, 2, 3, 4] : List Int))).bind fun t193 => (some t193)) else (some false))) else (some false)) else (some false)) else (some false)) else (some false)) else (some false)))))))
theorem swarflaw04_awake.mono : ∀ k, LeO (swarflaw04_awake.f k ) (swarflaw04_awake.f (k + 1) ) := by
 intro  k
 unfold swarflaw04_awake.f
 repeat' first
   | (with_reducible exact swarfkit_EqualInts.mono _ _ _)
   | (with_reducible exact LeO.refl _)
   | (with_reducible exact LeO.none _)
   | (with_reducible refine LeO.ite ?_ ?_)
   | (with_reducible refine LeO.bind ?_ (fun _ => ?_))
   | exact swarfkit_EqualInts.mono _ _ _
   | exact LeO.none _
   | refine LeO.ite ?_ ?_
   | refine LeO.bind ?_ (fun _ => ?_)
end Go.Proofs.Ytkkmfcdikkiodaa.PC4
namespace Go.Proofs.Ytkkmfcdikkiodaa.PC4
set_option linter.unusedVariables false
open Go.RowKit Go.Proofs.YtkkmfcdikkiodaaW.PrintWords Go.Proofs.YtkkmfcdikkiodaaW.PrintLast Go.Proofs.YtkkmfcdikkiodaaW.PrintMore
def feedA (s : Int) : Int := Go.bits .xor .u64 s (IntKind.u64.wrap (s * 8192))
def feedB (s : Int) : Int := Go.bits .xor .u64 s (s / 128)
def feedC (s : Int) : Int := Go.bits .xor .u64 s (IntKind.u64.wrap (s * 131072))
def feedM (s : Int) : Int := IntKind.u64.wrap (s * 2685821657736338717)
def feedN (s : Int) : Int := feedC (feedB (feedA (if s = 0 then 1 else s)))
def swarfkit_Feed_next.f (s0_0 : Int) : Option (Int × Int) := some (feedM (feedN s0_0), feedN s0_0)
structure FeedAt (w0 w W : World) (g : Nat) (x : Int) : Prop where
  is : IsS79 w0 W g x
  be : Below w0.heap.size w0 W
  ke : KeepBut w W g none
theorem FeedAt.next {w0 w W : World} {g : Nat} {x : Int} (h : FeedAt w0 w W g x) (y : Int) : FeedAt w0 w (W.setCell ⟨g, 0, none⟩ (.int .u64 y)) g y :=
  ⟨h.is.set_0 y, below_set h.be h.is.ge, h.ke.set_ 0 _⟩
theorem FeedAt.drew {w0 w W : World} {g : Nat} {x : Int} (h : FeedAt w0 w W g x) : FeedAt w0 w W.drew g x := ⟨h.is.drew, h.be.drew, h.ke⟩
theorem FeedAt.cell {w0 w W : World} {g : Nat} {x : Int} (h : FeedAt w0 w W g x) : W.cell? ⟨g, 0, none⟩ = some (.int .u64 x) := (blk_cell h.is.1 0).trans rfl
theorem FeedAt.free {w0 w W : World} {g : Nat} {x : Int} (h : FeedAt w0 w W g x) : W.frozen? ⟨g, 0, none⟩ = false := blk_frozen h.is.1 0
set_option maxHeartbeats 4000000 in
set_option maxRecDepth 100000 in
theorem feed_nz (g : Nat) (s0_0 : Int) (w0 w : World) (hI : IsS79 w0 w g s0_0) (hB : Below w0.heap.size w0 w) (hz : (s0_0 == 0) = false) :
    Calls Try.prog 56 #[.pointer (some ⟨g, 0, none⟩)] w fun e w' => e = .returned (.int .u64 (feedM (feedC (feedB (feedA s0_0))))) ∧ FeedAt w0 w w' g (feedC (feedB (feedA s0_0))) := by
  have hu79 := Try.underlying79
  have F := Aside0.mk (FeedAt.mk hI hB (KeepBut.refl w g none))
  have hc := F.out.cell
  have hf := F.out.free
  clear hI hB
  go_enter Try.func56, Try.ntmps56
  go_wp2
  go_region
  go_wp2
  have F1 := Aside0.mk (F.out.next (feedA s0_0)).drew
  clear hc hf
  generalize hx1 : bits BinOp.xor IntKind.u64 s0_0 (IntKind.u64.wrap (s0_0 * 8192)) = x1
  have hy1 : feedA s0_0 = x1 := hx1
  rw [hy1] at F1
  generalize hw1 : (w.setCell ⟨g, 0, none⟩ (.int .u64 x1)).drew = w1
  rw [hw1] at F1
  have hc1 := F1.out.cell
  have hf1 := F1.out.free
  have Hx1 := Aside0.mk hy1
  clear hx1 hw1 hy1
  go_region
  go_wp2
  have F2 := Aside0.mk (F1.out.next (feedB x1)).drew
  clear hc1 hf1
  generalize hx2 : bits BinOp.xor IntKind.u64 x1 (x1 / 128) = x2
  have hy2 : feedB x1 = x2 := hx2
  rw [hy2] at F2
  generalize hw2 : (w1.setCell ⟨g, 0, none⟩ (.int .u64 x2)).drew = w2
  rw [hw2] at F2
  have hc2 := F2.out.cell
  have hf2 := F2.out.free
  have Hx2 := Aside0.mk hy2
  clear hx2 hw2 hy2
  go_region
  have F3 := Aside0.mk (F2.out.next (feedC x2)).drew
  clear hc2 hf2
  generalize hx3 : bits BinOp.xor IntKind.u64 x2 (IntKind.u64.wrap (x2 * 131072)) = x3
  have hy3 : feedC x2 = x3 := hx3
  rw [hy3] at F3
  generalize hw3 : (w2.setCell ⟨g, 0, none⟩ (.int .u64 x3)).drew = w3
  rw [hw3] at F3
  have hc3 := F3.out.cell
  have Hx3 := Aside0.mk hy3
  clear hx3 hw3 hy3
  go_wp2
  go_ret
  rw [Hx1.out, Hx2.out, Hx3.out]
  exact ⟨rfl, F3.out⟩
set_option maxHeartbeats 4000000 in
set_option maxRecDepth 100000 in
theorem feed_z (g : Nat) (w0 w : World) (hI : IsS79 w0 w g 0) (hB : Below w0.heap.size w0 w) :
    Calls Try.prog 56 #[.pointer (some ⟨g, 0, none⟩)] w fun e w' => e = .returned (.int .u64 (feedM (feedC (feedB (feedA 1))))) ∧ FeedAt w0 w w' g (feedC (feedB (feedA 1))) := by
  have hu79 := Try.underlying79
  have F := Aside0.mk (FeedAt.mk hI hB (KeepBut.refl w g none))
  have hc := F.out.cell
  have hf := F.out.free
  clear hI hB
  go_enter Try.func56, Try.ntmps56
  go_wp2
  have F0 := Aside0.mk (F.out.next 1)
  clear hc hf
  generalize hw0 : w.setCell ⟨g, 0, none⟩ (.int .u64 1) = W0
  rw [hw0] at F0
  obtain ⟨x0, hx0⟩ : ∃ x0 : Int, x0 = 1 := ⟨_, rfl⟩
  rw [← hx0] at F0
  have Hx0 := Aside0.mk hx0
  clear hx0 hw0
  have hc0 := F0.out.cell
  have hf0 := F0.out.free
  go_region
  go_wp2
  have F1 := Aside0.mk (F0.out.next (feedA x0)).drew
  clear hc0 hf0
  generalize hx1 : bits BinOp.xor IntKind.u64 x0 (IntKind.u64.wrap (x0 * 8192)) = x1
  have hy1 : feedA x0 = x1 := hx1
  rw [hy1] at F1
  generalize hw1 : (W0.setCell ⟨g, 0, none⟩ (.int .u64 x1)).drew = w1
  rw [hw1] at F1
  have hc1 := F1.out.cell
  have hf1 := F1.out.free
  have Hx1 := Aside0.mk hy1
  clear hx1 hw1 hy1
  go_region
  go_wp2
  have F2 := Aside0.mk (F1.out.next (feedB x1)).drew
  clear hc1 hf1
  generalize hx2 : bits BinOp.xor IntKind.u64 x1 (x1 / 128) = x2
  have hy2 : feedB x1 = x2 := hx2
  rw [hy2] at F2
  generalize hw2 : (w1.setCell ⟨g, 0, none⟩ (.int .u64 x2)).drew = w2
  rw [hw2] at F2
  have hc2 := F2.out.cell
  have hf2 := F2.out.free
  have Hx2 := Aside0.mk hy2
  clear hx2 hw2 hy2
  go_region
  have F3 := Aside0.mk (F2.out.next (feedC x2)).drew
  clear hc2 hf2
  generalize hx3 : bits BinOp.xor IntKind.u64 x2 (IntKind.u64.wrap (x2 * 131072)) = x3
  have hy3 : feedC x2 = x3 := hx3
  rw [hy3] at F3
  generalize hw3 : (w2.setCell ⟨g, 0, none⟩ (.int .u64 x3)).drew = w3
  rw [hw3] at F3
  have hc3 := F3.out.cell
  have Hx3 := Aside0.mk hy3
  clear hx3 hw3 hy3
  go_wp2
  go_ret
  rw [← Hx0.out, Hx1.out, Hx2.out, Hx3.out]
  exact ⟨rfl, F3.out⟩
theorem swarfkit_Feed_next.calls (g : Nat) (s0_0 : Int) (r1 : Int) (r2 : Int) (w0 w : World) (hI : IsS79 w0 w g s0_0) (hB : Below w0.heap.size w0 w) (h : swarfkit_Feed_next.f s0_0 = some (r1, r2)) :
    Calls Try.prog 56 #[.pointer (some ⟨g, 0, none⟩)] w fun e w' => e = .returned (.int .u64 r1) ∧ IsS79 w0 w' g r2 ∧ Below w0.heap.size w0 w' ∧ KeepBut w w' g none := by
  simp only [swarfkit_Feed_next.f, feedN, Option.some.injEq, Prod.mk.injEq] at h
  obtain ⟨rfl, rfl⟩ := h
  by_cases hz : s0_0 = 0
  · subst hz
    exact (feed_z g w0 w hI hB).mono fun e w' ⟨he, hF⟩ => ⟨he, hF.is, hF.be, hF.ke⟩
  · rw [if_neg hz]
    exact (feed_nz g s0_0 w0 w hI hB (by simpa using hz)).mono fun e w' ⟨he, hF⟩ => ⟨he, hF.is, hF.be, hF.ke⟩
end Go.Proofs.Ytkkmfcdikkiodaa.PC4
namespace Go.Proofs.Ytkkmfcdikkiodaa.PC4
open Go.RowKit Go.Proofs.YtkkmfcdikkiodaaW.PrintWords Go.Proofs.YtkkmfcdikkiodaaW.PrintLast Go.Proofs.YtkkmfcdikkiodaaW.PrintMore
attribute [local go_sem] max2_int min2_int max_two min_two max_three min_three max_four min_four
set_option linter.unusedVariables false
set_option linter.unusedSimpArgs false
def swarfkit_Feed_Below.f (s0_0 : Int) (a1 : Int) : Option (Int × Int) := if a1 < 2 then (some (0, s0_0)) else ((swarfkit_Feed_next.f s0_0).bind fun bt194 => (if (IntKind.u64.wrap (a1)) = 0 then (none) else (some (wrap64 (Int.tmod (bt194.1 / 256) (IntKind.u64.wrap (a1))), bt194.2))))
set_option maxHeartbeats 8000000 in
set_option maxRecDepth 100000 in
theorem swarfkit_Feed_Below.calls (g : Nat) (s0_0 : Int) (a1 : Int) (r1 : Int) (r2 : Int) (w0 w : World) (hI : IsS79 w0 w g s0_0) (hB : Below w0.heap.size w0 w) (h : swarfkit_Feed_Below.f s0_0 a1 = some (r1, r2)) :
  Calls Try.prog 25 #[.pointer (some ⟨g, 0, none⟩), .int .i64 a1] w fun e w' => e = .returned (.int .i64 r1) ∧ IsS79 w0 w' g r2 ∧ Below w0.heap.size w0 w' ∧ KeepBut w w' g none := by
 have HI0 := Aside0.mk hI
 have HK := Aside0.mk (KeepBut.refl w g none)
 have HL := Aside0.mk hB.size
 clear hI
 have HW0 := Aside0.mk hB.size
 have HB := Aside0.mk hB
 clear hB
 have H : (if a1 < 2 then (some (0, s0_0)) else ((swarfkit_Feed_next.f s0_0).bind fun bt194 => (if (IntKind.u64.wrap (a1)) = 0 then (none) else (some (wrap64 (Int.tmod (bt194.1 / 256) (IntKind.u64.wrap (a1))), bt194.2))))) = some (r1, r2) := h
 clear h
 by_cases c3 : a1 < 2
 ·
  rw [if_pos c3] at H
  have c3b0 : decide (a1 < 2) = true := decide_eq_true c3
  clear c3
  simp only [Option.some.injEq, Prod.mk.injEq] at H
  obtain ⟨rfl, rfl⟩ := H
  go_enter Try.func25, Try.ntmps25
  go_wp2
  go_ret
  exact ⟨by first | rfl | (simp [errW_none, errW_some] <;> rfl) | (simp [*, errW_none, errW_some] <;> rfl), by exact IsS79.up HI0.out, by exact below_y HB.out, by exact keep_y HK.out⟩
 ·
  rw [if_neg c3] at H
  have c3b0 : decide (a1 < 2) = false := decide_eq_false c3
  clear c3
  replace H := Option.bind_eq_some_iff.mp H
  obtain ⟨⟨t194, t195⟩, A40, H⟩ := H
  try dsimp only at H
  have A4 := Aside0.mk A40
  clear A40
  by_cases c5 : (IntKind.u64.wrap (a1)) = 0
  ·
   rw [if_pos c5] at H
   exact absurd H (by simp)
  ·
   rw [if_neg c5] at H
   have c5b0 : ((IntKind.u64.wrap (a1)) == 0) = false := beq_eq_false_iff_ne.mpr c5
   have c5b1 : ((IntKind.u64.wrap (a1)) != 0) = true := bne_iff_ne.mpr c5
   simp only [Option.some.injEq, Prod.mk.injEq] at H
   obtain ⟨rfl, rfl⟩ := H
   go_enter Try.func25, Try.ntmps25
   go_wp2_with (first | ((with_reducible refine gate_callee (f := 56) rfl ?_); refine goesL_ (some 8) rfl rfl Try.func56 (by kernel_rfl) rfl #[.pointer (some ⟨g, 0, none⟩)] rfl (by (try simp only [List.map_toArray, List.map_cons, List.map_nil]); first | done | rfl | (simp only [List.length_drop, List.length_take]; rfl)) ?_; (with_reducible refine (swarfkit_Feed_next.calls g s0_0 t194 t195 w0 _ ?side1 ?side2 A4.out).mono ?_); (case side1 => exact IsS79.up HI0.out); (case side2 => exact below_y HB.out); rintro e w6 ⟨rfl, hi, hb, hk⟩; refine ⟨_, rfl, ?_⟩; replace HK := Aside0.mk (KeepBut.trans (by exact keep_y HK.out) hk (.inl rfl)); replace HB := Aside0.mk (hb); replace HI0 := Aside0.mk (hi); (try clear hb); (try clear hk); (try clear hi)))
   go_ret
   exact ⟨by first | rfl | (simp [errW_none, errW_some] <;> rfl) | (simp [*, errW_none, errW_some] <;> rfl), by exact IsS79.up HI0.out, by exact below_y HB.out, by exact keep_y HK.out⟩
def swarfkit_Feed_Either.f (s0_0 : Int) (l1 : List Int) : Option (Int × Int) := if (l1.length : Int) = 0 then (some (0, s0_0)) else ((swarfkit_Feed_Below.f s0_0 (l1.length : Int)).bind fun bt196 => (if 0 ≤ bt196.1 then (if bt196.1 < (l1.length : Int) then (some (rd l1 bt196.1, bt196.2)) else (none)) else (none)))
set_option maxHeartbeats 8000000 in
set_option maxRecDepth 100000 in
theorem swarfkit_Feed_Either.calls (g : Nat) (s0_0 : Int) (A1 : Option Addr) (c1 : Nat) (l1 : List Int) (r1 : Int) (r2 : Int) (w0 w : World) (hI : IsS79 w0 w g s0_0) (hB : Below w0.heap.size w0 w) (hr1 : Kd.C (Kd.int .i64) w A1 l1.length l1) (hc1 : l1.length ≤ c1) (hf1 : ∀ ad, A1 = some ad → 0 < l1.length → ad.block ≠ g) (h : swarfkit_Feed_Either.f s0_0 l1 = some (r1, r2)) :
  Calls Try.prog 24 #[.pointer (some ⟨g, 0, none⟩), .slice A1 l1.length c1] w fun e w' => e = .returned (.int .i64 r1) ∧ IsS79 w0 w' g r2 ∧ Below w0.heap.size w0 w' ∧ KeepBut w w' g none := by
 have HR1 := Aside0.mk hr1
 have HC1 := Aside0.mk hc1
 clear hr1 hc1
 have HI0 := Aside0.mk hI
 have HK := Aside0.mk (KeepBut.refl w g none)
 have HL := Aside0.mk hB.size
 clear hI
 have HW0 := Aside0.mk hB.size
 have HB := Aside0.mk hB
 clear hB
 have H : (if (l1.length : Int) = 0 then (some (0, s0_0)) else ((swarfkit_Feed_Below.f s0_0 (l1.length : Int)).bind fun bt196 => (if 0 ≤ bt196.1 then (if bt196.1 < (l1.length : Int) then (some (rd l1 bt196.1, bt196.2)) else (none)) else (none)))) = some (r1, r2) := h
 clear h
 by_cases c3 : (l1.length : Int) = 0
 ·
  rw [if_pos c3] at H
  have c3b0 : ((l1.length : Int) == 0) = true := beq_iff_eq.mpr c3
  have c3b1 : ((l1.length : Int) != 0) = false := bne_eq_false_iff_eq.mpr c3
  clear c3
  simp only [Option.some.injEq, Prod.mk.injEq] at H
  obtain ⟨rfl, rfl⟩ := H
  go_enter Try.func24, Try.ntmps24
  go_wp2
  go_ret
  exact ⟨by first | rfl | (simp [errW_none, errW_some] <;> rfl) | (simp [*, errW_none, errW_some] <;> rfl), by exact IsS79.up HI0.out, by exact below_y HB.out, by exact keep_y HK.out⟩
 ·
  rw [if_neg c3] at H
  have c3b0 : ((l1.length : Int) == 0) = false := beq_eq_false_iff_ne.mpr c3
  have c3b1 : ((l1.length : Int) != 0) = true := bne_iff_ne.mpr c3
  have c3b2 : ¬ (l1 = []) := fun h_ => c3 (by rw [h_]; rfl)
  replace H := Option.bind_eq_some_iff.mp H
  obtain ⟨⟨t196, t197⟩, A40, H⟩ := H
  try dsimp only at H
  have A4 := Aside0.mk A40
  clear A40
  by_cases c5 : 0 ≤ t196
  ·
   rw [if_pos c5] at H
   have c5b0 : decide (0 ≤ t196) = true := decide_eq_true c5
   clear c5
   by_cases c6 : t196 < (l1.length : Int)
   ·
    rw [if_pos c6] at H
    have c6b0 : decide (t196 < (l1.length : Int)) = true := decide_eq_true c6
    clear c6
    simp only [Option.some.injEq, Prod.mk.injEq] at H
    obtain ⟨rfl, rfl⟩ := H
    go_enter Try.func24, Try.ntmps24
    go_wp2_with (first | ((with_reducible refine gate_callee (f := 25) rfl ?_); refine goesL_ (some 12) rfl rfl Try.func25 (by kernel_rfl) rfl #[.pointer (some ⟨g, 0, none⟩), .int .i64 (l1.length : Int)] rfl (by (try simp only [List.map_toArray, List.map_cons, List.map_nil]); first | done | rfl | (simp only [List.length_drop, List.length_take]; rfl)) ?_; (with_reducible refine (swarfkit_Feed_Below.calls g s0_0 (l1.length : Int) t196 t197 w0 _ ?side1 ?side2 A4.out).mono ?_); (case side1 => exact IsS79.up HI0.out); (case side2 => exact below_y HB.out); rintro e w7 ⟨rfl, hi, hb, hk⟩; refine ⟨_, rfl, ?_⟩; replace HK := Aside0.mk (KeepBut.trans (by exact keep_y HK.out) hk (.inl rfl)); replace HB := Aside0.mk (hb); replace HI0 := Aside0.mk (hi); (try clear hb); (try clear hk); (try clear hi); have p198 : 0 ≤ (t196 : Int) := of_x; have q198 : t196 < (l1.length : Int) := of_x; obtain ⟨ad198, e198, hx198_0⟩ := Kd.at_int HR1.out t196 p198 q198; cases e198; replace hx198_0 := keep_cell HK.out hx198_0 (by first | (rw [add_block]; exact hf1 _ rfl (by omega)) | exact hf1 _ rfl (by omega) | exact hf1 ad198 rfl (by omega)); replace p198 := eq_true p198; replace q198 := eq_true q198))
    go_ret
    exact ⟨by first | rfl | (simp [errW_none, errW_some] <;> rfl) | (simp [*, errW_none, errW_some] <;> rfl), by exact IsS79.up HI0.out, by exact below_y HB.out, by exact keep_y HK.out⟩
   ·
    rw [if_neg c6] at H
    exact absurd H (by simp)
  ·
   rw [if_neg c5] at H
   exact absurd H (by simp)
def swarfref04_Wrongs.l0 : Nat → List Bool → Int → Int → List (S50) → Int → List (S61) → Int → List Int → Option (Int)
 | 0, _, _, _, _, _, _, _, _ => none
 | k + 1, x1, x5, x6, x200000, x200001, x200002, x200003, x200004 => if x6 < (x200002.length : Int) then (if 0 ≤ x6 then (if 0 ≤ ((rd_T61 x200002 x6).f0) then (if ((rd_T61 x200002 x6).f0) < (x1.length : Int) then (if ((rdOf false x1 ((rd_T61 x200002 x6).f0)) != ((rd_T61 x200002 x6).f1)) = true then (swarfref04_Wrongs.l0 k x1 (wrap64 (x5 + 1)) (wrap64 (x6 + 1)) x200000 x200001 x200002 x200003 x200004) else (swarfref04_Wrongs.l0 k x1 x5 (wrap64 (x6 + 1)) x200000 x200001 x200002 x200003 x200004)) else (none)) else (none)) else (none)) else (some x5)
def swarfref04_Wrongs.f (k : Nat) (l0_0 : List (S50)) (a0_1 : Int) (l0_2 : List (S61)) (a0_3 : Int) (l0_4 : List Int) (l1 : List Bool) : Option (Int) := swarfref04_Wrongs.l0 k l1 0 0 l0_0 a0_1 l0_2 a0_3 l0_4
theorem swarfref04_Wrongs.mono_l : ∀ k, (∀ y0 y1 y2 y3 y4 y5 y6 y7, LeO (swarfref04_Wrongs.l0 k y0 y1 y2 y3 y4 y5 y6 y7) (swarfref04_Wrongs.l0 (k + 1) y0 y1 y2 y3 y4 y5 y6 y7))
 | 0 => fun _ _ _ _ _ _ _ _ r h => by simp [swarfref04_Wrongs.l0] at h
 | k + 1 => by
  have ih0 := swarfref04_Wrongs.mono_l k
  ·
   intro y0 y1 y2 y3 y4 y5 y6 y7
   unfold swarfref04_Wrongs.l0
   repeat' first
   | (with_reducible exact ih0 _ _ _ _ _ _ _ _)
   | (with_reducible exact LeO.refl _)
   | (with_reducible exact LeO.none _)
   | (with_reducible refine LeO.ite ?_ ?_)
   | (with_reducible refine LeO.bind ?_ (fun _ => ?_))
   | exact ih0 _ _ _ _ _ _ _ _
   | exact LeO.none _
   | refine LeO.ite ?_ ?_
   | refine LeO.bind ?_ (fun _ => ?_)
theorem swarfref04_Wrongs.mono : ∀ a0 a1 a2 a3 a4 a5 k, LeO (swarfref04_Wrongs.f k a0 a1 a2 a3 a4 a5) (swarfref04_Wrongs.f (k + 1) a0 a1 a2 a3 a4 a5) := by
 intro a0 a1 a2 a3 a4 a5 k
 have ih0 := swarfref04_Wrongs.mono_l k
 unfold swarfref04_Wrongs.f
 repeat' first
   | (with_reducible exact ih0 _ _ _ _ _ _ _ _)
   | (with_reducible exact LeO.refl _)
   | (with_reducible exact LeO.none _)
   | (with_reducible refine LeO.ite ?_ ?_)
   | (with_reducible refine LeO.bind ?_ (fun _ => ?_))
   | exact ih0 _ _ _ _ _ _ _ _
   | exact LeO.none _
   | refine LeO.ite ?_ ?_
   | refine LeO.bind ?_ (fun _ => ?_)
set_option maxHeartbeats 8000000 in
set_option maxRecDepth 100000 in
theorem swarfref04_Wrongs.calls (k : Nat) (A0_0 : Option Addr) (c0_0 : Nat) (l0_0 : List (S50)) (a0_1 : Int) (A0_2 : Option Addr) (c0_2 : Nat) (l0_2 : List (S61)) (a0_3 : Int) (A0_4 : Option Addr) (c0_4 : Nat) (l0_4 : List Int) (A1 : Option Addr) (c1 : Nat) (l1 : List Bool) (r : Int) (w : World) (hr0_0 : Kd.C k50 w A0_0 l0_0.length l0_0) (hc0_0 : l0_0.length ≤ c0_0) (hr0_2 : Kd.C k61 w A0_2 l0_2.length l0_2) (hc0_2 : l0_2.length ≤ c0_2) (hr0_4 : Kd.C (Kd.int .i64) w A0_4 l0_4.length l0_4) (hc0_4 : l0_4.length ≤ c0_4) (hr1 : Kd.C Kd.bool w A1 l1.length l1) (hc1 : l1.length ≤ c1) (h : swarfref04_Wrongs.f k l0_0 a0_1 l0_2 a0_3 l0_4 l1 = some r) :
  Calls Try.prog 28 #[.agg #[.slice A0_0 l0_0.length c0_0, .int .i64 a0_1, .slice A0_2 l0_2.length c0_2, .int .i64 a0_3, .slice A0_4 l0_4.length c0_4], .slice A1 l1.length c1] w fun e w' => e = .returned (.int .i64 r) ∧ Below w.heap.size w w' := by
 have hu26 := Try.underlying26
 have HR0_0 := Aside0.mk hr0_0
 have HC0_0 := Aside0.mk hc0_0
 clear hr0_0 hc0_0
 have HR0_2 := Aside0.mk hr0_2
 have HC0_2 := Aside0.mk hc0_2
 clear hr0_2 hc0_2
 have HR0_4 := Aside0.mk hr0_4
 have HC0_4 := Aside0.mk hc0_4
 clear hr0_4 hc0_4
 have HR1 := Aside0.mk hr1
 have HC1 := Aside0.mk hc1
 clear hr1 hc1
 have HB := Aside0.mk (Below.refl w.heap.size w)
 have H : (swarfref04_Wrongs.l0 k l1 0 0 l0_0 a0_1 l0_2 a0_3 l0_4) = some r := h
 clear h
 have H' := Aside0.mk H
 clear H
 go_enter Try.func28, Try.ntmps28
 go_wp2_with (first | ((with_reducible refine gate_dst (N := 2) rfl ?_); refine box_event ?hg (N := 2) ?hd (cs := #[.slice A0_0 l0_0.length c0_0, .int .i64 a0_1, .slice A0_2 l0_2.length c0_2, .int .i64 a0_3, .slice A0_4 l0_4.length c0_4]) (t := 26) ?hr ?_; (case hd => rfl); (case hg => rfl); (case hr => first | (go_simp; done) | (go_simp; rfl)); intro gb199 hg w3 hbox hb; have BK199 := Aside0.mk (hbox); have GW199 := Aside0.mk ((by rw [hg]; exact (below_size (below_x HB.out)) : w.heap.size ≤ gb199)); have GE199 := Aside0.mk ((by rw [hg]; exact (below_size (below_x HB.out)) : w.heap.size ≤ gb199)); replace HB := Aside0.mk (below_step (below_x HB.out) hb); clear hb hbox hg))
 repeat (go_quiet (first | ((with_reducible refine gate_dst (N := 2) rfl ?_); refine box_event ?hg (N := 2) ?hd (cs := #[.slice A0_0 l0_0.length c0_0, .int .i64 a0_1, .slice A0_2 l0_2.length c0_2, .int .i64 a0_3, .slice A0_4 l0_4.length c0_4]) (t := 26) ?hr ?_; (case hd => rfl); (case hg => rfl); (case hr => first | (go_simp; done) | (go_simp; rfl)); intro gb199 hg w3 hbox hb; have BK199 := Aside0.mk (hbox); have GW199 := Aside0.mk ((by rw [hg]; exact (below_size (below_x HB.out)) : w.heap.size ≤ gb199)); have GE199 := Aside0.mk ((by rw [hg]; exact (below_size (below_x HB.out)) : w.heap.size ≤ gb199)); replace HB := Aside0.mk (below_step (below_x HB.out) hb); clear hb hbox hg)); try go_wp2_with (first | ((with_reducible refine gate_dst (N := 2) rfl ?_); refine box_event ?hg (N := 2) ?hd (cs := #[.slice A0_0 l0_0.length c0_0, .int .i64 a0_1, .slice A0_2 l0_2.length c0_2, .int .i64 a0_3, .slice A0_4 l0_4.length c0_4]) (t := 26) ?hr ?_; (case hd => rfl); (case hg => rfl); (case hr => first | (go_simp; done) | (go_simp; rfl)); intro gb199 hg w3 hbox hb; have BK199 := Aside0.mk (hbox); have GW199 := Aside0.mk ((by rw [hg]; exact (below_size (below_x HB.out)) : w.heap.size ≤ gb199)); have GE199 := Aside0.mk ((by rw [hg]; exact (below_size (below_x HB.out)) : w.heap.size ≤ gb199)); replace HB := Aside0.mk (below_step (below_x HB.out) hb); clear hb hbox hg)))
 go_loopg [5, 6] k (fun kq v5 v6 w' => ∃ (x5_1 : Int) (x6_1 : Int), v5 = .int .i64 x5_1 ∧ v6 = .int .i64 x6_1 ∧ Aside0 (swarfref04_Wrongs.l0 kq l1 x5_1 x6_1 l0_0 a0_1 l0_2 a0_3 l0_4 = some r) ∧ Aside0 (kq ≤ k) ∧ Aside0 (w'.heap[gb199]? = some (.cells #[(.slice A0_0 l0_0.length c0_0), .int .i64 a0_1, (.slice A0_2 l0_2.length c0_2), .int .i64 a0_3, (.slice A0_4 l0_4.length c0_4)] 26 (0, 0))) ∧ Aside0 (Below w.heap.size w w'))
 case atStart => exact ⟨(0), (0), (by first | rfl | (simp; done) | (simp [*]; done)), (by first | rfl | (simp; done) | (simp [*]; done)), H', ⟨Nat.le_refl _⟩, ⟨blk_x BK199.out⟩, ⟨by exact below_y HB.out⟩⟩
 case round =>
  clear H'
  obtain ⟨x5_1, x6_1, rfl, rfl, HA, HK1, BK199, HB⟩ := hrel
  cases gk with
  | zero => exact absurd HA.out (by simp [swarfref04_Wrongs.l0])
  | succ k1 =>
   have H := HA.out
   clear HA
   simp only [swarfref04_Wrongs.l0] at H
   by_cases c4 : x6_1 < (l0_2.length : Int)
   ·
    rw [if_pos c4] at H
    have c4b0 : decide (x6_1 < (l0_2.length : Int)) = true := decide_eq_true c4
    clear c4
    by_cases c5 : 0 ≤ x6_1
    ·
     rw [if_pos c5] at H
     have c5b0 : decide (0 ≤ x6_1) = true := decide_eq_true c5
     clear c5
     by_cases c6 : 0 ≤ ((rd_T61 l0_2 x6_1).f0)
     ·
      rw [if_pos c6] at H
      have c6b0 : decide (0 ≤ ((rd_T61 l0_2 x6_1).f0)) = true := decide_eq_true c6
      clear c6
      by_cases c7 : ((rd_T61 l0_2 x6_1).f0) < (l1.length : Int)
      ·
       rw [if_pos c7] at H
       have c7b0 : decide (((rd_T61 l0_2 x6_1).f0) < (l1.length : Int)) = true := decide_eq_true c7
       clear c7
       by_cases c8 : ((rdOf false l1 ((rd_T61 l0_2 x6_1).f0)) != ((rd_T61 l0_2 x6_1).f1)) = true
       ·
        rw [if_pos c8] at H
        have c8b0 : ((rdOf false l1 ((rd_T61 l0_2 x6_1).f0)) != ((rd_T61 l0_2 x6_1).f1)) = true := c8
        (try (have c8b1 : decide ((rdOf false l1 ((rd_T61 l0_2 x6_1).f0)) = ((rd_T61 l0_2 x6_1).f1)) = false := by simpa using c8))
        (try (have c8b2 : ((rdOf false l1 ((rd_T61 l0_2 x6_1).f0)) == ((rd_T61 l0_2 x6_1).f1)) = false := by simpa using c8))
        (try (have c8b3 : ¬ ((rdOf false l1 ((rd_T61 l0_2 x6_1).f0)) = ((rd_T61 l0_2 x6_1).f1)) := by simpa using c8))
        clear c8
        have H' := Aside0.mk H
        clear H
        obtain ⟨_, _, _, _, _⟩ := cz5 BK199
        have hfz9_0 := blk_frozen BK199.out
        have p200 : 0 ≤ (x6_1 : Int) := of_x
        have q200 : x6_1 < (l0_2.length : Int) := of_x
        obtain ⟨ad200, e200, hx200_0, hx200_1⟩ := at_T61 HR0_2.out x6_1 p200 q200
        cases e200
        replace hx200_0 := cell_x HB hx200_0
        replace hx200_1 := cell_x HB hx200_1
        replace p200 := eq_true p200
        replace q200 := eq_true q200
        have p201 : 0 ≤ (((rd_T61 l0_2 x6_1).f0) : Int) := of_x
        have q201 : ((rd_T61 l0_2 x6_1).f0) < (l1.length : Int) := of_x
        obtain ⟨ad201, e201, hx201_0⟩ := Kd.at_bool HR1.out ((rd_T61 l0_2 x6_1).f0) p201 q201
        cases e201
        replace hx201_0 := cell_x HB hx201_0
        replace p201 := eq_true p201
        replace q201 := eq_true q201
        have p202 : 0 ≤ (x6_1 : Int) := of_x
        have q202 : x6_1 < (l0_2.length : Int) := of_x
        obtain ⟨ad202, e202, hx202_0, hx202_1⟩ := at_T61 HR0_2.out x6_1 p202 q202
        obtain rfl : ad200 = ad202 := (by injection e202)
        replace hx202_0 := cell_x HB hx202_0
        replace hx202_1 := cell_x HB hx202_1
        replace p202 := eq_true p202
        replace q202 := eq_true q202
        go_wp2
        repeat (go_quiet (fail); try go_wp2)
        go_roundg k1
        case measure => have := HK1.out; omega
        case rel => exact ⟨(wrap64 (x5_1 + 1)), (wrap64 (x6_1 + 1)), (by first | rfl | (simp; done) | (simp [*]; done)), (by first | rfl | (simp; done) | (simp [*]; done)), H', ⟨by have := HK1.out; omega⟩, ⟨blk_x BK199.out⟩, ⟨by exact below_y HB.out⟩⟩
       ·
        rw [if_neg c8] at H
        have c8b0 : ((rdOf false l1 ((rd_T61 l0_2 x6_1).f0)) != ((rd_T61 l0_2 x6_1).f1)) = false := by simpa using c8
        (try (have c8b1 : decide ((rdOf false l1 ((rd_T61 l0_2 x6_1).f0)) = ((rd_T61 l0_2 x6_1).f1)) = true := by simpa using c8))
        (try (have c8b2 : ((rdOf false l1 ((rd_T61 l0_2 x6_1).f0)) == ((rd_T61 l0_2 x6_1).f1)) = true := by simpa using c8))
        clear c8
        have H' := Aside0.mk H
        clear H
        obtain ⟨_, _, _, _, _⟩ := cz5 BK199
        have hfz10_0 := blk_frozen BK199.out
        have p200 : 0 ≤ (x6_1 : Int) := of_x
        have q200 : x6_1 < (l0_2.length : Int) := of_x
        obtain ⟨ad200, e200, hx200_0, hx200_1⟩ := at_T61 HR0_2.out x6_1 p200 q200
        cases e200
        replace hx200_0 := cell_x HB hx200_0
        replace hx200_1 := cell_x HB hx200_1
        replace p200 := eq_true p200
        replace q200 := eq_true q200
        have p201 : 0 ≤ (((rd_T61 l0_2 x6_1).f0) : Int) := of_x
        have q201 : ((rd_T61 l0_2 x6_1).f0) < (l1.length : Int) := of_x
        obtain ⟨ad201, e201, hx201_0⟩ := Kd.at_bool HR1.out ((rd_T61 l0_2 x6_1).f0) p201 q201
        cases e201
        replace hx201_0 := cell_x HB hx201_0
        replace p201 := eq_true p201
        replace q201 := eq_true q201
        have p202 : 0 ≤ (x6_1 : Int) := of_x
        have q202 : x6_1 < (l0_2.length : Int) := of_x
        obtain ⟨ad202, e202, hx202_0, hx202_1⟩ := at_T61 HR0_2.out x6_1 p202 q202
        obtain rfl : ad200 = ad202 := (by injection e202)
        replace hx202_0 := cell_x HB hx202_0
        replace hx202_1 := cell_x HB hx202_1
        replace p202 := eq_true p202
        replace q202 := eq_true q202
        go_wp2
        repeat (go_quiet (fail); try go_wp2)
        go_roundg k1
        case measure => have := HK1.out; omega
        case rel => exact ⟨(x5_1), (wrap64 (x6_1 + 1)), (by first | rfl | (simp; done) | (simp [*]; done)), (by first | rfl | (simp; done) | (simp [*]; done)), H', ⟨by have := HK1.out; omega⟩, ⟨blk_x BK199.out⟩, ⟨by exact below_y HB.out⟩⟩
      ·
       rw [if_neg c7] at H
       exact absurd H (by simp)
     ·
      rw [if_neg c6] at H
      exact absurd H (by simp)
    ·
     rw [if_neg c5] at H
     exact absurd H (by simp)
   ·
    rw [if_neg c4] at H
    have c4b0 : decide (x6_1 < (l0_2.length : Int)) = false := decide_eq_false c4
    clear c4
    obtain rfl := Option.some.inj H
    obtain ⟨_, _, _, _, _⟩ := cz5 BK199
    have hfz11_0 := blk_frozen BK199.out
    go_wp2
    repeat (go_quiet (fail); try go_wp2)
    go_ret
    exact ⟨by first | rfl | (simp [errW_none, errW_some] <;> rfl) | (simp [*, errW_none, errW_some] <;> rfl), by exact below_y HB.out⟩
def swarfkit_Feed_Often.f (s0_0 : Int) (a1 : Int) (a2 : Int) : Option (Bool × Int) := (swarfkit_Feed_Below.f s0_0 a2).bind fun bt203 => (some (decide (bt203.1 < a1), bt203.2))
set_option maxHeartbeats 8000000 in
set_option maxRecDepth 100000 in
theorem swarfkit_Feed_Often.calls (g : Nat) (s0_0 : Int) (a1 : Int) (a2 : Int) (r1 : Bool) (r2 : Int) (w0 w : World) (hI : IsS79 w0 w g s0_0) (hB : Below w0.heap.size w0 w) (h : swarfkit_Feed_Often.f s0_0 a1 a2 = some (r1, r2)) :
  Calls Try.prog 35 #[.pointer (some ⟨g, 0, none⟩), .int .i64 a1, .int .i64 a2] w fun e w' => e = .returned (.bool r1) ∧ IsS79 w0 w' g r2 ∧ Below w0.heap.size w0 w' ∧ KeepBut w w' g none := by
 have HI0 := Aside0.mk hI
 have HK := Aside0.mk (KeepBut.refl w g none)
 have HL := Aside0.mk hB.size
 clear hI
 have HW0 := Aside0.mk hB.size
 have HB := Aside0.mk hB
 clear hB
 have H : ((swarfkit_Feed_Below.f s0_0 a2).bind fun bt203 => (some (decide (bt203.1 < a1), bt203.2))) = some (r1, r2) := h
 clear h
 replace H := Option.bind_eq_some_iff.mp H
 obtain ⟨⟨t203, t204⟩, A40, H⟩ := H
 replace H : (some (decide (t203 < a1), t204)) = some (r1, r2) := H
 have A4 := Aside0.mk A40
 clear A40
 simp only [Option.some.injEq, Prod.mk.injEq] at H
 obtain ⟨rfl, rfl⟩ := H
 go_enter Try.func35, Try.ntmps35
 go_wp2_with (first | ((with_reducible refine gate_callee (f := 25) rfl ?_); refine goesL_ (some 9) rfl rfl Try.func25 (by kernel_rfl) rfl #[.pointer (some ⟨g, 0, none⟩), .int .i64 a2] rfl (by (try simp only [List.map_toArray, List.map_cons, List.map_nil]); first | done | rfl | (simp only [List.length_drop, List.length_take]; rfl)) ?_; (with_reducible refine (swarfkit_Feed_Below.calls g s0_0 a2 t203 t204 w0 _ ?side1 ?side2 A4.out).mono ?_); (case side1 => exact IsS79.up HI0.out); (case side2 => exact below_y HB.out); rintro e w5 ⟨rfl, hi, hb, hk⟩; refine ⟨_, rfl, ?_⟩; replace HK := Aside0.mk (KeepBut.trans (by exact keep_y HK.out) hk (.inl rfl)); replace HB := Aside0.mk (hb); replace HI0 := Aside0.mk (hi); (try clear hb); (try clear hk); (try clear hi)))
 go_ret
 exact ⟨by first | rfl | (simp [errW_none, errW_some] <;> rfl) | (simp [*, errW_none, errW_some] <;> rfl), by exact IsS79.up HI0.out, by exact below_y HB.out, by exact keep_y HK.out⟩
def swarfkit_Feed_Between.f (s0_0 : Int) (a1 : Int) (a2 : Int) : Option (Int × Int) := (swarfkit_Feed_Below.f s0_0 (wrap64 ((wrap64 (a2 - a1)) + 1))).bind fun bt205 => (some (wrap64 (a1 + bt205.1), bt205.2))
set_option maxHeartbeats 8000000 in
set_option maxRecDepth 100000 in
theorem swarfkit_Feed_Between.calls (g : Nat) (s0_0 : Int) (a1 : Int) (a2 : Int) (r1 : Int) (r2 : Int) (w0 w : World) (hI : IsS79 w0 w g s0_0) (hB : Below w0.heap.size w0 w) (h : swarfkit_Feed_Between.f s0_0 a1 a2 = some (r1, r2)) :
  Calls Try.prog 46 #[.pointer (some ⟨g, 0, none⟩), .int .i64 a1, .int .i64 a2] w fun e w' => e = .returned (.int .i64 r1) ∧ IsS79 w0 w' g r2 ∧ Below w0.heap.size w0 w' ∧ KeepBut w w' g none := by
 have HI0 := Aside0.mk hI
 have HK := Aside0.mk (KeepBut.refl w g none)
 have HL := Aside0.mk hB.size
 clear hI
 have HW0 := Aside0.mk hB.size
 have HB := Aside0.mk hB
 clear hB
 have H : ((swarfkit_Feed_Below.f s0_0 (wrap64 ((wrap64 (a2 - a1)) + 1))).bind fun bt205 => (some (wrap64 (a1 + bt205.1), bt205.2))) = some (r1, r2) := h
 clear h
 replace H := Option.bind_eq_some_iff.mp H
 obtain ⟨⟨t205, t206⟩, A40, H⟩ := H
 replace H : (some (wrap64 (a1 + t205), t206)) = some (r1, r2) := H
 have A4 := Aside0.mk A40
 clear A40
 simp only [Option.some.injEq, Prod.mk.injEq] at H
 obtain ⟨rfl, rfl⟩ := H
 go_enter Try.func46, Try.ntmps46
 go_wp2_with (first | ((with_reducible refine gate_callee (f := 25) rfl ?_); refine goesL_ (some 13) rfl rfl Try.func25 (by kernel_rfl) rfl #[.pointer (some ⟨g, 0, none⟩), .int .i64 (wrap64 ((wrap64 (a2 - a1)) + 1))] rfl (by (try simp only [List.map_toArray, List.map_cons, List.map_nil]); first | done | rfl | (simp only [List.length_drop, List.length_take]; rfl)) ?_; (with_reducible refine (swarfkit_Feed_Below.calls g s0_0 (wrap64 ((wrap64 (a2 - a1)) + 1)) t205 t206 w0 _ ?side1 ?side2 A4.out).mono ?_); (case side1 => exact IsS79.up HI0.out); (case side2 => exact below_y HB.out); rintro e w5 ⟨rfl, hi, hb, hk⟩; refine ⟨_, rfl, ?_⟩; replace HK := Aside0.mk (KeepBut.trans (by exact keep_y HK.out) hk (.inl rfl)); replace HB := Aside0.mk (hb); replace HI0 := Aside0.mk (hi); (try clear hb); (try clear hk); (try clear hi)))
 go_ret
 exact ⟨by first | rfl | (simp [errW_none, errW_some] <;> rfl) | (simp [*, errW_none, errW_some] <;> rfl), by exact IsS79.up HI0.out, by exact below_y HB.out, by exact keep_y HK.out⟩
mutual
def swarfkit_CarOf.l0 : Nat → Int → List Bool → Int → Int → List (S50) → Int → Int → Option ((List (S50)) × Int × (List (S61)) × Int × List Int × List Bool × Int)
 | 0, _, _, _, _, _, _, _ => none
 | k + 1, x2, x9, x10, x1000, x209000, x209001, x209003 => if x10 > 0 then ((swarfkit_Feed_Often.f x1000 1 2).bind fun bt211 => ((swarfkit_Feed_Between.f bt211.2 1 3).bind fun bt213 => ((swarfkit_Feed_Below.f bt213.2 30).bind fun bt215 => ((swarfkit_Feed_Below.f bt215.2 30).bind fun bt217 => ((swarfkit_Feed_Either.f bt217.2 (([0, bt215.1, bt217.1] : List Int))).bind fun bt222 => (swarfkit_CarOf.l1 k x2 x9 x10 (x209000.length : Int) true 0 bt222.2 x209000 x209001 x209003 ([] : List Int) bt211.1 bt213.1 bt222.1)))))) else ((swarfkit_Feed_Below.f x1000 9).bind fun bt242 => ((swarfkit_Feed_Either.f bt242.2 (([0, bt242.1] : List Int))).bind fun bt247 => ((swarfkit_Feed_Below.f bt247.2 (wrap64 (x2 + 1))).bind fun bt249 => (swarfkit_CarOf.l2 k x9 bt249.1 bt249.2 x209000 bt247.1 ([] : List (S61)) x209003))))
def swarfkit_CarOf.l1 : Nat → Int → List Bool → Int → Int → Bool → Int → Int → List (S50) → Int → Int → List Int → Bool → Int → Int → Option ((List (S50)) × Int × (List (S61)) × Int × List Int × List Bool × Int)
 | 0, _, _, _, _, _, _, _, _, _, _, _, _, _, _ => none
 | k + 1, x2, x9, x10, x11, x13, x14, x1000, x209000, x209001, x209003, x225000, x225001, x225002, x225003 => if x14 < x11 then ((swarfkit_Feed_Often.f x1000 1 4).bind fun bt225 => (if bt225.1 = true then (if x225000.length < 17592186044416 then ((some (x225000 ++ [x14] : List Int)).bind fun y227 => (if x13 = true then (if 0 ≤ x14 then (if x14 < (x9.length : Int) then (swarfkit_CarOf.l1 k x2 x9 x10 x11 (rdOf false x9 x14) (wrap64 (x14 + 1)) bt225.2 x209000 x209001 x209003 y227 x225001 x225002 x225003) else (none)) else (none)) else (swarfkit_CarOf.l1 k x2 x9 x10 x11 false (wrap64 (x14 + 1)) bt225.2 x209000 x209001 x209003 y227 x225001 x225002 x225003))) else (none)) else (swarfkit_CarOf.l1 k x2 x9 x10 x11 x13 (wrap64 (x14 + 1)) bt225.2 x209000 x209001 x209003 x225000 x225001 x225002 x225003))) else (if x209000.length < 2932031007402 then ((some (x209000 ++ [(⟨x225000, x225001, x225002, x225003⟩ : S50)] : List (S50))).bind fun y231 => (if x13 = true then ((swarfkit_Feed_Often.f x1000 3 5).bind fun bt234 => (if x9.length < 140737488355328 then (swarfkit_CarOf.l0 k x2 (x9 ++ [bt234.1]) (wrap64 (x10 - 1)) bt234.2 y231 x209001 x209003) else (none))) else (if x9.length < 140737488355328 then (swarfkit_CarOf.l0 k x2 (x9 ++ [false]) (wrap64 (x10 - 1)) x1000 y231 x209001 x209003) else (none)))) else (none))
def swarfkit_CarOf.l2 : Nat → List Bool → Int → Int → List (S50) → Int → List (S61) → Int → Option ((List (S50)) × Int × (List (S61)) × Int × List Int × List Bool × Int)
 | 0, _, _, _, _, _, _, _ => none
 | k + 1, x9, x15, x1000, x209000, x209001, x209002, x209003 => if x15 > 0 then ((swarfkit_Feed_Below.f x1000 (x209000.length : Int)).bind fun bt251 => (if 0 ≤ bt251.1 then (if bt251.1 < (x9.length : Int) then ((swarfkit_Feed_Often.f bt251.2 1 6).bind fun bt254 => (if x209002.length < 8796093022208 then (swarfkit_CarOf.l2 k x9 (wrap64 (x15 - 1)) bt254.2 x209000 x209001 (x209002 ++ [(⟨bt251.1, ((rdOf false x9 bt251.1) != bt254.1)⟩ : S61)]) x209003) else (none))) else (none)) else (none))) else ((swarfref04_Wrongs.f k x209000 x209001 x209002 x209003 ([] : List Int) x9).bind fun t259 => ((swarfkit_Feed_Either.f x1000 (([0, 0, 1] : List Int))).bind fun bt263 => (swarfkit_CarOf.l3 k x9 0 bt263.2 x209000 x209001 x209002 (mn 12 (wrap64 (t259 + bt263.1))) ([] : List Int))))
def swarfkit_CarOf.l3 : Nat → List Bool → Int → Int → List (S50) → Int → List (S61) → Int → List Int → Option ((List (S50)) × Int × (List (S61)) × Int × List Int × List Bool × Int)
 | 0, _, _, _, _, _, _, _, _ => none
 | k + 1, x9, x17, x1000, x209000, x209001, x209002, x209003, x209004 => if x17 ≤ 8 then (swarfkit_CarOf.j4 k x9 x17 (decide ((x209004.length : Int) < 3)) x1000 x209000 x209001 x209002 x209003 x209004) else (swarfkit_CarOf.j4 k x9 x17 false x1000 x209000 x209001 x209002 x209003 x209004)
def swarfkit_CarOf.j4 : Nat → List Bool → Int → Bool → Int → List (S50) → Int → List (S61) → Int → List Int → Option ((List (S50)) × Int × (List (S61)) × Int × List Int × List Bool × Int)
 | 0, _, _, _, _, _, _, _, _, _ => none
 | k + 1, x9, x17, x123, x1000, x209000, x209001, x209002, x209003, x209004 => if x123 = true then ((swarfkit_Feed_Often.f x1000 1 5).bind fun bt265 => (if bt265.1 = true then (if x209004.length < 17592186044416 then (swarfkit_CarOf.l3 k x9 (wrap64 (x17 + 1)) bt265.2 x209000 x209001 x209002 x209003 (x209004 ++ [x17])) else (none)) else (swarfkit_CarOf.l3 k x9 (wrap64 (x17 + 1)) bt265.2 x209000 x209001 x209002 x209003 x209004))) else (some (x209000, x209001, x209002, x209003, x209004, x9, x1000))
end
def swarfkit_CarOf.f (k : Nat) (s0_0 : Int) (a1 : Int) (a2 : Int) : Option ((List (S50)) × Int × (List (S61)) × Int × List Int × List Bool × Int) := (swarfkit_Feed_Between.f s0_0 1 a1).bind fun bt209 => (swarfkit_CarOf.l0 k a2 ([] : List Bool) bt209.1 bt209.2 ([] : List (S50)) 0 0)
theorem swarfkit_CarOf.mono_l : ∀ k, (∀ y0 y1 y2 y3 y4 y5 y6, LeO (swarfkit_CarOf.l0 k y0 y1 y2 y3 y4 y5 y6) (swarfkit_CarOf.l0 (k + 1) y0 y1 y2 y3 y4 y5 y6)) ∧ (∀ y0 y1 y2 y3 y4 y5 y6 y7 y8 y9 y10 y11 y12 y13, LeO (swarfkit_CarOf.l1 k y0 y1 y2 y3 y4 y5 y6 y7 y8 y9 y10 y11 y12 y13) (swarfkit_CarOf.l1 (k + 1) y0 y1 y2 y3 y4 y5 y6 y7 y8 y9 y10 y11 y12 y13)) ∧ (∀ y0 y1 y2 y3 y4 y5 y6, LeO (swarfkit_CarOf.l2 k y0 y1 y2 y3 y4 y5 y6) (swarfkit_CarOf.l2 (k + 1) y0 y1 y2 y3 y4 y5 y6)) ∧ (∀ y0 y1 y2 y3 y4 y5 y6 y7, LeO (swarfkit_CarOf.l3 k y0 y1 y2 y3 y4 y5 y6 y7) (swarfkit_CarOf.l3 (k + 1) y0 y1 y2 y3 y4 y5 y6 y7)) ∧ (∀ y0 y1 y2 y3 y4 y5 y6 y7 y8, LeO (swarfkit_CarOf.j4 k y0 y1 y2 y3 y4 y5 y6 y7 y8) (swarfkit_CarOf.j4 (k + 1) y0 y1 y2 y3 y4 y5 y6 y7 y8))
 | 0 => ⟨fun _ _ _ _ _ _ _ r h => by simp [swarfkit_CarOf.l0] at h, fun _ _ _ _ _ _ _ _ _ _ _ _ _ _ r h => by simp [swarfkit_CarOf.l1] at h, fun _ _ _ _ _ _ _ r h => by simp [swarfkit_CarOf.l2] at h, fun _ _ _ _ _ _ _ _ r h => by simp [swarfkit_CarOf.l3] at h, fun _ _ _ _ _ _ _ _ _ r h => by simp [swarfkit_CarOf.j4] at h⟩
 | k + 1 => by
  obtain ⟨ih0, ih1, ih2, ih3, ih4⟩ := swarfkit_CarOf.mono_l k
  refine ⟨?_, ?_, ?_, ?_, ?_⟩
  ·
   intro y0 y1 y2 y3 y4 y5 y6
   unfold swarfkit_CarOf.l0
   repeat' first
   | (with_reducible exact ih0 _ _ _ _ _ _ _)
   | (with_reducible exact ih1 _ _ _ _ _ _ _ _ _ _ _ _ _ _)
   | (with_reducible exact ih2 _ _ _ _ _ _ _)
   | (with_reducible exact ih3 _ _ _ _ _ _ _ _)
   | (with_reducible exact ih4 _ _ _ _ _ _ _ _ _)
   | (with_reducible exact swarfref04_Wrongs.mono _ _ _ _ _ _ _)
   | (with_reducible exact LeO.refl _)
   | (with_reducible exact LeO.none _)
   | (with_reducible refine LeO.ite ?_ ?_)
   | (with_reducible refine LeO.bind ?_ (fun _ => ?_))
   | exact ih0 _ _ _ _ _ _ _
   | exact ih1 _ _ _ _ _ _ _ _ _ _ _ _ _ _
   | exact ih2 _ _ _ _ _ _ _
   | exact ih3 _ _ _ _ _ _ _ _
   | exact ih4 _ _ _ _ _ _ _ _ _
   | exact swarfref04_Wrongs.mono _ _ _ _ _ _ _
   | exact LeO.none _
   | refine LeO.ite ?_ ?_
   | refine LeO.bind ?_ (fun _ => ?_)
  ·
   intro y0 y1 y2 y3 y4 y5 y6 y7 y8 y9 y10 y11 y12 y13
   unfold swarfkit_CarOf.l1
   repeat' first
   | (with_reducible exact ih0 _ _ _ _ _ _ _)
   | (with_reducible exact ih1 _ _ _ _ _ _ _ _ _ _ _ _ _ _)
   | (with_reducible exact ih2 _ _ _ _ _ _ _)
   | (with_reducible exact ih3 _ _ _ _ _ _ _ _)
   | (with_reducible exact ih4 _ _ _ _ _ _ _ _ _)
   | (with_reducible exact swarfref04_Wrongs.mono _ _ _ _ _ _ _)
   | (with_reducible exact LeO.refl _)
   | (with_reducible exact LeO.none _)
   | (with_reducible refine LeO.ite ?_ ?_)
   | (with_reducible refine LeO.bind ?_ (fun _ => ?_))
   | exact ih0 _ _ _ _ _ _ _
   | exact ih1 _ _ _ _ _ _ _ _ _ _ _ _ _ _
   | exact ih2 _ _ _ _ _ _ _
   | exact ih3 _ _ _ _ _ _ _ _
   | exact ih4 _ _ _ _ _ _ _ _ _
   | exact swarfref04_Wrongs.mono _ _ _ _ _ _ _
   | exact LeO.none _
   | refine LeO.ite ?_ ?_
   | refine LeO.bind ?_ (fun _ => ?_)
  ·
   intro y0 y1 y2 y3 y4 y5 y6
   unfold swarfkit_CarOf.l2
   repeat' first
   | (with_reducible exact ih0 _ _ _ _ _ _ _)
   | (with_reducible exact ih1 _ _ _ _ _ _ _ _ _ _ _ _ _ _)
   | (with_reducible exact ih2 _ _ _ _ _ _ _)
   | (with_reducible exact ih3 _ _ _ _ _ _ _ _)
   | (with_reducible exact ih4 _ _ _ _ _ _ _ _ _)
   | (with_reducible exact swarfref04_Wrongs.mono _ _ _ _ _ _ _)
   | (with_reducible exact LeO.refl _)
   | (with_reducible exact LeO.none _)
   | (with_reducible refine LeO.ite ?_ ?_)
   | (with_reducible refine LeO.bind ?_ (fun _ => ?_))
   | exact ih0 _ _ _ _ _ _ _
   | exact ih1 _ _ _ _ _ _ _ _ _ _ _ _ _ _
   | exact ih2 _ _ _ _ _ _ _
   | exact ih3 _ _ _ _ _ _ _ _
   | exact ih4 _ _ _ _ _ _ _ _ _
   | exact swarfref04_Wrongs.mono _ _ _ _ _ _ _
   | exact LeO.none _
   | refine LeO.ite ?_ ?_
   | refine LeO.bind ?_ (fun _ => ?_)
  ·
   intro y0 y1 y2 y3 y4 y5 y6 y7
   unfold swarfkit_CarOf.l3
   repeat' first
   | (with_reducible exact ih0 _ _ _ _ _ _ _)
   | (with_reducible exact ih1 _ _ _ _ _ _ _ _ _ _ _ _ _ _)
   | (with_reducible exact ih2 _ _ _ _ _ _ _)
   | (with_reducible exact ih3 _ _ _ _ _ _ _ _)
   | (with_reducible exact ih4 _ _ _ _ _ _ _ _ _)
   | (with_reducible exact swarfref04_Wrongs.mono _ _ _ _ _ _ _)
   | (with_reducible exact LeO.refl _)
   | (with_reducible exact LeO.none _)
   | (with_reducible refine LeO.ite ?_ ?_)
   | (with_reducible refine LeO.bind ?_ (fun _ => ?_))
   | exact ih0 _ _ _ _ _ _ _
   | exact ih1 _ _ _ _ _ _ _ _ _ _ _ _ _ _
   | exact ih2 _ _ _ _ _ _ _
   | exact ih3 _ _ _ _ _ _ _ _
   | exact ih4 _ _ _ _ _ _ _ _ _
   | exact swarfref04_Wrongs.mono _ _ _ _ _ _ _
   | exact LeO.none _
   | refine LeO.ite ?_ ?_
   | refine LeO.bind ?_ (fun _ => ?_)
  ·
   intro y0 y1 y2 y3 y4 y5 y6 y7 y8
   unfold swarfkit_CarOf.j4
   repeat' first
   | (with_reducible exact ih0 _ _ _ _ _ _ _)
   | (with_reducible exact ih1 _ _ _ _ _ _ _ _ _ _ _ _ _ _)
   | (with_reducible exact ih2 _ _ _ _ _ _ _)
   | (with_reducible exact ih3 _ _ _ _ _ _ _ _)
   | (with_reducible exact ih4 _ _ _ _ _ _ _ _ _)
   | (with_reducible exact swarfref04_Wrongs.mono _ _ _ _ _ _ _)
   | (with_reducible exact LeO.refl _)
   | (with_reducible exact LeO.none _)
   | (with_reducible refine LeO.ite ?_ ?_)
   | (with_reducible refine LeO.bind ?_ (fun _ => ?_))
   | exact ih0 _ _ _ _ _ _ _
   | exact ih1 _ _ _ _ _ _ _ _ _ _ _ _ _ _
   | exact ih2 _ _ _ _ _ _ _
   | exact ih3 _ _ _ _ _ _ _ _
   | exact ih4 _ _ _ _ _ _ _ _ _
   | exact swarfref04_Wrongs.mono _ _ _ _ _ _ _
   | exact LeO.none _
   | refine LeO.ite ?_ ?_
   | refine LeO.bind ?_ (fun _ => ?_)
theorem swarfkit_CarOf.mono : ∀ a0 a1 a2 k, LeO (swarfkit_CarOf.f k a0 a1 a2) (swarfkit_CarOf.f (k + 1) a0 a1 a2) := by
 intro a0 a1 a2 k
 obtain ⟨ih0, ih1, ih2, ih3, ih4⟩ := swarfkit_CarOf.mono_l k
 unfold swarfkit_CarOf.f
 repeat' first
   | (with_reducible exact ih0 _ _ _ _ _ _ _)
   | (with_reducible exact ih1 _ _ _ _ _ _ _ _ _ _ _ _ _ _)
   | (with_reducible exact ih2 _ _ _ _ _ _ _)
   | (with_reducible exact ih3 _ _ _ _ _ _ _ _)
   | (with_reducible exact ih4 _ _ _ _ _ _ _ _ _)
   | (with_reducible exact swarfref04_Wrongs.mono _ _ _ _ _ _ _)
   | (with_reducible exact LeO.refl _)
   | (with_reducible exact LeO.none _)
   | (with_reducible refine LeO.ite ?_ ?_)
   | (with_reducible refine LeO.bind ?_ (fun _ => ?_))
   | exact ih0 _ _ _ _ _ _ _
   | exact ih1 _ _ _ _ _ _ _ _ _ _ _ _ _ _
   | exact ih2 _ _ _ _ _ _ _
   | exact ih3 _ _ _ _ _ _ _ _
   | exact ih4 _ _ _ _ _ _ _ _ _
   | exact swarfref04_Wrongs.mono _ _ _ _ _ _ _
   | exact LeO.none _
   | refine LeO.ite ?_ ?_
   | refine LeO.bind ?_ (fun _ => ?_)
def swarfkit_CarOf.T13 : Bool × List (List Nat × List Nat) := (true, [([], []), ([0], [0]), ([], []), ([2], [2]), ([1, 3], [1, 3]), ([], []), ([5, 4], [5]), ([6], [6]), ([6], [6]), ([7, 8, 6], [6, 7, 8]), ([9, 6], [6, 9]), ([6, 10], [6, 10]), ([0, 1, 2, 3, 4], []), ([12, 4, 6, 0, 1, 2, 3, 4], [4, 12]), ([11, 13, 0, 1, 2, 3, 4, 5, 6, 7, 8, 9, 10, 11, 12, 13], [5, 11])])
def swarfkit_CarOf.B13 : List Nat := [0, 1, 0, 4, 15, 0, 63, 127, 127, 511, 1023, 2047, 31, 4223, 16383]
theorem swarfkit_CarOf.tab13 : rtab .any (opsOf Try.f17 13) = swarfkit_CarOf.T13 := by kernel_rfl
theorem swarfkit_CarOf.bits13 : waitsOk swarfkit_CarOf.T13.2 swarfkit_CarOf.B13 = true := by kernel_rfl
def swarfkit_CarOf.T20 : Bool × List (List Nat × List Nat) := (true, [([], []), ([0], [0]), ([], []), ([], []), ([], []), ([3, 4], [3, 4]), ([5], [5]), ([], []), ([7], [7]), ([6, 8], [6, 8]), ([2, 9], [2, 9]), ([10], [10]), ([1, 11, 8], [1, 11]), ([0, 1, 2, 3, 4, 5, 6, 7, 8, 9, 10, 11, 12], []), ([13, 12, 12, 0, 1, 2, 3, 4, 5, 6, 7, 8, 9, 10, 11, 12], [12, 13])])
def swarfkit_CarOf.B20 : List Nat := [0, 1, 0, 0, 0, 24, 56, 0, 128, 504, 1020, 2044, 4095, 8191, 16383]
theorem swarfkit_CarOf.tab20 : rtab .any (opsOf Try.f17 20) = swarfkit_CarOf.T20 := by kernel_rfl
theorem swarfkit_CarOf.bits20 : waitsOk swarfkit_CarOf.T20.2 swarfkit_CarOf.B20 = true := by kernel_rfl
set_option maxHeartbeats 8000000 in
set_option maxRecDepth 100000 in
theorem swarfkit_CarOf.calls (k : Nat) (g : Nat) (s0_0 : Int) (a1 : Int) (a2 : Int) (r1 : List (S50)) (r2 : Int) (r3 : List (S61)) (r4 : Int) (r5 : List Int) (r6 : List Bool) (r7 : Int) (w0 w : World) (hI : IsS79 w0 w g s0_0) (hB : Below w0.heap.size w0 w) (h : swarfkit_CarOf.f k s0_0 a1 a2 = some (r1, r2, r3, r4, r5, r6, r7)) :
  Calls Try.prog 17 #[.pointer (some ⟨g, 0, none⟩), .int .i64 a1, .int .i64 a2] w fun e w' => ∃ v0_ v2_ v4_ v5_ : Value, e = .returned (.tuple #[.agg #[v0_, .int .i64 r2, v2_, .int .i64 r4, v4_], v5_]) ∧ Kd.S k50 50 w' w.heap.size (fun k_ => some k_ ≠ (v4_ : Value).ownBlock) v0_ r1 ∧ Kd.R k61 61 w' w.heap.size (fun _ => True) v2_ r3 ∧ Kd.R (Kd.int .i64) 3 w' w.heap.size (fun _ => True) v4_ r5 ∧ Kd.R Kd.bool 4 w' w.heap.size (fun _ => True) v5_ r6 ∧ IsS79 w0 w' g r7 ∧ Below w0.heap.size w0 w' ∧ KeepBut w w' g none := by
 have hu26 := Try.underlying26
 have hu50 := Try.underlying50
 have hu61 := Try.underlying61
 have HI0 := Aside0.mk hI
 have HK := Aside0.mk (KeepBut.refl w g none)
 have HL := Aside0.mk hB.size
 clear hI
 have HW0 := Aside0.mk hB.size
 have HB := Aside0.mk hB
 clear hB
 have H : ((swarfkit_Feed_Between.f s0_0 1 a1).bind fun bt209 => (swarfkit_CarOf.l0 k a2 ([] : List Bool) bt209.1 bt209.2 ([] : List (S50)) 0 0)) = some (r1, r2, r3, r4, r5, r6, r7) := h
 clear h
 replace H := Option.bind_eq_some_iff.mp H
 obtain ⟨⟨t209, t210⟩, A40, H⟩ := H
 try dsimp only at H
 have A4 := Aside0.mk A40
 clear A40
 have H' := Aside0.mk H
 clear H
 go_enter Try.func17, Try.ntmps17
 go_wp2_with (first | ((with_reducible refine gate_dst (N := 6) rfl ?_); (try (refine gate_guard (by rfl) ?_; dsimp only)); refine box_event ?hg (N := 6) ?hd (cs := #[.slice none 0 0, .int .i64 0, .slice none 0 0, .int .i64 0, .slice none 0 0]) (t := 26) ?hr ?_; (case hd => rfl); (case hg => rfl); (case hr => first | (go_simp; done) | (go_simp; rfl)); intro gb207 hg w5 hbox hb; replace HB := bl_x HB hb; have BK207 := Aside0.mk (hbox); have GW207 := Aside0.mk ((by rw [hg]; exact (keep_size (w := w) (g := g) (row := none) (by exact keep_y HK.out)) : w.heap.size ≤ gb207)); have GE207 := Aside0.mk ((Nat.le_trans HW0.out (by rw [hg]; exact (keep_size (w := w) (g := g) (row := none) (by exact keep_y HK.out)) : w.heap.size ≤ gb207) : w0.heap.size ≤ gb207)); replace HK := Aside0.mk (KeepBut.trans (by exact keep_y HK.out) (KeepBut.of_below hb g none) (.inl rfl)); have NB0_207 := Aside0.mk ((by rw [hg]; exact Nat.ne_of_lt (IsS79.lt (show IsS79 w0 _ g s0_0 from by exact IsS79.up HI0.out)) : g ≠ gb207)); have NB207_0 := Aside0.mk ((by rw [hg]; exact Nat.ne_of_gt (IsS79.lt (show IsS79 w0 _ g s0_0 from by exact IsS79.up HI0.out)) : gb207 ≠ g)); replace HI0 := Aside0.mk (IsS79.below (by exact IsS79.up HI0.out) hb); clear hb hbox hg) | ((with_reducible refine gate_dst (N := 8) rfl ?_); (try (refine gate_guard (by rfl) ?_; dsimp only)); refine box_event ?hg (N := 8) ?hd (cs := #[.slice none 0 0, .int .i64 0, .slice none 0 0, .int .i64 0, .slice none 0 0]) (t := 26) ?hr ?_; (case hd => rfl); (case hg => rfl); (case hr => first | (go_simp; done) | (go_simp; rfl)); intro gb208 hg w6 hbox hb; replace HB := bl_x HB hb; have BK208 := Aside0.mk (hbox); have GW208 := Aside0.mk ((by rw [hg]; exact (keep_size (w := w) (g := g) (row := none) (by exact keep_y HK.out)) : w.heap.size ≤ gb208)); have GE208 := Aside0.mk ((Nat.le_trans HW0.out (by rw [hg]; exact (keep_size (w := w) (g := g) (row := none) (by exact keep_y HK.out)) : w.heap.size ≤ gb208) : w0.heap.size ≤ gb208)); replace HK := Aside0.mk (KeepBut.trans (by exact keep_y HK.out) (KeepBut.of_below hb g none) (.inl rfl)); have NB207_208 := Aside0.mk ((by rw [hg]; exact Nat.ne_of_lt (blk_lt (g := gb207) (o := .cells #[.slice none 0 0, .int .i64 0, .slice none 0 0, .int .i64 0, .slice none 0 0] 26 (0, 0)) (blk_x BK207.out)) : gb207 ≠ gb208)); have NB208_207 := Aside0.mk ((by rw [hg]; exact Nat.ne_of_gt (blk_lt (g := gb207) (o := .cells #[.slice none 0 0, .int .i64 0, .slice none 0 0, .int .i64 0, .slice none 0 0] 26 (0, 0)) (blk_x BK207.out)) : gb208 ≠ gb207)); replace BK207 := Aside0.mk (blk_below (blk_x BK207.out) hb); have NB0_208 := Aside0.mk ((by rw [hg]; exact Nat.ne_of_lt (IsS79.lt (show IsS79 w0 _ g s0_0 from by exact IsS79.up HI0.out)) : g ≠ gb208)); have NB208_0 := Aside0.mk ((by rw [hg]; exact Nat.ne_of_gt (IsS79.lt (show IsS79 w0 _ g s0_0 from by exact IsS79.up HI0.out)) : gb208 ≠ g)); replace HI0 := Aside0.mk (IsS79.below (by exact IsS79.up HI0.out) hb); clear hb hbox hg) | ((with_reducible refine gate_callee (f := 46) rfl ?_); refine goesL_ (some 20) rfl rfl Try.func46 (by kernel_rfl) rfl #[.pointer (some ⟨g, 0, none⟩), .int .i64 1, .int .i64 a1] rfl (by (try simp only [List.map_toArray, List.map_cons, List.map_nil]); first | done | rfl | (simp only [List.length_drop, List.length_take]; rfl)) ?_; (with_reducible refine (swarfkit_Feed_Between.calls g s0_0 1 a1 t209 t210 w0 _ ?side1 ?side2 A4.out).mono ?_); (case side1 => exact IsS79.up HI0.out); (case side2 => exact below_y HB.out); rintro e w7 ⟨rfl, hi, hb, hk⟩; refine ⟨_, rfl, ?_⟩; replace BK207 := Aside0.mk (KeepBut.blk hk (blk_x BK207.out) NB207_0.out (by simp)); replace BK208 := Aside0.mk (KeepBut.blk hk (blk_x BK208.out) NB208_0.out (by simp)); replace HK := Aside0.mk (KeepBut.trans (by exact keep_y HK.out) hk (.inl rfl)); replace HB := Aside0.mk (hb); replace HI0 := Aside0.mk (hi); (try clear hb); (try clear hk); (try clear hi)))
 go_loopg [9, 10] k (fun kq v9 v10 w' => ∃ (x9_1 : List Bool) (x10_1 : Int) (x1000_1 : Int) (x209000_1 : List (S50)) (u209000 : Value), v10 = .int .i64 x10_1 ∧ Aside0 (swarfkit_CarOf.l0 kq a2 x9_1 x10_1 x1000_1 x209000_1 0 0 = some (r1, r2, r3, r4, r5, r6, r7)) ∧ Aside0 (kq ≤ k) ∧ Aside0 (Kd.R Kd.bool 4 w' w.heap.size (fun _ => True) v9 x9_1) ∧ Aside0 (Kd.S k50 50 w' w.heap.size (fun _ => True) u209000 x209000_1) ∧ Aside0 (w'.heap[gb207]? = some (.cells #[(.slice none 0 0), .int .i64 0, (.slice none 0 0), .int .i64 0, (.slice none 0 0)] 26 (0, 0))) ∧ Aside0 (w'.heap[gb208]? = some (.cells #[u209000, .int .i64 0, (.slice none 0 0), .int .i64 0, (.slice none 0 0)] 26 (0, 0))) ∧ Aside0 (IsS79 w0 w' g x1000_1) ∧ Aside0 (KeepBut w w' g none) ∧ Aside0 (Below w0.heap.size w0 w'))
 case atStart => exact ⟨(([] : List Bool)), (t209), (t210), (([] : List (S50))), (.slice none 0 0), (by first | rfl | (simp; done) | (simp [*]; done)), H', ⟨Nat.le_refl _⟩, ⟨by first | exact Kd.R_nil _ _ _ _ _ | exact Kd.N_nil _ _ _ _ _ | exact Kd.V_nil _ _ _ _ _ | exact Kd.Q_nil _ _ _ _ _ | exact Kd.S_nil _ _ _ _ _⟩, ⟨by first | exact Kd.S_nil _ _ _ _ _ | exact Kd.N_nil _ _ _ _ _ | exact Kd.V_nil _ _ _ _ _ | exact Kd.Q_nil _ _ _ _ _ | exact Kd.R_nil _ _ _ _ _⟩, ⟨blk_x BK207.out⟩, ⟨blk_x BK208.out⟩, ⟨by exact IsS79.up HI0.out⟩, ⟨by exact keep_y HK.out⟩, ⟨by exact below_y HB.out⟩⟩
 case round =>
  clear H'
  obtain ⟨x9_1, x10_1, x1000_1, x209000_1, u209000, rfl, HA, HK1, HO_9, HO_209000, BK207, BK208, HI0, HK, HB⟩ := hrel
  cases gk with
  | zero => exact absurd HA.out (by simp [swarfkit_CarOf.l0])
  | succ k1 =>
   have H := HA.out
   clear HA
   simp only [swarfkit_CarOf.l0] at H
   by_cases c8 : x10_1 > 0
   ·
    rw [if_pos c8] at H
    have c8b0 : decide (0 < x10_1) = true := decide_eq_true c8
    clear c8
    replace H := Option.bind_eq_some_iff.mp H
    obtain ⟨⟨t211, t212⟩, A90, H⟩ := H
    try dsimp only at H
    have A9 := Aside0.mk A90
    clear A90
    replace H := Option.bind_eq_some_iff.mp H
    obtain ⟨⟨t213, t214⟩, A100, H⟩ := H
    try dsimp only at H
    have A10 := Aside0.mk A100
    clear A100
    replace H := Option.bind_eq_some_iff.mp H
    obtain ⟨⟨t215, t216⟩, A110, H⟩ := H
    try dsimp only at H
    have A11 := Aside0.mk A110
    clear A110
    replace H := Option.bind_eq_some_iff.mp H
    obtain ⟨⟨t217, t218⟩, A120, H⟩ := H
    try dsimp only at H
    have A12 := Aside0.mk A120
    clear A120
    obtain ⟨y219, hy219⟩ : ∃ y_ : List Int, y_ = (([0, t215, t217] : List Int)) := ⟨_, rfl⟩
    replace H : ((swarfkit_Feed_Either.f t218 y219).bind fun bt222 => (swarfkit_CarOf.l1 k1 a2 x9_1 x10_1 (x209000_1.length : Int) true 0 bt222.2 x209000_1 0 0 ([] : List Int) t211 t213 bt222.1)) = some (r1, r2, r3, r4, r5, r6, r7) := by first | (rw [hy219]; with_reducible exact H) | (have H2_ := (Option.bind_some _ _).symm.trans H; rw [hy219]; with_reducible exact H2_) | (have H2_ := (Option.bind_some _ _).symm.trans H; with_reducible exact H2_) | with_reducible exact H | (rw [hy219]; exact H) | exact H
    have Ny219 := Aside0.mk hy219
    clear hy219
    replace H := Option.bind_eq_some_iff.mp H
    obtain ⟨⟨t222, t223⟩, A130, H⟩ := H
    try dsimp only at H
    have A13 := Aside0.mk A130
    clear A130
    have H' := Aside0.mk H
    clear H
    have hnb14 := NB208_207.out
    have hnc14 := NB207_208.out
    have hnb15 := NB208_0.out
    have hnc15 := NB0_208.out
    obtain ⟨_, _, _, _, _⟩ := cz5 BK208
    have hfz16_0 := blk_frozen BK208.out
    obtain ⟨Ao17, co17, eo17⟩ := Kd.S_slice HO_209000.out
    subst eo17
    go_wp2_with (first | ((with_reducible refine gate_callee (f := 35) rfl ?_); refine goesL_ (some 29) rfl rfl Try.func35 (by kernel_rfl) rfl #[.pointer (some ⟨g, 0, none⟩), .int .i64 1, .int .i64 2] rfl (by (try simp only [List.map_toArray, List.map_cons, List.map_nil]); first | done | rfl | (simp only [List.length_drop, List.length_take]; rfl)) ?_; (with_reducible refine (swarfkit_Feed_Often.calls g x1000_1 1 2 t211 t212 w0 _ ?side1 ?side2 A9.out).mono ?_); (case side1 => exact IsS79.up HI0.out); (case side2 => exact below_y HB.out); rintro e w18 ⟨rfl, hi, hb, hk⟩; refine ⟨_, rfl, ?_⟩; replace HO_9 := Aside0.mk (Kd.R_mono (Kd.R_keep (IsS79.apart (show IsS79 w0 _ g x1000_1 from by exact IsS79.up HI0.out) (Kd.R_x HO_9.out) (by decide)) hk (fun _ h => h.2)) (fun _ h => h.1)); replace HO_209000 := Aside0.mk (Kd.S_mono (Kd.S_keep (IsS79.apartS (show IsS79 w0 _ g x1000_1 from by exact IsS79.up HI0.out) (Kd.S_x HO_209000.out) (by decide)) hk (fun _ h => h.2)) (fun _ h => h.1)); replace BK207 := Aside0.mk (KeepBut.blk hk (blk_x BK207.out) NB207_0.out (by simp)); replace BK208 := Aside0.mk (KeepBut.blk hk (blk_x BK208.out) NB208_0.out (by simp)); replace HK := Aside0.mk (KeepBut.trans (by exact keep_y HK.out) hk (.inl rfl)); replace HB := Aside0.mk (hb); replace HI0 := Aside0.mk (hi); (try clear hb); (try clear hk); (try clear hi)) | ((with_reducible refine gate_callee (f := 46) rfl ?_); refine goesL_ (some 31) rfl rfl Try.func46 (by kernel_rfl) rfl #[.pointer (some ⟨g, 0, none⟩), .int .i64 1, .int .i64 3] rfl (by (try simp only [List.map_toArray, List.map_cons, List.map_nil]); first | done | rfl | (simp only [List.length_drop, List.length_take]; rfl)) ?_; (with_reducible refine (swarfkit_Feed_Between.calls g t212 1 3 t213 t214 w0 _ ?side1 ?side2 A10.out).mono ?_); (case side1 => exact IsS79.up HI0.out); (case side2 => exact below_y HB.out); rintro e w19 ⟨rfl, hi, hb, hk⟩; refine ⟨_, rfl, ?_⟩; replace HO_9 := Aside0.mk (Kd.R_mono (Kd.R_keep (IsS79.apart (show IsS79 w0 _ g t212 from by exact IsS79.up HI0.out) (Kd.R_x HO_9.out) (by decide)) hk (fun _ h => h.2)) (fun _ h => h.1)); replace HO_209000 := Aside0.mk (Kd.S_mono (Kd.S_keep (IsS79.apartS (show IsS79 w0 _ g t212 from by exact IsS79.up HI0.out) (Kd.S_x HO_209000.out) (by decide)) hk (fun _ h => h.2)) (fun _ h => h.1)); replace BK207 := Aside0.mk (KeepBut.blk hk (blk_x BK207.out) NB207_0.out (by simp)); replace BK208 := Aside0.mk (KeepBut.blk hk (blk_x BK208.out) NB208_0.out (by simp)); replace HK := Aside0.mk (KeepBut.trans (by exact keep_y HK.out) hk (.inl rfl)); replace HB := Aside0.mk (hb); replace HI0 := Aside0.mk (hi); (try clear hb); (try clear hk); (try clear hi)) | ((with_reducible refine gate_callee (f := 25) rfl ?_); refine goesL_ (some 34) rfl rfl Try.func25 (by kernel_rfl) rfl #[.pointer (some ⟨g, 0, none⟩), .int .i64 30] rfl (by (try simp only [List.map_toArray, List.map_cons, List.map_nil]); first | done | rfl | (simp only [List.length_drop, List.length_take]; rfl)) ?_; (with_reducible refine (swarfkit_Feed_Below.calls g t214 30 t215 t216 w0 _ ?side1 ?side2 A11.out).mono ?_); (case side1 => exact IsS79.up HI0.out); (case side2 => exact below_y HB.out); rintro e w20 ⟨rfl, hi, hb, hk⟩; refine ⟨_, rfl, ?_⟩; replace HO_9 := Aside0.mk (Kd.R_mono (Kd.R_keep (IsS79.apart (show IsS79 w0 _ g t214 from by exact IsS79.up HI0.out) (Kd.R_x HO_9.out) (by decide)) hk (fun _ h => h.2)) (fun _ h => h.1)); replace HO_209000 := Aside0.mk (Kd.S_mono (Kd.S_keep (IsS79.apartS (show IsS79 w0 _ g t214 from by exact IsS79.up HI0.out) (Kd.S_x HO_209000.out) (by decide)) hk (fun _ h => h.2)) (fun _ h => h.1)); replace BK207 := Aside0.mk (KeepBut.blk hk (blk_x BK207.out) NB207_0.out (by simp)); replace BK208 := Aside0.mk (KeepBut.blk hk (blk_x BK208.out) NB208_0.out (by simp)); replace HK := Aside0.mk (KeepBut.trans (by exact keep_y HK.out) hk (.inl rfl)); replace HB := Aside0.mk (hb); replace HI0 := Aside0.mk (hi); (try clear hb); (try clear hk); (try clear hi)) | ((with_reducible refine gate_callee (f := 25) rfl ?_); refine goesL_ (some 36) rfl rfl Try.func25 (by kernel_rfl) rfl #[.pointer (some ⟨g, 0, none⟩), .int .i64 30] rfl (by (try simp only [List.map_toArray, List.map_cons, List.map_nil]); first | done | rfl | (simp only [List.length_drop, List.length_take]; rfl)) ?_; (with_reducible refine (swarfkit_Feed_Below.calls g t216 30 t217 t218 w0 _ ?side1 ?side2 A12.out).mono ?_); (case side1 => exact IsS79.up HI0.out); (case side2 => exact below_y HB.out); rintro e w21 ⟨rfl, hi, hb, hk⟩; refine ⟨_, rfl, ?_⟩; replace HO_9 := Aside0.mk (Kd.R_mono (Kd.R_keep (IsS79.apart (show IsS79 w0 _ g t216 from by exact IsS79.up HI0.out) (Kd.R_x HO_9.out) (by decide)) hk (fun _ h => h.2)) (fun _ h => h.1)); replace HO_209000 := Aside0.mk (Kd.S_mono (Kd.S_keep (IsS79.apartS (show IsS79 w0 _ g t216 from by exact IsS79.up HI0.out) (Kd.S_x HO_209000.out) (by decide)) hk (fun _ h => h.2)) (fun _ h => h.1)); replace BK207 := Aside0.mk (KeepBut.blk hk (blk_x BK207.out) NB207_0.out (by simp)); replace BK208 := Aside0.mk (KeepBut.blk hk (blk_x BK208.out) NB208_0.out (by simp)); replace HK := Aside0.mk (KeepBut.trans (by exact keep_y HK.out) hk (.inl rfl)); replace HB := Aside0.mk (hb); replace HI0 := Aside0.mk (hi); (try clear hb); (try clear hk); (try clear hi)) | ((with_reducible refine gate_dst (N := 37) rfl ?_); (try (refine gate_guard (by rfl) ?_; dsimp only)); refine Kd.R_lit (Kd.int .i64) _ 3 ?hg (N := 37) ?hd (xs := ([0, t215, t217] : List Int)) (inner := [.int .i64 0, .int .i64 t215, .int .i64 t217]) (ok := fun _ => True) (okp := fun _ => True) ?hr ?hp (fun _ hk => hk) trivial (Below.refl _ _) (Nat.le_refl _) (by simp) ?_; (case hd => rfl); (case hg => rfl); (case hr => first | (go_simp; done) | (go_simp; rfl)); (case hp => exact (Reps.one (show Kd.M (Kd.int .i64) _ _ _ 0 [.int .i64 0] from rfl) (Reps.one (show Kd.M (Kd.int .i64) _ _ _ t215 [.int .i64 t215] from rfl) (Reps.one (show Kd.M (Kd.int .i64) _ _ _ t217 [.int .i64 t217] from rfl) (Reps.none _ _))))); intro v220 w22 ho23 hb hg_ hnew_; clear hg_ hnew_; (first | rw [← Ny219.out] at ho23 | (simp only [Int.reduceToNat] at ho23; rw [← Ny219.out] at ho23)); replace HO_9 := Aside0.mk (Kd.R_below (Kd.R_x HO_9.out) hb); replace HO_209000 := Aside0.mk (Kd.S_elder' (Kd.S_x HO_209000.out) (Kd.R_base ho23) hb); have HO221 := Aside0.mk (Kd.R_lower ho23 (keep_size (w := w) (g := g) (row := none) (by exact keep_y HK.out))); replace BK207 := Aside0.mk (blk_below (blk_x BK207.out) hb); replace BK208 := Aside0.mk (blk_below (blk_x BK208.out) hb); replace HI0 := Aside0.mk (IsS79.below (by exact IsS79.up HI0.out) hb); replace HK := Aside0.mk (KeepBut.trans (by exact keep_y HK.out) (KeepBut.of_below hb g none) (.inl rfl)); replace HB := bl_x HB hb; clear hb ho23; obtain ⟨Ao24, co24, eo24⟩ := Kd.R_slice HO221.out; subst eo24) | ((with_reducible refine gate_callee (f := 24) rfl ?_); refine goesL_ (some 38) rfl rfl Try.func24 (by kernel_rfl) rfl #[.pointer (some ⟨g, 0, none⟩), .slice Ao24 y219.length co24] rfl (by (try simp only [List.map_toArray, List.map_cons, List.map_nil]); first | done | rfl | (simp only [List.length_drop, List.length_take]; rfl)) ?_; (with_reducible refine (swarfkit_Feed_Either.calls g t218 _ _ y219 t222 t223 w0 _ ?side1 ?side2 ?side3 ?side4 ?side5 A13.out).mono ?_); (case side1 => exact IsS79.up HI0.out); (case side2 => exact below_y HB.out); (case side3 => exact Kd.C_y (Kd.R_reads' HO221.out).2.2); (case side4 => exact (Kd.R_reads' HO221.out).2.1); (case side5 => exact far_slice (IsS79.own_ne HI0.out HO221.out (by decide))); rintro e w25 ⟨rfl, hi, hb, hk⟩; refine ⟨_, rfl, ?_⟩; replace HO_9 := Aside0.mk (Kd.R_mono (Kd.R_keep (IsS79.apart (show IsS79 w0 _ g t218 from by exact IsS79.up HI0.out) (Kd.R_x HO_9.out) (by decide)) hk (fun _ h => h.2)) (fun _ h => h.1)); replace HO_209000 := Aside0.mk (Kd.S_mono (Kd.S_keep (IsS79.apartS (show IsS79 w0 _ g t218 from by exact IsS79.up HI0.out) (Kd.S_x HO_209000.out) (by decide)) hk (fun _ h => h.2)) (fun _ h => h.1)); replace BK207 := Aside0.mk (KeepBut.blk hk (blk_x BK207.out) NB207_0.out (by simp)); replace BK208 := Aside0.mk (KeepBut.blk hk (blk_x BK208.out) NB208_0.out (by simp)); replace HO221 := Aside0.mk (Kd.R_mono (Kd.R_keep (IsS79.apart (show IsS79 w0 _ g t218 from by exact IsS79.up HI0.out) (Kd.R_x HO221.out) (by decide)) hk (fun _ h => h.2)) (fun _ h => h.1)); replace HK := Aside0.mk (KeepBut.trans (by exact keep_y HK.out) hk (.inl rfl)); replace HB := Aside0.mk (hb); replace HI0 := Aside0.mk (hi); (try clear hb); (try clear hk); (try clear hi)) | ((with_reducible refine gate_dst (N := 12) rfl ?_); (try (refine gate_guard (by rfl) ?_; dsimp only)); refine box_event ?hg (N := 12) ?hd (cs := #[.slice none 0 0, .bool false, .int .i64 0, .int .i64 0]) (t := 50) ?hr ?_; (case hd => rfl); (case hg => rfl); (case hr => first | (go_simp; done) | (go_simp; rfl)); intro gb224 hg w26 hbox hb; replace HO_9 := Aside0.mk (Kd.R_below (Kd.R_x HO_9.out) hb); replace HO_209000 := Aside0.mk (Kd.S_below (Kd.S_elderB (Kd.S_x HO_209000.out) gb224 (Nat.le_of_eq hg.symm)) hb); replace HO221 := Aside0.mk (Kd.R_below (Kd.R_x HO221.out) hb); replace HB := bl_x HB hb; have BK224 := Aside0.mk (hbox); have GW224 := Aside0.mk ((by rw [hg]; exact (keep_size (w := w) (g := g) (row := none) (by exact keep_y HK.out)) : w.heap.size ≤ gb224)); have GE224 := Aside0.mk ((Nat.le_trans HW0.out (by rw [hg]; exact (keep_size (w := w) (g := g) (row := none) (by exact keep_y HK.out)) : w.heap.size ≤ gb224) : w0.heap.size ≤ gb224)); replace HK := Aside0.mk (KeepBut.trans (by exact keep_y HK.out) (KeepBut.of_below hb g none) (.inl rfl)); have NB207_224 := Aside0.mk ((by rw [hg]; exact Nat.ne_of_lt (blk_lt (g := gb207) (o := .cells #[.slice none 0 0, .int .i64 0, .slice none 0 0, .int .i64 0, .slice none 0 0] 26 (0, 0)) (blk_x BK207.out)) : gb207 ≠ gb224)); have NB224_207 := Aside0.mk ((by rw [hg]; exact Nat.ne_of_gt (blk_lt (g := gb207) (o := .cells #[.slice none 0 0, .int .i64 0, .slice none 0 0, .int .i64 0, .slice none 0 0] 26 (0, 0)) (blk_x BK207.out)) : gb224 ≠ gb207)); replace BK207 := Aside0.mk (blk_below (blk_x BK207.out) hb); have NB208_224 := Aside0.mk ((by rw [hg]; exact Nat.ne_of_lt (blk_lt (g := gb208) (o := .cells #[.slice Ao17 x209000_1.length co17, .int .i64 0, .slice none 0 0, .int .i64 0, .slice none 0 0] 26 (0, 0)) (blk_x BK208.out)) : gb208 ≠ gb224)); have NB224_208 := Aside0.mk ((by rw [hg]; exact Nat.ne_of_gt (blk_lt (g := gb208) (o := .cells #[.slice Ao17 x209000_1.length co17, .int .i64 0, .slice none 0 0, .int .i64 0, .slice none 0 0] 26 (0, 0)) (blk_x BK208.out)) : gb224 ≠ gb208)); replace BK208 := Aside0.mk (blk_below (blk_x BK208.out) hb); have NB0_224 := Aside0.mk ((by rw [hg]; exact Nat.ne_of_lt (IsS79.lt (show IsS79 w0 _ g t223 from by exact IsS79.up HI0.out)) : g ≠ gb224)); have NB224_0 := Aside0.mk ((by rw [hg]; exact Nat.ne_of_gt (IsS79.lt (show IsS79 w0 _ g t223 from by exact IsS79.up HI0.out)) : gb224 ≠ g)); replace HI0 := Aside0.mk (IsS79.below (by exact IsS79.up HI0.out) hb); clear hb hbox hg; have hnb27 := NB224_207.out; have hnc27 := NB207_224.out; have hnb28 := NB224_208.out; have hnc28 := NB208_224.out; have hnb29 := NB224_0.out; have hnc29 := NB0_224.out; obtain ⟨_, _, _, _⟩ := cz4 BK224; have hfz30_0 := blk_frozen BK224.out))
    go_loopg [13, 14] k1 (fun kq v13 v14 w' => ∃ (x13_2 : Bool) (x14_2 : Int) (x1000_2 : Int) (x225000_2 : List Int) (u225000 : Value), v13 = .bool x13_2 ∧ v14 = .int .i64 x14_2 ∧ Aside0 (swarfkit_CarOf.l1 kq a2 x9_1 x10_1 (x209000_1.length : Int) x13_2 x14_2 x1000_2 x209000_1 0 0 x225000_2 t211 t213 t222 = some (r1, r2, r3, r4, r5, r6, r7)) ∧ Aside0 (kq ≤ k1) ∧ Aside0 (Kd.R Kd.bool 4 w' w.heap.size (fun _ => True) u9 x9_1) ∧ Aside0 (Kd.S k50 50 w' w.heap.size (fun k_ => some k_ ≠ (u225000 : Value).ownBlock ∧ k_ ≠ gb224) (.slice Ao17 x209000_1.length co17) x209000_1) ∧ Aside0 (Kd.R (Kd.int .i64) 3 w' w.heap.size (fun _ => True) u225000 x225000_2) ∧ Aside0 (w'.heap[gb207]? = some (.cells #[(.slice none 0 0), .int .i64 0, (.slice none 0 0), .int .i64 0, (.slice none 0 0)] 26 (0, 0))) ∧ Aside0 (w'.heap[gb208]? = some (.cells #[(.slice Ao17 x209000_1.length co17), .int .i64 0, (.slice none 0 0), .int .i64 0, (.slice none 0 0)] 26 (0, 0))) ∧ Aside0 (w'.heap[gb224]? = some (.cells #[u225000, .bool t211, .int .i64 t213, .int .i64 t222] 50 (0, 0))) ∧ Aside0 (IsS79 w0 w' g x1000_2) ∧ Aside0 (KeepBut w w' g none) ∧ Aside0 (Below w0.heap.size w0 w'))
    case atStart => exact ⟨(true), (0), (t223), (([] : List Int)), (.slice none 0 0), (by first | rfl | (simp; done) | (simp [*]; done)), (by first | rfl | (simp; done) | (simp [*]; done)), H', ⟨Nat.le_refl _⟩, ⟨by (with_reducible repeat (first | apply Kd.R_alloc | apply Kd.R_drewN | apply Kd.R_drew)); exact Kd.R_mono (Kd.R_far (p := ⟨gb224, 3, none⟩) (Kd.R_far (p := ⟨gb224, 2, none⟩) (Kd.R_far (p := ⟨gb224, 1, none⟩) (Kd.R_far (p := ⟨gb224, 0, none⟩) (Kd.R_types HO_9.out BK224.out (by decide)) (fun _ hk => hk.2) (.slice none 0 0)) (fun _ hk => hk.2) (.bool t211)) (fun _ hk => hk.2) (.int .i64 t213)) (fun _ hk => hk.2) (.int .i64 t222)) (fun _ hk => trivial)⟩, ⟨by (with_reducible repeat (first | apply Kd.S_alloc | apply Kd.S_drewN | apply Kd.S_drew)); exact Kd.S_mono (Kd.S_far (p := ⟨gb224, 3, none⟩) (Kd.S_far (p := ⟨gb224, 2, none⟩) (Kd.S_far (p := ⟨gb224, 1, none⟩) (Kd.S_far (p := ⟨gb224, 0, none⟩) (Kd.S_mono HO_209000.out (fun k_ hk => (⟨hk, hk.2⟩ : _ ∧ k_ ≠ gb224))) (fun _ hk => hk.2) (.slice none 0 0)) (fun _ hk => hk.2) (.bool t211)) (fun _ hk => hk.2) (.int .i64 t213)) (fun _ hk => hk.2) (.int .i64 t222)) (fun _ hk => ⟨(by simp [Value.ownBlock]), hk.1.2⟩)⟩, ⟨by first | exact Kd.R_nil _ _ _ _ _ | exact Kd.N_nil _ _ _ _ _ | exact Kd.V_nil _ _ _ _ _ | exact Kd.Q_nil _ _ _ _ _ | exact Kd.S_nil _ _ _ _ _⟩, ⟨blk_w BK207.out⟩, ⟨blk_w BK208.out⟩, ⟨by (with_reducible repeat (first | refine blk_drewN ?_ _ | refine blk_drew ?_ | refine blk_alloc ?_ _)); refine blk_put (cs := #[.slice none 0 0, .bool t211, .int .i64 t213, .int .i64 0]) ?_ 3 _ rfl; (with_reducible repeat (first | refine blk_drewN ?_ _ | refine blk_drew ?_ | refine blk_alloc ?_ _)); refine blk_put (cs := #[.slice none 0 0, .bool t211, .int .i64 0, .int .i64 0]) ?_ 2 _ rfl; (with_reducible repeat (first | refine blk_drewN ?_ _ | refine blk_drew ?_ | refine blk_alloc ?_ _)); refine blk_put (cs := #[.slice none 0 0, .bool false, .int .i64 0, .int .i64 0]) ?_ 1 _ rfl; (with_reducible repeat (first | refine blk_drewN ?_ _ | refine blk_drew ?_ | refine blk_alloc ?_ _)); refine blk_put (cs := #[.slice none 0 0, .bool false, .int .i64 0, .int .i64 0]) ?_ 0 _ rfl; (with_reducible repeat (first | refine blk_drewN ?_ _ | refine blk_drew ?_ | refine blk_alloc ?_ _)); exact BK224.out⟩, ⟨by exact IsS79.up HI0.out⟩, ⟨by exact keep_y HK.out⟩, ⟨by exact below_y HB.out⟩⟩
    case round =>
     clear H'
     obtain ⟨x13_2, x14_2, x1000_2, x225000_2, u225000, rfl, rfl, HA, HK2, HO_9, HO_209000, HO_225000, BK207, BK208, BK224, HI0, HK, HB⟩ := hrel
     cases gk with
     | zero => exact absurd HA.out (by simp [swarfkit_CarOf.l1])
     | succ k2 =>
      have H := HA.out
      clear HA
      simp only [swarfkit_CarOf.l1] at H
      by_cases c31 : x14_2 < (x209000_1.length : Int)
      ·
       rw [if_pos c31] at H
       have c31b0 : decide (x14_2 < (x209000_1.length : Int)) = true := decide_eq_true c31
       clear c31
       replace H := Option.bind_eq_some_iff.mp H
       obtain ⟨⟨t225, t226⟩, A320, H⟩ := H
       try dsimp only at H
       have A32 := Aside0.mk A320
       clear A320
       by_cases c33 : t225 = true
       ·
        subst c33
        have H1 : (if x225000_2.length < 17592186044416 then ((some (x225000_2 ++ [x14_2] : List Int)).bind fun y227 => (if x13_2 = true then (if 0 ≤ x14_2 then (if x14_2 < (x9_1.length : Int) then (swarfkit_CarOf.l1 k2 a2 x9_1 x10_1 (x209000_1.length : Int) (rdOf false x9_1 x14_2) (wrap64 (x14_2 + 1)) t226 x209000_1 0 0 y227 t211 t213 t222) else (none)) else (none)) else (swarfkit_CarOf.l1 k2 a2 x9_1 x10_1 (x209000_1.length : Int) false (wrap64 (x14_2 + 1)) t226 x209000_1 0 0 y227 t211 t213 t222))) else (none)) = some (r1, r2, r3, r4, r5, r6, r7) := by rw [if_pos rfl] at H; exact H
        clear H
        have H := H1
        clear H1
        by_cases c34 : x225000_2.length < 17592186044416
        ·
         rw [if_pos c34] at H
         have LMc34 := Aside0.mk c34
         clear c34
         obtain ⟨y227, hy227⟩ : ∃ y_ : List Int, y_ = (x225000_2 ++ [x14_2]) := ⟨_, rfl⟩
         replace H : (if x13_2 = true then (if 0 ≤ x14_2 then (if x14_2 < (x9_1.length : Int) then (swarfkit_CarOf.l1 k2 a2 x9_1 x10_1 (x209000_1.length : Int) (rdOf false x9_1 x14_2) (wrap64 (x14_2 + 1)) t226 x209000_1 0 0 y227 t211 t213 t222) else (none)) else (none)) else (swarfkit_CarOf.l1 k2 a2 x9_1 x10_1 (x209000_1.length : Int) false (wrap64 (x14_2 + 1)) t226 x209000_1 0 0 y227 t211 t213 t222)) = some (r1, r2, r3, r4, r5, r6, r7) := by first | (rw [hy227]; with_reducible exact H) | (have H2_ := (Option.bind_some _ _).symm.trans H; rw [hy227]; with_reducible exact H2_) | (have H2_ := (Option.bind_some _ _).symm.trans H; with_reducible exact H2_) | with_reducible exact H | (rw [hy227]; exact H) | exact H
         have Ny227 := Aside0.mk hy227
         clear hy227
         by_cases c35 : x13_2 = true
         ·
          subst c35
          have H1 : (if 0 ≤ x14_2 then (if x14_2 < (x9_1.length : Int) then (swarfkit_CarOf.l1 k2 a2 x9_1 x10_1 (x209000_1.length : Int) (rdOf false x9_1 x14_2) (wrap64 (x14_2 + 1)) t226 x209000_1 0 0 y227 t211 t213 t222) else (none)) else (none)) = some (r1, r2, r3, r4, r5, r6, r7) := by rw [if_pos rfl] at H; exact H
          clear H
          have H := H1
          clear H1
          by_cases c36 : 0 ≤ x14_2
          ·
           rw [if_pos c36] at H
           have c36b0 : decide (0 ≤ x14_2) = true := decide_eq_true c36
           clear c36
           by_cases c37 : x14_2 < (x9_1.length : Int)
           ·
            rw [if_pos c37] at H
            have c37b0 : decide (x14_2 < (x9_1.length : Int)) = true := decide_eq_true c37
            clear c37
            have H' := Aside0.mk H
            clear H
            try go_wp2_with (first | ((with_reducible refine gate_callee (f := 35) rfl ?_); refine goesL_ (some 46) rfl rfl Try.func35 (by kernel_rfl) rfl #[.pointer (some ⟨g, 0, none⟩), .int .i64 1, .int .i64 4] rfl (by (try simp only [List.map_toArray, List.map_cons, List.map_nil]); first | done | rfl | (simp only [List.length_drop, List.length_take]; rfl)) ?_; (with_reducible refine (swarfkit_Feed_Often.calls g x1000_2 1 4 true t226 w0 _ ?side1 ?side2 A32.out).mono ?_); (case side1 => exact IsS79.up HI0.out); (case side2 => exact below_y HB.out); rintro e w38 ⟨rfl, hi, hb, hk⟩; refine ⟨_, rfl, ?_⟩; replace HO_9 := Aside0.mk (Kd.R_mono (Kd.R_keep (IsS79.apart (show IsS79 w0 _ g x1000_2 from by exact IsS79.up HI0.out) (Kd.R_x HO_9.out) (by decide)) hk (fun _ h => h.2)) (fun _ h => h.1)); replace HO_209000 := Aside0.mk (Kd.S_mono (Kd.S_keep (IsS79.apartS (show IsS79 w0 _ g x1000_2 from by exact IsS79.up HI0.out) (Kd.S_x HO_209000.out) (by decide)) hk (fun _ h => h.2)) (fun _ h => h.1)); replace HO_225000 := Aside0.mk (Kd.R_mono (Kd.R_keep (IsS79.apart (show IsS79 w0 _ g x1000_2 from by exact IsS79.up HI0.out) (Kd.R_x HO_225000.out) (by decide)) hk (fun _ h => h.2)) (fun _ h => h.1)); replace BK207 := Aside0.mk (KeepBut.blk hk (blk_x BK207.out) NB207_0.out (by simp)); replace BK208 := Aside0.mk (KeepBut.blk hk (blk_x BK208.out) NB208_0.out (by simp)); replace BK224 := Aside0.mk (KeepBut.blk hk (blk_x BK224.out) NB224_0.out (by simp)); replace HK := Aside0.mk (KeepBut.trans (by exact keep_y HK.out) hk (.inl rfl)); replace HB := Aside0.mk (hb); replace HI0 := Aside0.mk (hi); (try clear hb); (try clear hk); (try clear hi)))
            replace HO_9 := Aside0.mk (Kd.R_drew HO_9.out)
            replace HO_209000 := Aside0.mk (Kd.S_drew HO_209000.out)
            replace HO_225000 := Aside0.mk (Kd.R_drew HO_225000.out)
            replace BK207 := Aside0.mk (blk_drew BK207.out)
            replace BK208 := Aside0.mk (blk_drew BK208.out)
            replace BK224 := Aside0.mk (blk_drew BK224.out)
            replace HI0 := Aside0.mk (IsS79.drew HI0.out)
            replace HK := Aside0.mk (keep_drew HK.out)
            replace HB := Aside0.mk (below_drew1 HB.out)
            have p230 : 0 ≤ (x14_2 : Int) := of_x
            have q230 : x14_2 < (x9_1.length : Int) := of_x
            obtain ⟨Ao_, co_, eo_⟩ := Kd.R_slice HO_9.out
            subst eo_
            obtain ⟨ad230, e230, hx230_0⟩ := Kd.at_bool (Kd.R_reads' HO_9.out).2.2 x14_2 p230 q230
            cases e230
            replace p230 := eq_true p230
            replace q230 := eq_true q230
            have hne_ : (ad230.add (x14_2).toNat).block ≠ gb224 := by
             first | rw [add_block] | (show (Addr.add _ _).block ≠ _; rw [add_block])
             intro e_
             obtain ⟨_, hz_⟩ := Kd.R_typed HO_9.out _ rfl
             rw [e_, BK224.out] at hz_
             injection hz_ with hz_
             injection hz_ with _ hz_
             exact absurd hz_ (by decide)
            have hc0_ : w38.cell? ⟨gb224, 0, none⟩ = some (u225000) := (blk_cell BK224.out 0).trans rfl
            have hc1_ : w38.cell? ⟨gb224, 1, none⟩ = some (.bool t211) := (blk_cell BK224.out 1).trans rfl
            have hc2_ : w38.cell? ⟨gb224, 2, none⟩ = some (.int .i64 t213) := (blk_cell BK224.out 2).trans rfl
            have hc3_ : w38.cell? ⟨gb224, 3, none⟩ = some (.int .i64 t222) := (blk_cell BK224.out 3).trans rfl
            have hx_ : w38.cell? (ad230.add (x14_2).toNat) = some (.bool (rdOf false x9_1 x14_2)) := hx230_0
            have hcA0_ : (w38.alloc (.cells #[.int .i64 x14_2] 3)).cell? ⟨gb224, 0, none⟩ = some (u225000) := (blk_cell (blk_alloc BK224.out _) 0).trans rfl
            have hcA1_ : (w38.alloc (.cells #[.int .i64 x14_2] 3)).cell? ⟨gb224, 1, none⟩ = some (.bool t211) := (blk_cell (blk_alloc BK224.out _) 1).trans rfl
            have hcA2_ : (w38.alloc (.cells #[.int .i64 x14_2] 3)).cell? ⟨gb224, 2, none⟩ = some (.int .i64 t213) := (blk_cell (blk_alloc BK224.out _) 2).trans rfl
            have hcA3_ : (w38.alloc (.cells #[.int .i64 x14_2] 3)).cell? ⟨gb224, 3, none⟩ = some (.int .i64 t222) := (blk_cell (blk_alloc BK224.out _) 3).trans rfl
            have hxA_ : (w38.alloc (.cells #[.int .i64 x14_2] 3)).cell? (ad230.add (x14_2).toNat) = some (.bool (rdOf false x9_1 x14_2)) := (World.cell?_alloc_lt _ _ _ (World.block_lt_of_cell? _ _ hx_)).trans hx_
            go_region_law ((refine Kd.R_append_step (W := w38.drew) (Kd.int .i64) w.heap.size (by rfl) (.tmp 48) (.tmp 50) 24 3 (.int .i64 0) 8 (by rfl) Try.underlying24 info3 rfl (by decide) (by omega) u225000 x225000_2 x14_2 [.int .i64 x14_2] (fun _ => True) (fun _ => False) (by rfl) (by rfl) ?aP (fun _ hk => hk.elim) ?aF ?aO (Below.refl _ _) ?aS ?aL ?_; (case aP => exact rfl); (case aF => exact (fun _ _ => trivial)); (case aO => exact (Kd.R_x HO_225000.out)); (case aS => exact (keep_size (w := w) (g := g) (row := none) (by exact keep_y HK.out))); (case aL => have := LMc34.out; omega); intro v228 w40 ho hb hg hat; (first | have HS4_ := cell_grown hg (hx230_0) (by first | exact (by obtain ⟨_, hz_⟩ := Kd.R_typed HO_9.out _ rfl; exact Kd.R_ne HO_225000.out hz_ (by decide)) | (rw [add_block]; exact (by obtain ⟨_, hz_⟩ := Kd.R_typed HO_9.out _ rfl; exact Kd.R_ne HO_225000.out hz_ (by decide))) | (show some (Addr.add _ _).block ≠ _; rw [add_block]; exact (by obtain ⟨_, hz_⟩ := Kd.R_typed HO_9.out _ rfl; exact Kd.R_ne HO_225000.out hz_ (by decide)))) | have HS4_ := cell_grown hg (cell_unalloc (hx230_0) (by first | exact (by obtain ⟨_, hz_⟩ := Kd.R_typed HO_9.out _ rfl; exact blk_lt hz_) | (rw [add_block]; exact (by obtain ⟨_, hz_⟩ := Kd.R_typed HO_9.out _ rfl; exact blk_lt hz_)) | (show (Addr.add _ _).block < _; rw [add_block]; exact (by obtain ⟨_, hz_⟩ := Kd.R_typed HO_9.out _ rfl; exact blk_lt hz_)))) (by first | exact (by obtain ⟨_, hz_⟩ := Kd.R_typed HO_9.out _ rfl; exact Kd.R_ne HO_225000.out hz_ (by decide)) | (rw [add_block]; exact (by obtain ⟨_, hz_⟩ := Kd.R_typed HO_9.out _ rfl; exact Kd.R_ne HO_225000.out hz_ (by decide))) | (show some (Addr.add _ _).block ≠ _; rw [add_block]; exact (by obtain ⟨_, hz_⟩ := Kd.R_typed HO_9.out _ rfl; exact Kd.R_ne HO_225000.out hz_ (by decide))))); rw [← Ny227.out] at ho; replace HO_9 := Aside0.mk (Kd.R_over' (Kd.R_x HO_9.out) (Kd.R_typed (Kd.R_x HO_225000.out)) (by decide) hg); replace HO_209000 := Aside0.mk (Kd.S_after (ok := (fun k_ => k_ ≠ gb224)) (by (with_reducible repeat (first | apply Kd.S_alloc | apply Kd.S_drewN | apply Kd.S_drew)); exact Kd.S_mono HO_209000.out (fun _ hk => ⟨hk.2, hk.1⟩)) hg hat); replace BK207 := Aside0.mk (blk_grown (blk_x BK207.out) hg (Kd.R_ne HO_225000.out BK207.out (by decide))); replace BK208 := Aside0.mk (blk_grown (blk_x BK208.out) hg (Kd.R_ne HO_225000.out BK208.out (by decide))); replace BK224 := Aside0.mk (blk_grown (blk_x BK224.out) hg (Kd.R_ne HO_225000.out BK224.out (by decide))); replace HI0 := Aside0.mk (IsS79.grown (by exact IsS79.up HI0.out) hg (IsS79.own_ne HI0.out HO_225000.out (by decide))); replace HB := Aside0.mk (below_weaken (by exact below_y HB.out) HL.out hb); replace HK := Aside0.mk (KeepBut.trans (by exact keep_y HK.out) (KeepBut.of_grown hg g) (Kd.R_base2 HO_225000.out)); have HO229 := Aside0.mk (ho); clear HO_225000; clear ho hb hg hat; obtain ⟨Ao41, co41, eo41⟩ := Kd.R_slice HO_9.out; (first | subst eo41 | (injection eo41 with f1_ f2_ f3_; have f4_ := f1_.symm; have f5_ := f3_.symm; clear f1_ f2_ f3_; subst f4_; subst f5_)); obtain ⟨Ao42, co42, eo42⟩ := Kd.R_slice HO229.out; (first | subst eo42 | (injection eo42 with f1_ f2_ f3_; have f4_ := f1_.symm; have f5_ := f3_.symm; clear f1_ f2_ f3_; subst f4_; subst f5_)); have hs43 : w40.cell? ⟨gb224, 0, none⟩ = some (u225000) := (blk_cell BK224.out 0).trans rfl; have hfs43 := blk_frozen BK224.out 0; have hns43_0 := NB207_224.out; have hns43_1 := NB208_224.out; have hms43_0 := NB224_207.out; have hms43_1 := NB224_208.out; have hxS_ : (w40.setCell ⟨gb224, 0, none⟩ (.slice Ao42 y227.length co42)).cell? (ad230.add (x14_2).toNat) = some (.bool (rdOf false x9_1 x14_2)) := (cell_far (p := ⟨gb224, 0, none⟩) hne_ _).trans HS4_))
            all_goals
             try go_wp2
             go_roundg k2
             case measure => have := HK1.out; have := HK2.out; omega
             case rel => exact ⟨(rdOf false x9_1 x14_2), (wrap64 (x14_2 + 1)), (t226), (y227), (.slice Ao42 y227.length co42), (by first | rfl | (simp; done) | (simp [*]; done)), (by first | rfl | (simp; done) | (simp [*]; done)), H', ⟨by have := HK1.out; have := HK2.out; omega⟩, ⟨by (with_reducible repeat (first | apply Kd.R_alloc | apply Kd.R_drewN | apply Kd.R_drew)); exact Kd.R_mono (Kd.R_far (p := ⟨gb224, 0, none⟩) (Kd.R_types HO_9.out BK224.out (by decide)) (fun _ hk => hk.2) (.slice Ao42 y227.length co42)) (fun _ hk => trivial)⟩, ⟨by (with_reducible repeat (first | apply Kd.S_alloc | apply Kd.S_drewN | apply Kd.S_drew)); exact Kd.S_mono (Kd.S_far (p := ⟨gb224, 0, none⟩) (Kd.S_mono HO_209000.out (fun k_ hk => (⟨hk, hk.1⟩ : _ ∧ k_ ≠ gb224))) (fun _ hk => hk.2) (.slice Ao42 y227.length co42)) (fun _ hk => ⟨hk.1.2, hk.1.1⟩)⟩, ⟨by (with_reducible repeat (first | apply Kd.R_alloc | apply Kd.R_drewN | apply Kd.R_drew)); exact Kd.R_mono (Kd.R_far (p := ⟨gb224, 0, none⟩) (Kd.R_types HO229.out BK224.out (by decide)) (fun _ hk => hk.2) (.slice Ao42 y227.length co42)) (fun _ hk => trivial)⟩, ⟨blk_w BK207.out⟩, ⟨blk_w BK208.out⟩, ⟨by (with_reducible repeat (first | refine blk_drewN ?_ _ | refine blk_drew ?_ | refine blk_alloc ?_ _)); refine blk_put (cs := #[u225000, .bool t211, .int .i64 t213, .int .i64 t222]) ?_ 0 _ rfl; (with_reducible repeat (first | refine blk_drewN ?_ _ | refine blk_drew ?_ | refine blk_alloc ?_ _)); exact BK224.out⟩, ⟨by exact IsS79.up HI0.out⟩, ⟨by exact keep_y HK.out⟩, ⟨by exact below_y HB.out⟩⟩
           ·
            rw [if_neg c37] at H
            exact absurd H (by simp)
          ·
           rw [if_neg c36] at H
           exact absurd H (by simp)
         ·
          replace c35 := Bool.eq_false_iff.mpr c35
          subst c35
          have H1 : (swarfkit_CarOf.l1 k2 a2 x9_1 x10_1 (x209000_1.length : Int) false (wrap64 (x14_2 + 1)) t226 x209000_1 0 0 y227 t211 t213 t222) = some (r1, r2, r3, r4, r5, r6, r7) := by rw [if_neg (show ¬ (false = true) by decide)] at H; exact H
          clear H
          have H := H1
          clear H1
          have H' := Aside0.mk H
          clear H
          try go_wp2_with (first | ((with_reducible refine gate_callee (f := 35) rfl ?_); refine goesL_ (some 46) rfl rfl Try.func35 (by kernel_rfl) rfl #[.pointer (some ⟨g, 0, none⟩), .int .i64 1, .int .i64 4] rfl (by (try simp only [List.map_toArray, List.map_cons, List.map_nil]); first | done | rfl | (simp only [List.length_drop, List.length_take]; rfl)) ?_; (with_reducible refine (swarfkit_Feed_Often.calls g x1000_2 1 4 true t226 w0 _ ?side1 ?side2 A32.out).mono ?_); (case side1 => exact IsS79.up HI0.out); (case side2 => exact below_y HB.out); rintro e w44 ⟨rfl, hi, hb, hk⟩; refine ⟨_, rfl, ?_⟩; replace HO_9 := Aside0.mk (Kd.R_mono (Kd.R_keep (IsS79.apart (show IsS79 w0 _ g x1000_2 from by exact IsS79.up HI0.out) (Kd.R_x HO_9.out) (by decide)) hk (fun _ h => h.2)) (fun _ h => h.1)); replace HO_209000 := Aside0.mk (Kd.S_mono (Kd.S_keep (IsS79.apartS (show IsS79 w0 _ g x1000_2 from by exact IsS79.up HI0.out) (Kd.S_x HO_209000.out) (by decide)) hk (fun _ h => h.2)) (fun _ h => h.1)); replace HO_225000 := Aside0.mk (Kd.R_mono (Kd.R_keep (IsS79.apart (show IsS79 w0 _ g x1000_2 from by exact IsS79.up HI0.out) (Kd.R_x HO_225000.out) (by decide)) hk (fun _ h => h.2)) (fun _ h => h.1)); replace BK207 := Aside0.mk (KeepBut.blk hk (blk_x BK207.out) NB207_0.out (by simp)); replace BK208 := Aside0.mk (KeepBut.blk hk (blk_x BK208.out) NB208_0.out (by simp)); replace BK224 := Aside0.mk (KeepBut.blk hk (blk_x BK224.out) NB224_0.out (by simp)); replace HK := Aside0.mk (KeepBut.trans (by exact keep_y HK.out) hk (.inl rfl)); replace HB := Aside0.mk (hb); replace HI0 := Aside0.mk (hi); (try clear hb); (try clear hk); (try clear hi)))
          replace HO_9 := Aside0.mk (Kd.R_drew HO_9.out)
          replace HO_209000 := Aside0.mk (Kd.S_drew HO_209000.out)
          replace HO_225000 := Aside0.mk (Kd.R_drew HO_225000.out)
          replace BK207 := Aside0.mk (blk_drew BK207.out)
          replace BK208 := Aside0.mk (blk_drew BK208.out)
          replace BK224 := Aside0.mk (blk_drew BK224.out)
          replace HI0 := Aside0.mk (IsS79.drew HI0.out)
          replace HK := Aside0.mk (keep_drew HK.out)
          replace HB := Aside0.mk (below_drew1 HB.out)
          refine start_ (n := 15) (S := fun w' => w'.cell? ⟨gb224, 0, none⟩ = some (u225000) ∧ w'.cell? ⟨gb224, 1, none⟩ = some (.bool t211) ∧ w'.cell? ⟨gb224, 2, none⟩ = some (.int .i64 t213) ∧ w'.cell? ⟨gb224, 3, none⟩ = some (.int .i64 t222)) (ds := [13]) #[false, false, false, false, false, false, false, false, false, false, false, false, false, false, false] (by kernel_rfl) rfl rfl ⟨(blk_cell BK224.out 0).trans rfl, (blk_cell BK224.out 1).trans rfl, (blk_cell BK224.out 2).trans rfl, (blk_cell BK224.out 3).trans rfl⟩ (fun hHeld => ?_); refine with_tabW swarfkit_CarOf.tab13 swarfkit_CarOf.bits13 (fun HT_ HW_ => ?_)
          generalize w44.drew = w45 at HO_9 HO_209000 HO_225000 BK207 BK208 BK224 HI0 HK HB hHeld ⊢
          refine pure_ (i := 0) (N := some 47) (v := ?_) (a' := ?_) (bz 15 1) rfl rfl (any_of HT_.out (by kernel_rfl)) (fun _ _ _ h => h) (Or.inl ⟨by rfl, ?_⟩) ?_ ?_
          rotate_left
          ·
           intro w'
           go_simp
           with_reducible rfl
          rotate_left
          ·
           simp only [Act.put, put_x, i64_w, i32_w]
           rfl
          refine pure_ (i := 2) (N := some 49) (v := ?_) (a' := ?_) (bz 15 5) rfl rfl (any_of HT_.out (by kernel_rfl)) (fun _ _ _ h => h) (Or.inl ⟨by rfl, ?_⟩) ?_ ?_
          rotate_left
          ·
           intro w'
           go_simp
           with_reducible rfl
          rotate_left
          ·
           simp only [Act.put, put_x, i64_w, i32_w]
           rfl
          refine pure_ (i := 5) (N := some 52) (v := ?_) (a' := ?_) (bz 15 37) rfl rfl (any_of HT_.out (by kernel_rfl)) (fun _ _ _ h => h) (Or.inl ⟨by rfl, ?_⟩) ?_ ?_
          rotate_left
          ·
           intro w'
           go_simp
           with_reducible rfl
          rotate_left
          ·
           simp only [Act.put, put_x, i64_w, i32_w]
           rfl
          refine take_ (i := 1) (N := some 48) (v := ?_) (a' := ?_) (bz 15 39) rfl rfl (take_ofW HT_.out HW_.out (by kernel_rfl)) (fun _ _ _ h => h) (Or.inl ⟨by rfl, ?_⟩) hHeld ?_ ?_
          rotate_left
          ·
           rintro w' ⟨s0, s1, s2, s3⟩
           go_simp
           with_reducible rfl
          rotate_left
          ·
           simp only [Act.put, put_x, i64_w, i32_w]
           rfl
          refine one_ (i := 3) (N := some 50) (bz 15 47) rfl rfl (one_of HT_.out (by kernel_rfl)) (by decide) (fun K hK => ?_)
          refine value_ (w1 := ?_) (v := ?_) (by rfl) rfl ?_ ?_
          rotate_left 2
          ·
           go_simp
           constructor
           ·
            rfl
           ·
            rfl
          refine hK.out _ _ ⟨(blk_cell (blk_alloc BK224.out _) 0).trans rfl, (blk_cell (blk_alloc BK224.out _) 1).trans rfl, (blk_cell (blk_alloc BK224.out _) 2).trans rfl, (blk_cell (blk_alloc BK224.out _) 3).trans rfl⟩ (fun hHeld => ?_)
          clear hK K
          refine norm_ (a' := ?_) ?_ ?_
          rotate_left
          ·
           show Act.put _ (some 50) _ = _
           simp only [Act.put, put_x, i64_w, i32_w]
           rfl
          refine one_ (i := 4) (N := some 51) (bz 15 63) rfl rfl (one_of HT_.out (by kernel_rfl)) (by decide) (fun K hK => ?_)
          refine Kd.R_append_step (Kd.int .i64) w.heap.size (by rfl) (.tmp 48) (.tmp 50) 24 3 (.int .i64 0) 8 rfl Try.underlying24 info3 rfl (by decide) (by omega) u225000 x225000_2 x14_2 [.int .i64 x14_2] (fun _ => True) (fun _ => False) rfl rfl ?aP (fun _ hk => hk.elim) ?aF ?aO (Below.refl _ _) ?aS ?aL ?_
          (case aP => exact rfl)
          (case aF => exact (fun _ _ => trivial))
          (case aO => exact (Kd.R_x HO_225000.out))
          (case aS => exact (keep_size (w := w) (g := g) (row := none) (by exact keep_y HK.out)))
          (case aL => have := LMc34.out; omega)
          intro v228 w46 ho hb hg hat
          rw [← Ny227.out] at ho
          replace HO_9 := Aside0.mk (Kd.R_over' (Kd.R_x HO_9.out) (Kd.R_typed (Kd.R_x HO_225000.out)) (by decide) hg)
          replace HO_209000 := Aside0.mk (Kd.S_after (ok := (fun k_ => k_ ≠ gb224)) (by (with_reducible repeat (first | apply Kd.S_alloc | apply Kd.S_drewN | apply Kd.S_drew)); exact Kd.S_mono HO_209000.out (fun _ hk => ⟨hk.2, hk.1⟩)) hg hat)
          replace BK207 := Aside0.mk (blk_grown (blk_x BK207.out) hg (Kd.R_ne HO_225000.out BK207.out (by decide)))
          replace BK208 := Aside0.mk (blk_grown (blk_x BK208.out) hg (Kd.R_ne HO_225000.out BK208.out (by decide)))
          replace BK224 := Aside0.mk (blk_grown (blk_x BK224.out) hg (Kd.R_ne HO_225000.out BK224.out (by decide)))
          replace HI0 := Aside0.mk (IsS79.grown (by exact IsS79.up HI0.out) hg (IsS79.own_ne HI0.out HO_225000.out (by decide)))
          replace HB := Aside0.mk (below_weaken (by exact below_y HB.out) HL.out hb)
          replace HK := Aside0.mk (KeepBut.trans (by exact keep_y HK.out) (KeepBut.of_grown hg g) (Kd.R_base2 HO_225000.out))
          have HO229 := Aside0.mk (ho)
          clear HO_225000 ho hb hg hat
          obtain ⟨Ao47, co47, eo47⟩ := Kd.R_slice HO229.out
          (first | subst eo47 | (injection eo47 with f1_ f2_ f3_; have f4_ := f1_.symm; have f5_ := f3_.symm; clear f1_ f2_ f3_; subst f4_; subst f5_))
          refine hK.out _ _ ⟨(blk_cell BK224.out 0).trans rfl, (blk_cell BK224.out 1).trans rfl, (blk_cell BK224.out 2).trans rfl, (blk_cell BK224.out 3).trans rfl⟩ (fun hHeld => ?_)
          clear hK K
          refine norm_ (a' := ?_) ?_ ?_
          rotate_left
          ·
           show Act.put _ (some 51) _ = _
           simp only [Act.put, put_x, i64_w, i32_w]
           rfl
          refine pure_ (i := 6) (N := some 53) (v := ?_) (a' := ?_) (bz 15 127) rfl rfl (any_of HT_.out (by kernel_rfl)) (fun _ _ _ h => h) (Or.inl ⟨by rfl, ?_⟩) ?_ ?_
          rotate_left
          ·
           intro w'
           go_simp
           with_reducible rfl
          rotate_left
          ·
           simp only [Act.put, put_x, i64_w, i32_w]
           rfl
          refine pure_ (i := 7) (N := some 54) (v := undef) (a' := ?_) (bz 15 255) rfl rfl (any_of HT_.out (by kernel_rfl)) (fun _ _ _ h => h) (Or.inr ⟨by rfl, rfl⟩) ?_ ?_
          rotate_left
          ·
           simp only [Act.put, put_x, i64_w, i32_w]
           rfl
          refine pure_ (i := 8) (N := some 55) (v := undef) (a' := ?_) (bz 15 511) rfl rfl (any_of HT_.out (by kernel_rfl)) (fun _ _ _ h => h) (Or.inr ⟨by rfl, rfl⟩) ?_ ?_
          rotate_left
          ·
           simp only [Act.put, put_x, i64_w, i32_w]
           rfl
          refine pure_ (i := 9) (N := some 56) (v := undef) (a' := ?_) (bz 15 1023) rfl rfl (any_of HT_.out (by kernel_rfl)) (fun _ _ _ h => h) (Or.inr ⟨by rfl, rfl⟩) ?_ ?_
          rotate_left
          ·
           simp only [Act.put, put_x, i64_w, i32_w]
           rfl
          refine pure_ (i := 10) (N := some 57) (v := undef) (a' := ?_) (bz 15 2047) rfl rfl (any_of HT_.out (by kernel_rfl)) (fun _ _ _ h => h) (Or.inr ⟨by rfl, rfl⟩) ?_ ?_
          rotate_left
          ·
           simp only [Act.put, put_x, i64_w, i32_w]
           rfl
          refine pure_ (i := 11) (N := some 58) (v := ?_) (a' := ?_) (bz 15 4095) rfl rfl (any_of HT_.out (by kernel_rfl)) (fun _ _ _ h => h) (Or.inl ⟨by rfl, ?_⟩) ?_ ?_
          rotate_left
          ·
           intro w'
           go_simp
           with_reducible rfl
          rotate_left
          ·
           simp only [Act.put, put_x, i64_w, i32_w]
           rfl
          refine pure_ (i := 12) (N := some 59) (v := ?_) (a' := ?_) (bz 15 8191) rfl rfl (any_of HT_.out (by kernel_rfl)) (fun _ _ _ h => h) (Or.inl ⟨by rfl, ?_⟩) ?_ ?_
          rotate_left
          ·
           intro w'
           go_simp
           with_reducible rfl
          rotate_left
          ·
           simp only [Act.put, put_x, i64_w, i32_w]
           rfl
          refine last_ (i := 13) (N := none) (bz 15 16383) rfl rfl (one_of HT_.out (by kernel_rfl)) (by decide) (fun K hK => ?_)
          have hs48 : w46.cell? ⟨gb224, 0, none⟩ = some (u225000) := (blk_cell BK224.out 0).trans rfl
          have hfs48 := blk_frozen BK224.out 0
          have hns48_0 := NB207_224.out
          have hns48_1 := NB208_224.out
          have hms48_0 := NB224_207.out
          have hms48_1 := NB224_208.out
          refine skip_ (w1 := ?_) (by rfl) rfl ?_ ?_
          rotate_left
          ·
           go_simp
           rfl
          refine hK.out _ _ ?_
          clear hK K
          refine pure_ (i := 14) (N := some 13) (v := ?_) (a' := ?_) (bz 15 32767) rfl rfl (any_of HT_.out (by kernel_rfl)) (fun _ _ _ h => h) (Or.inl ⟨by rfl, ?_⟩) ?_ ?_
          rotate_left
          ·
           intro w'
           go_simp
           with_reducible rfl
          rotate_left
          ·
           simp only [Act.put, put_x, i64_w, i32_w]
           rfl
          refine done_ (done_of HT_.out (by kernel_rfl)) ?_
          try go_wp2
          go_roundg k2
          case measure => have := HK1.out; have := HK2.out; omega
          case rel => exact ⟨(false), (wrap64 (x14_2 + 1)), (t226), (y227), (.slice Ao47 y227.length co47), (by first | rfl | (simp; done) | (simp [*]; done)), (by first | rfl | (simp; done) | (simp [*]; done)), H', ⟨by have := HK1.out; have := HK2.out; omega⟩, ⟨by (with_reducible repeat (first | apply Kd.R_alloc | apply Kd.R_drewN | apply Kd.R_drew)); exact Kd.R_mono (Kd.R_far (p := ⟨gb224, 0, none⟩) (Kd.R_types HO_9.out BK224.out (by decide)) (fun _ hk => hk.2) (.slice Ao47 y227.length co47)) (fun _ hk => trivial)⟩, ⟨by (with_reducible repeat (first | apply Kd.S_alloc | apply Kd.S_drewN | apply Kd.S_drew)); exact Kd.S_mono (Kd.S_far (p := ⟨gb224, 0, none⟩) (Kd.S_mono HO_209000.out (fun k_ hk => (⟨hk, hk.1⟩ : _ ∧ k_ ≠ gb224))) (fun _ hk => hk.2) (.slice Ao47 y227.length co47)) (fun _ hk => ⟨hk.1.2, hk.1.1⟩)⟩, ⟨by (with_reducible repeat (first | apply Kd.R_alloc | apply Kd.R_drewN | apply Kd.R_drew)); exact Kd.R_mono (Kd.R_far (p := ⟨gb224, 0, none⟩) (Kd.R_types HO229.out BK224.out (by decide)) (fun _ hk => hk.2) (.slice Ao47 y227.length co47)) (fun _ hk => trivial)⟩, ⟨blk_w BK207.out⟩, ⟨blk_w BK208.out⟩, ⟨by (with_reducible repeat (first | refine blk_drewN ?_ _ | refine blk_drew ?_ | refine blk_alloc ?_ _)); refine blk_put (cs := #[u225000, .bool t211, .int .i64 t213, .int .i64 t222]) ?_ 0 _ rfl; (with_reducible repeat (first | refine blk_drewN ?_ _ | refine blk_drew ?_ | refine blk_alloc ?_ _)); exact BK224.out⟩, ⟨by exact IsS79.up HI0.out⟩, ⟨by exact keep_y HK.out⟩, ⟨by exact below_y HB.out⟩⟩
        ·
         rw [if_neg c34] at H
         exact absurd H (by simp)
       ·
        replace c33 := Bool.eq_false_iff.mpr c33
        subst c33
        have H1 : (swarfkit_CarOf.l1 k2 a2 x9_1 x10_1 (x209000_1.length : Int) x13_2 (wrap64 (x14_2 + 1)) t226 x209000_1 0 0 x225000_2 t211 t213 t222) = some (r1, r2, r3, r4, r5, r6, r7) := by rw [if_neg (show ¬ (false = true) by decide)] at H; exact H
        clear H
        have H := H1
        clear H1
        have H' := Aside0.mk H
        clear H
        go_wp2_with (first | ((with_reducible refine gate_callee (f := 35) rfl ?_); refine goesL_ (some 46) rfl rfl Try.func35 (by kernel_rfl) rfl #[.pointer (some ⟨g, 0, none⟩), .int .i64 1, .int .i64 4] rfl (by (try simp only [List.map_toArray, List.map_cons, List.map_nil]); first | done | rfl | (simp only [List.length_drop, List.length_take]; rfl)) ?_; (with_reducible refine (swarfkit_Feed_Often.calls g x1000_2 1 4 false t226 w0 _ ?side1 ?side2 A32.out).mono ?_); (case side1 => exact IsS79.up HI0.out); (case side2 => exact below_y HB.out); rintro e w49 ⟨rfl, hi, hb, hk⟩; refine ⟨_, rfl, ?_⟩; replace HO_9 := Aside0.mk (Kd.R_mono (Kd.R_keep (IsS79.apart (show IsS79 w0 _ g x1000_2 from by exact IsS79.up HI0.out) (Kd.R_x HO_9.out) (by decide)) hk (fun _ h => h.2)) (fun _ h => h.1)); replace HO_209000 := Aside0.mk (Kd.S_mono (Kd.S_keep (IsS79.apartS (show IsS79 w0 _ g x1000_2 from by exact IsS79.up HI0.out) (Kd.S_x HO_209000.out) (by decide)) hk (fun _ h => h.2)) (fun _ h => h.1)); replace HO_225000 := Aside0.mk (Kd.R_mono (Kd.R_keep (IsS79.apart (show IsS79 w0 _ g x1000_2 from by exact IsS79.up HI0.out) (Kd.R_x HO_225000.out) (by decide)) hk (fun _ h => h.2)) (fun _ h => h.1)); replace BK207 := Aside0.mk (KeepBut.blk hk (blk_x BK207.out) NB207_0.out (by simp)); replace BK208 := Aside0.mk (KeepBut.blk hk (blk_x BK208.out) NB208_0.out (by simp)); replace BK224 := Aside0.mk (KeepBut.blk hk (blk_x BK224.out) NB224_0.out (by simp)); replace HK := Aside0.mk (KeepBut.trans (by exact keep_y HK.out) hk (.inl rfl)); replace HB := Aside0.mk (hb); replace HI0 := Aside0.mk (hi); (try clear hb); (try clear hk); (try clear hi)))
        go_roundg k2
        case measure => have := HK1.out; have := HK2.out; omega
        case rel => exact ⟨(x13_2), (wrap64 (x14_2 + 1)), (t226), (x225000_2), (u225000), (by first | rfl | (simp; done) | (simp [*]; done)), (by first | rfl | (simp; done) | (simp [*]; done)), H', ⟨by have := HK1.out; have := HK2.out; omega⟩, ⟨by (with_reducible repeat (first | apply Kd.R_alloc | apply Kd.R_drewN | apply Kd.R_drew)); exact HO_9.out⟩, ⟨by (with_reducible repeat (first | apply Kd.S_alloc | apply Kd.S_drewN | apply Kd.S_drew)); exact HO_209000.out⟩, ⟨by (with_reducible repeat (first | apply Kd.R_alloc | apply Kd.R_drewN | apply Kd.R_drew)); exact HO_225000.out⟩, ⟨blk_x BK207.out⟩, ⟨blk_x BK208.out⟩, ⟨blk_x BK224.out⟩, ⟨by exact IsS79.up HI0.out⟩, ⟨by exact keep_y HK.out⟩, ⟨by exact below_y HB.out⟩⟩
      ·
       rw [if_neg c31] at H
       have c31b0 : decide (x14_2 < (x209000_1.length : Int)) = false := decide_eq_false c31
       clear c31
       by_cases c50 : x209000_1.length < 2932031007402
       ·
        rw [if_pos c50] at H
        have LMc50 := Aside0.mk c50
        clear c50
        obtain ⟨y231, hy231⟩ : ∃ y_ : List (S50), y_ = (x209000_1 ++ [(⟨x225000_2, t211, t213, t222⟩ : S50)]) := ⟨_, rfl⟩
        replace H : (if x13_2 = true then ((swarfkit_Feed_Often.f x1000_2 3 5).bind fun bt234 => (if x9_1.length < 140737488355328 then (swarfkit_CarOf.l0 k2 a2 (x9_1 ++ [bt234.1]) (wrap64 (x10_1 - 1)) bt234.2 y231 0 0) else (none))) else (if x9_1.length < 140737488355328 then (swarfkit_CarOf.l0 k2 a2 (x9_1 ++ [false]) (wrap64 (x10_1 - 1)) x1000_2 y231 0 0) else (none))) = some (r1, r2, r3, r4, r5, r6, r7) := by first | (rw [hy231]; with_reducible exact H) | (have H2_ := (Option.bind_some _ _).symm.trans H; rw [hy231]; with_reducible exact H2_) | (have H2_ := (Option.bind_some _ _).symm.trans H; with_reducible exact H2_) | with_reducible exact H | (rw [hy231]; exact H) | exact H
        have Ny231 := Aside0.mk hy231
        clear hy231
        by_cases c51 : x13_2 = true
        ·
         subst c51
         have H1 : ((swarfkit_Feed_Often.f x1000_2 3 5).bind fun bt234 => (if x9_1.length < 140737488355328 then (swarfkit_CarOf.l0 k2 a2 (x9_1 ++ [bt234.1]) (wrap64 (x10_1 - 1)) bt234.2 y231 0 0) else (none))) = some (r1, r2, r3, r4, r5, r6, r7) := by rw [if_pos rfl] at H; exact H
         clear H
         have H := H1
         clear H1
         replace H := Option.bind_eq_some_iff.mp H
         obtain ⟨⟨t234, t235⟩, A520, H⟩ := H
         try dsimp only at H
         have A52 := Aside0.mk A520
         clear A520
         by_cases c53 : x9_1.length < 140737488355328
         ·
          rw [if_pos c53] at H
          have LMc53 := Aside0.mk c53
          clear c53
          obtain ⟨y236, hy236⟩ : ∃ y_ : List Bool, y_ = (x9_1 ++ [t234]) := ⟨_, rfl⟩
          replace H : (swarfkit_CarOf.l0 k2 a2 y236 (wrap64 (x10_1 - 1)) t235 y231 0 0) = some (r1, r2, r3, r4, r5, r6, r7) := by first | (rw [hy236]; with_reducible exact H) | (have H2_ := (Option.bind_some _ _).symm.trans H; rw [hy236]; with_reducible exact H2_) | (have H2_ := (Option.bind_some _ _).symm.trans H; with_reducible exact H2_) | with_reducible exact H | (rw [hy236]; exact H) | exact H
          have Ny236 := Aside0.mk hy236
          clear hy236
          have H' := Aside0.mk H
          clear H
          have hnb54 := NB208_207.out
          have hnc54 := NB207_208.out
          have hnb55 := NB208_224.out
          have hnc55 := NB224_208.out
          have hnb56 := NB208_0.out
          have hnc56 := NB0_208.out
          obtain ⟨_, _, _, _, _⟩ := cz5 BK208
          have hfz57_0 := blk_frozen BK208.out
          have hnb58 := NB224_207.out
          have hnc58 := NB207_224.out
          have hnb59 := NB224_0.out
          have hnc59 := NB0_224.out
          obtain ⟨_, _, _, _⟩ := cz4 BK224
          have hfz60_0 := blk_frozen BK224.out
          obtain ⟨Ao62, co62, eo62⟩ := Kd.R_slice HO_225000.out
          subst eo62
          go_wp2_with (first | ((with_reducible refine gate_builtin (b := .append) (xs := #[.tmp 61, .tmp 63]) rfl ?_); (try (refine gate_guard (by rfl) ?_; dsimp only)); at_builtin; refine Kd.S_append k50 w.heap.size rfl (.tmp 61) (.tmp 63) 22 50 (.agg #[(.slice none 0 0), (.bool false), (.int .i64 0), (.int .i64 0)]) 48 rfl Try.underlying22 info50 rfl (by decide) (by omega) (.slice Ao17 x209000_1.length co17) x209000_1 (⟨x225000_2, t211, t213, t222⟩ : S50) [.slice Ao62 x225000_2.length co62, .bool t211, .int .i64 t213, .int .i64 t222] (fun k_ => k_ ≠ gb224) (fun k_ => some k_ = (.slice Ao62 x225000_2.length co62 : Value).ownBlock) rfl rfl ?aP (fun k_ hk_ => ((Kd.R_mono (ok' := fun k_ => ((fun k_ => k_ ≠ gb224)) k_ ∧ some k_ ≠ (.slice Ao17 x209000_1.length co17 : Value).ownBlock) (Kd.R_types (Kd.R_apart' (HO_225000.out) (Kd.S_typed HO_209000.out) (by decide)) BK224.out (by decide)) (fun k_ hk => ⟨hk.2, hk.1.2⟩))).1 k_ hk_.symm) ?aF ?aO (Below.refl _ _) ?aS ?aL ?_; (case aP => exact k50_mkM _ _ _ (⟨x225000_2, t211, t213, t222⟩ : S50) (Kd.R_mono (Kd.R_tight rfl (Kd.R_mono (ok' := fun k_ => ((fun k_ => k_ ≠ gb224)) k_ ∧ some k_ ≠ (.slice Ao17 x209000_1.length co17 : Value).ownBlock) (Kd.R_types (Kd.R_apart' (HO_225000.out) (Kd.S_typed HO_209000.out) (by decide)) BK224.out (by decide)) (fun k_ hk => ⟨hk.2, hk.1.2⟩))) (fun _ h_ => h_))); (case aF => exact (fun k_ hk => Kd.freshB (g := gb224) (o := .cells #[.slice Ao62 x225000_2.length co62, .bool t211, .int .i64 t213, .int .i64 t222] 50 (0, 0)) (blk_x BK224.out) k_ hk)); (case aO => exact (by (with_reducible repeat (first | apply Kd.S_alloc | apply Kd.S_drewN | apply Kd.S_drew)); exact Kd.S_mono HO_209000.out (fun k_ hk => ⟨hk.2, fun e_ => hk.1 e_⟩))); (case aS => exact (keep_size (w := w) (g := g) (row := none) (by exact keep_y HK.out))); (case aL => have := LMc50.out; omega); intro v232 w61 ho hb hg hat; rw [← Ny231.out] at ho; replace HO_9 := Aside0.mk (Kd.R_over' (Kd.R_x HO_9.out) (Kd.S_typed (Kd.S_x HO_209000.out)) (by decide) hg); replace BK207 := Aside0.mk (blk_grown (blk_x BK207.out) hg (Kd.S_ne HO_209000.out BK207.out (by decide))); replace BK208 := Aside0.mk (blk_grown (blk_x BK208.out) hg (Kd.S_ne HO_209000.out BK208.out (by decide))); replace BK224 := Aside0.mk (blk_grown (blk_x BK224.out) hg (Kd.S_away HO_209000.out (fun _ hk => hk.2))); replace HI0 := Aside0.mk (IsS79.grown (by exact IsS79.up HI0.out) hg (IsS79.own_neS HI0.out HO_209000.out (by decide))); replace HB := Aside0.mk (below_weaken (by exact below_y HB.out) HL.out hb); replace HK := Aside0.mk (KeepBut.trans (by exact keep_y HK.out) (KeepBut.of_grown hg g) (Kd.S_base2 HO_209000.out)); have HO233 := Aside0.mk (ho); clear HO_209000 HO_225000; clear ho hb hg hat) | (go_at_call 35; (with_reducible refine (swarfkit_Feed_Often.calls g x1000_2 3 5 t234 t235 w0 _ ?side1 ?side2 A52.out).mono ?_); (case side1 => exact IsS79.up HI0.out); (case side2 => exact below_y HB.out); rintro e w63 ⟨rfl, hi, hb, hk⟩; replace HO_9 := Aside0.mk (Kd.R_mono (Kd.R_keep (IsS79.apart (show IsS79 w0 _ g x1000_2 from by exact IsS79.up HI0.out) (Kd.R_x HO_9.out) (by decide)) hk (fun _ h => h.2)) (fun _ h => h.1)); replace BK207 := Aside0.mk (KeepBut.blk hk (blk_x BK207.out) NB207_0.out (by simp)); replace BK208 := Aside0.mk (KeepBut.blk hk (blk_x BK208.out) NB208_0.out (by simp)); replace BK224 := Aside0.mk (KeepBut.blk hk (blk_x BK224.out) NB224_0.out (by simp)); replace HO233 := Aside0.mk (Kd.S_mono (Kd.S_keep (IsS79.apartS (show IsS79 w0 _ g x1000_2 from by exact IsS79.up HI0.out) (Kd.S_x HO233.out) (by decide)) hk (fun _ h => h.2)) (fun _ h => h.1)); replace HK := Aside0.mk (KeepBut.trans (by exact keep_y HK.out) hk (.inl rfl)); replace HB := Aside0.mk (hb); replace HI0 := Aside0.mk (hi); (try clear hb); (try clear hk); (try clear hi)) | ((with_reducible refine gate_builtin (b := .append) (xs := #[.tmp 65, .tmp 71]) rfl ?_); (try (refine gate_guard (by rfl) ?_; dsimp only)); at_builtin; refine Kd.R_append Kd.bool w.heap.size rfl (.tmp 65) (.tmp 71) 31 4 (.bool false) 1 rfl Try.underlying31 info4 rfl (by decide) (by omega) u9 x9_1 t234 [.bool t234] (fun _ => True) (fun _ => False) rfl rfl ?aP (fun _ hk => hk.elim) ?aF ?aO (Below.refl _ _) ?aS ?aL ?_; (case aP => exact rfl); (case aF => exact (fun _ _ => trivial)); (case aO => exact (Kd.R_x HO_9.out)); (case aS => exact (keep_size (w := w) (g := g) (row := none) (by exact keep_y HK.out))); (case aL => have := LMc53.out; omega); intro v237 w64 ho hb hg hat; rw [← Ny236.out] at ho; replace BK207 := Aside0.mk (blk_grown (blk_x BK207.out) hg (Kd.R_ne HO_9.out BK207.out (by decide))); replace BK208 := Aside0.mk (blk_grown (blk_x BK208.out) hg (Kd.R_ne HO_9.out BK208.out (by decide))); replace BK224 := Aside0.mk (blk_grown (blk_x BK224.out) hg (Kd.R_ne HO_9.out BK224.out (by decide))); replace HI0 := Aside0.mk (IsS79.grown (by exact IsS79.up HI0.out) hg (IsS79.own_ne HI0.out HO_9.out (by decide))); replace HO233 := Aside0.mk (Kd.S_over' (Kd.S_x HO233.out) (Kd.R_typed (Kd.R_x HO_9.out)) (by decide) hg); replace HB := Aside0.mk (below_weaken (by exact below_y HB.out) HL.out hb); replace HK := Aside0.mk (KeepBut.trans (by exact keep_y HK.out) (KeepBut.of_grown hg g) (Kd.R_base2 HO_9.out)); have HO238 := Aside0.mk (ho); clear HO_9; clear ho hb hg hat; obtain ⟨Ao65, co65, eo65⟩ := Kd.S_slice HO233.out; subst eo65; obtain ⟨_, _, _, _, _⟩ := cz5 BK208; have hfz66_0 := blk_frozen BK208.out))
          go_roundg k2
          case measure => have := HK1.out; have := HK2.out; omega
          case rel => exact ⟨(y236), (wrap64 (x10_1 - 1)), (t235), (y231), (.slice Ao65 y231.length co65), (by first | rfl | (simp; done) | (simp [*]; done)), H', ⟨by have := HK1.out; have := HK2.out; omega⟩, ⟨by (with_reducible repeat (first | apply Kd.R_alloc | apply Kd.R_drewN | apply Kd.R_drew)); exact Kd.R_mono (Kd.R_far (p := ⟨gb208, 0, none⟩) (Kd.R_types HO238.out BK208.out (by decide)) (fun _ hk => hk.2) (.slice Ao65 y231.length co65)) (fun _ hk => trivial)⟩, ⟨by (with_reducible repeat (first | apply Kd.S_alloc | apply Kd.S_drewN | apply Kd.S_drew)); exact Kd.S_mono (Kd.S_far (p := ⟨gb208, 0, none⟩) (Kd.S_types HO233.out BK208.out (by decide)) (fun _ hk => hk.2) (.slice Ao65 y231.length co65)) (fun _ hk => trivial)⟩, ⟨blk_w BK207.out⟩, ⟨by (with_reducible repeat (first | refine blk_drewN ?_ _ | refine blk_drew ?_ | refine blk_alloc ?_ _)); refine blk_put (cs := #[.slice Ao17 x209000_1.length co17, .int .i64 0, .slice none 0 0, .int .i64 0, .slice none 0 0]) ?_ 0 _ rfl; (with_reducible repeat (first | refine blk_drewN ?_ _ | refine blk_drew ?_ | refine blk_alloc ?_ _)); exact BK208.out⟩, ⟨by exact IsS79.up HI0.out⟩, ⟨by exact keep_y HK.out⟩, ⟨by exact below_y HB.out⟩⟩
         ·
          rw [if_neg c53] at H
          exact absurd H (by simp)
        ·
         replace c51 := Bool.eq_false_iff.mpr c51
         subst c51
         have H1 : (if x9_1.length < 140737488355328 then (swarfkit_CarOf.l0 k2 a2 (x9_1 ++ [false]) (wrap64 (x10_1 - 1)) x1000_2 y231 0 0) else (none)) = some (r1, r2, r3, r4, r5, r6, r7) := by rw [if_neg (show ¬ (false = true) by decide)] at H; exact H
         clear H
         have H := H1
         clear H1
         by_cases c67 : x9_1.length < 140737488355328
         ·
          rw [if_pos c67] at H
          have LMc67 := Aside0.mk c67
          clear c67
          obtain ⟨y239, hy239⟩ : ∃ y_ : List Bool, y_ = (x9_1 ++ [false]) := ⟨_, rfl⟩
          replace H : (swarfkit_CarOf.l0 k2 a2 y239 (wrap64 (x10_1 - 1)) x1000_2 y231 0 0) = some (r1, r2, r3, r4, r5, r6, r7) := by first | (rw [hy239]; with_reducible exact H) | (have H2_ := (Option.bind_some _ _).symm.trans H; rw [hy239]; with_reducible exact H2_) | (have H2_ := (Option.bind_some _ _).symm.trans H; with_reducible exact H2_) | with_reducible exact H | (rw [hy239]; exact H) | exact H
          have Ny239 := Aside0.mk hy239
          clear hy239
          have H' := Aside0.mk H
          clear H
          have hnb68 := NB208_207.out
          have hnc68 := NB207_208.out
          have hnb69 := NB208_224.out
          have hnc69 := NB224_208.out
          have hnb70 := NB208_0.out
          have hnc70 := NB0_208.out
          obtain ⟨_, _, _, _, _⟩ := cz5 BK208
          have hfz71_0 := blk_frozen BK208.out
          have hnb72 := NB224_207.out
          have hnc72 := NB207_224.out
          have hnb73 := NB224_0.out
          have hnc73 := NB0_224.out
          obtain ⟨_, _, _, _⟩ := cz4 BK224
          have hfz74_0 := blk_frozen BK224.out
          obtain ⟨Ao76, co76, eo76⟩ := Kd.R_slice HO_225000.out
          subst eo76
          go_wp2_with (first | ((with_reducible refine gate_builtin (b := .append) (xs := #[.tmp 61, .tmp 63]) rfl ?_); (try (refine gate_guard (by rfl) ?_; dsimp only)); at_builtin; refine Kd.S_append k50 w.heap.size rfl (.tmp 61) (.tmp 63) 22 50 (.agg #[(.slice none 0 0), (.bool false), (.int .i64 0), (.int .i64 0)]) 48 rfl Try.underlying22 info50 rfl (by decide) (by omega) (.slice Ao17 x209000_1.length co17) x209000_1 (⟨x225000_2, t211, t213, t222⟩ : S50) [.slice Ao76 x225000_2.length co76, .bool t211, .int .i64 t213, .int .i64 t222] (fun k_ => k_ ≠ gb224) (fun k_ => some k_ = (.slice Ao76 x225000_2.length co76 : Value).ownBlock) rfl rfl ?aP (fun k_ hk_ => ((Kd.R_mono (ok' := fun k_ => ((fun k_ => k_ ≠ gb224)) k_ ∧ some k_ ≠ (.slice Ao17 x209000_1.length co17 : Value).ownBlock) (Kd.R_types (Kd.R_apart' (HO_225000.out) (Kd.S_typed HO_209000.out) (by decide)) BK224.out (by decide)) (fun k_ hk => ⟨hk.2, hk.1.2⟩))).1 k_ hk_.symm) ?aF ?aO (Below.refl _ _) ?aS ?aL ?_; (case aP => exact k50_mkM _ _ _ (⟨x225000_2, t211, t213, t222⟩ : S50) (Kd.R_mono (Kd.R_tight rfl (Kd.R_mono (ok' := fun k_ => ((fun k_ => k_ ≠ gb224)) k_ ∧ some k_ ≠ (.slice Ao17 x209000_1.length co17 : Value).ownBlock) (Kd.R_types (Kd.R_apart' (HO_225000.out) (Kd.S_typed HO_209000.out) (by decide)) BK224.out (by decide)) (fun k_ hk => ⟨hk.2, hk.1.2⟩))) (fun _ h_ => h_))); (case aF => exact (fun k_ hk => Kd.freshB (g := gb224) (o := .cells #[.slice Ao76 x225000_2.length co76, .bool t211, .int .i64 t213, .int .i64 t222] 50 (0, 0)) (blk_x BK224.out) k_ hk)); (case aO => exact (by (with_reducible repeat (first | apply Kd.S_alloc | apply Kd.S_drewN | apply Kd.S_drew)); exact Kd.S_mono HO_209000.out (fun k_ hk => ⟨hk.2, fun e_ => hk.1 e_⟩))); (case aS => exact (keep_size (w := w) (g := g) (row := none) (by exact keep_y HK.out))); (case aL => have := LMc50.out; omega); intro v232 w75 ho hb hg hat; rw [← Ny231.out] at ho; replace HO_9 := Aside0.mk (Kd.R_over' (Kd.R_x HO_9.out) (Kd.S_typed (Kd.S_x HO_209000.out)) (by decide) hg); replace BK207 := Aside0.mk (blk_grown (blk_x BK207.out) hg (Kd.S_ne HO_209000.out BK207.out (by decide))); replace BK208 := Aside0.mk (blk_grown (blk_x BK208.out) hg (Kd.S_ne HO_209000.out BK208.out (by decide))); replace BK224 := Aside0.mk (blk_grown (blk_x BK224.out) hg (Kd.S_away HO_209000.out (fun _ hk => hk.2))); replace HI0 := Aside0.mk (IsS79.grown (by exact IsS79.up HI0.out) hg (IsS79.own_neS HI0.out HO_209000.out (by decide))); replace HB := Aside0.mk (below_weaken (by exact below_y HB.out) HL.out hb); replace HK := Aside0.mk (KeepBut.trans (by exact keep_y HK.out) (KeepBut.of_grown hg g) (Kd.S_base2 HO_209000.out)); have HO233 := Aside0.mk (ho); clear HO_209000 HO_225000; clear ho hb hg hat) | ((with_reducible refine gate_builtin (b := .append) (xs := #[.tmp 65, .tmp 71]) rfl ?_); (try (refine gate_guard (by rfl) ?_; dsimp only)); at_builtin; refine Kd.R_append Kd.bool w.heap.size rfl (.tmp 65) (.tmp 71) 31 4 (.bool false) 1 rfl Try.underlying31 info4 rfl (by decide) (by omega) u9 x9_1 false [.bool false] (fun _ => True) (fun _ => False) rfl rfl ?aP (fun _ hk => hk.elim) ?aF ?aO (Below.refl _ _) ?aS ?aL ?_; (case aP => exact rfl); (case aF => exact (fun _ _ => trivial)); (case aO => exact (Kd.R_x HO_9.out)); (case aS => exact (keep_size (w := w) (g := g) (row := none) (by exact keep_y HK.out))); (case aL => have := LMc67.out; omega); intro v240 w77 ho hb hg hat; rw [← Ny239.out] at ho; replace BK207 := Aside0.mk (blk_grown (blk_x BK207.out) hg (Kd.R_ne HO_9.out BK207.out (by decide))); replace BK208 := Aside0.mk (blk_grown (blk_x BK208.out) hg (Kd.R_ne HO_9.out BK208.out (by decide))); replace BK224 := Aside0.mk (blk_grown (blk_x BK224.out) hg (Kd.R_ne HO_9.out BK224.out (by decide))); replace HI0 := Aside0.mk (IsS79.grown (by exact IsS79.up HI0.out) hg (IsS79.own_ne HI0.out HO_9.out (by decide))); replace HO233 := Aside0.mk (Kd.S_over' (Kd.S_x HO233.out) (Kd.R_typed (Kd.R_x HO_9.out)) (by decide) hg); replace HB := Aside0.mk (below_weaken (by exact below_y HB.out) HL.out hb); replace HK := Aside0.mk (KeepBut.trans (by exact keep_y HK.out) (KeepBut.of_grown hg g) (Kd.R_base2 HO_9.out)); have HO241 := Aside0.mk (ho); clear HO_9; clear ho hb hg hat; obtain ⟨Ao78, co78, eo78⟩ := Kd.S_slice HO233.out; subst eo78; obtain ⟨_, _, _, _, _⟩ := cz5 BK208; have hfz79_0 := blk_frozen BK208.out))
          go_roundg k2
          case measure => have := HK1.out; have := HK2.out; omega
          case rel => exact ⟨(y239), (wrap64 (x10_1 - 1)), (x1000_2), (y231), (.slice Ao78 y231.length co78), (by first | rfl | (simp; done) | (simp [*]; done)), H', ⟨by have := HK1.out; have := HK2.out; omega⟩, ⟨by (with_reducible repeat (first | apply Kd.R_alloc | apply Kd.R_drewN | apply Kd.R_drew)); exact Kd.R_mono (Kd.R_far (p := ⟨gb208, 0, none⟩) (Kd.R_types HO241.out BK208.out (by decide)) (fun _ hk => hk.2) (.slice Ao78 y231.length co78)) (fun _ hk => trivial)⟩, ⟨by (with_reducible repeat (first | apply Kd.S_alloc | apply Kd.S_drewN | apply Kd.S_drew)); exact Kd.S_mono (Kd.S_far (p := ⟨gb208, 0, none⟩) (Kd.S_types HO233.out BK208.out (by decide)) (fun _ hk => hk.2) (.slice Ao78 y231.length co78)) (fun _ hk => trivial)⟩, ⟨blk_w BK207.out⟩, ⟨by (with_reducible repeat (first | refine blk_drewN ?_ _ | refine blk_drew ?_ | refine blk_alloc ?_ _)); refine blk_put (cs := #[.slice Ao17 x209000_1.length co17, .int .i64 0, .slice none 0 0, .int .i64 0, .slice none 0 0]) ?_ 0 _ rfl; (with_reducible repeat (first | refine blk_drewN ?_ _ | refine blk_drew ?_ | refine blk_alloc ?_ _)); exact BK208.out⟩, ⟨by exact IsS79.up HI0.out⟩, ⟨by exact keep_y HK.out⟩, ⟨by exact below_y HB.out⟩⟩
         ·
          rw [if_neg c67] at H
          exact absurd H (by simp)
       ·
        rw [if_neg c50] at H
        exact absurd H (by simp)
   ·
    rw [if_neg c8] at H
    have c8b0 : decide (0 < x10_1) = false := decide_eq_false c8
    clear c8
    replace H := Option.bind_eq_some_iff.mp H
    obtain ⟨⟨t242, t243⟩, A800, H⟩ := H
    try dsimp only at H
    have A80 := Aside0.mk A800
    clear A800
    obtain ⟨y244, hy244⟩ : ∃ y_ : List Int, y_ = (([0, t242] : List Int)) := ⟨_, rfl⟩
    replace H : ((swarfkit_Feed_Either.f t243 y244).bind fun bt247 => ((swarfkit_Feed_Below.f bt247.2 (wrap64 (a2 + 1))).bind fun bt249 => (swarfkit_CarOf.l2 k1 x9_1 bt249.1 bt249.2 x209000_1 bt247.1 ([] : List (S61)) 0))) = some (r1, r2, r3, r4, r5, r6, r7) := by first | (rw [hy244]; with_reducible exact H) | (have H2_ := (Option.bind_some _ _).symm.trans H; rw [hy244]; with_reducible exact H2_) | (have H2_ := (Option.bind_some _ _).symm.trans H; with_reducible exact H2_) | with_reducible exact H | (rw [hy244]; exact H) | exact H
    have Ny244 := Aside0.mk hy244
    clear hy244
    replace H := Option.bind_eq_some_iff.mp H
    obtain ⟨⟨t247, t248⟩, A810, H⟩ := H
    try dsimp only at H
    have A81 := Aside0.mk A810
    clear A810
    replace H := Option.bind_eq_some_iff.mp H
    obtain ⟨⟨t249, t250⟩, A820, H⟩ := H
    try dsimp only at H
    have A82 := Aside0.mk A820
    clear A820
    have H' := Aside0.mk H
    clear H
    go_wp2_with (first | ((with_reducible refine gate_callee (f := 25) rfl ?_); refine goesL_ (some 76) rfl rfl Try.func25 (by kernel_rfl) rfl #[.pointer (some ⟨g, 0, none⟩), .int .i64 9] rfl (by (try simp only [List.map_toArray, List.map_cons, List.map_nil]); first | done | rfl | (simp only [List.length_drop, List.length_take]; rfl)) ?_; (with_reducible refine (swarfkit_Feed_Below.calls g x1000_1 9 t242 t243 w0 _ ?side1 ?side2 A80.out).mono ?_); (case side1 => exact IsS79.up HI0.out); (case side2 => exact below_y HB.out); rintro e w83 ⟨rfl, hi, hb, hk⟩; refine ⟨_, rfl, ?_⟩; replace HO_9 := Aside0.mk (Kd.R_mono (Kd.R_keep (IsS79.apart (show IsS79 w0 _ g x1000_1 from by exact IsS79.up HI0.out) (Kd.R_x HO_9.out) (by decide)) hk (fun _ h => h.2)) (fun _ h => h.1)); replace HO_209000 := Aside0.mk (Kd.S_mono (Kd.S_keep (IsS79.apartS (show IsS79 w0 _ g x1000_1 from by exact IsS79.up HI0.out) (Kd.S_x HO_209000.out) (by decide)) hk (fun _ h => h.2)) (fun _ h => h.1)); replace BK207 := Aside0.mk (KeepBut.blk hk (blk_x BK207.out) NB207_0.out (by simp)); replace BK208 := Aside0.mk (KeepBut.blk hk (blk_x BK208.out) NB208_0.out (by simp)); replace HK := Aside0.mk (KeepBut.trans (by exact keep_y HK.out) hk (.inl rfl)); replace HB := Aside0.mk (hb); replace HI0 := Aside0.mk (hi); (try clear hb); (try clear hk); (try clear hi)) | ((with_reducible refine gate_dst (N := 77) rfl ?_); (try (refine gate_guard (by rfl) ?_; dsimp only)); refine Kd.R_lit (Kd.int .i64) _ 3 ?hg (N := 77) ?hd (xs := ([0, t242] : List Int)) (inner := [.int .i64 0, .int .i64 t242]) (ok := fun _ => True) (okp := fun _ => True) ?hr ?hp (fun _ hk => hk) trivial (Below.refl _ _) (Nat.le_refl _) (by simp) ?_; (case hd => rfl); (case hg => rfl); (case hr => first | (go_simp; done) | (go_simp; rfl)); (case hp => exact (Reps.one (show Kd.M (Kd.int .i64) _ _ _ 0 [.int .i64 0] from rfl) (Reps.one (show Kd.M (Kd.int .i64) _ _ _ t242 [.int .i64 t242] from rfl) (Reps.none _ _)))); intro v245 w84 ho85 hb hg_ hnew_; clear hg_ hnew_; (first | rw [← Ny244.out] at ho85 | (simp only [Int.reduceToNat] at ho85; rw [← Ny244.out] at ho85)); replace HO_9 := Aside0.mk (Kd.R_below (Kd.R_x HO_9.out) hb); replace HO_209000 := Aside0.mk (Kd.S_elder' (Kd.S_x HO_209000.out) (Kd.R_base ho85) hb); have HO246 := Aside0.mk (Kd.R_lower ho85 (keep_size (w := w) (g := g) (row := none) (by exact keep_y HK.out))); replace BK207 := Aside0.mk (blk_below (blk_x BK207.out) hb); replace BK208 := Aside0.mk (blk_below (blk_x BK208.out) hb); replace HI0 := Aside0.mk (IsS79.below (by exact IsS79.up HI0.out) hb); replace HK := Aside0.mk (KeepBut.trans (by exact keep_y HK.out) (KeepBut.of_below hb g none) (.inl rfl)); replace HB := bl_x HB hb; clear hb ho85; obtain ⟨Ao86, co86, eo86⟩ := Kd.R_slice HO246.out; subst eo86) | ((with_reducible refine gate_callee (f := 24) rfl ?_); refine goesL_ (some 78) rfl rfl Try.func24 (by kernel_rfl) rfl #[.pointer (some ⟨g, 0, none⟩), .slice Ao86 y244.length co86] rfl (by (try simp only [List.map_toArray, List.map_cons, List.map_nil]); first | done | rfl | (simp only [List.length_drop, List.length_take]; rfl)) ?_; (with_reducible refine (swarfkit_Feed_Either.calls g t243 _ _ y244 t247 t248 w0 _ ?side1 ?side2 ?side3 ?side4 ?side5 A81.out).mono ?_); (case side1 => exact IsS79.up HI0.out); (case side2 => exact below_y HB.out); (case side3 => exact Kd.C_y (Kd.R_reads' HO246.out).2.2); (case side4 => exact (Kd.R_reads' HO246.out).2.1); (case side5 => exact far_slice (IsS79.own_ne HI0.out HO246.out (by decide))); rintro e w87 ⟨rfl, hi, hb, hk⟩; refine ⟨_, rfl, ?_⟩; replace HO_9 := Aside0.mk (Kd.R_mono (Kd.R_keep (IsS79.apart (show IsS79 w0 _ g t243 from by exact IsS79.up HI0.out) (Kd.R_x HO_9.out) (by decide)) hk (fun _ h => h.2)) (fun _ h => h.1)); replace HO_209000 := Aside0.mk (Kd.S_mono (Kd.S_keep (IsS79.apartS (show IsS79 w0 _ g t243 from by exact IsS79.up HI0.out) (Kd.S_x HO_209000.out) (by decide)) hk (fun _ h => h.2)) (fun _ h => h.1)); replace BK207 := Aside0.mk (KeepBut.blk hk (blk_x BK207.out) NB207_0.out (by simp)); replace BK208 := Aside0.mk (KeepBut.blk hk (blk_x BK208.out) NB208_0.out (by simp)); replace HO246 := Aside0.mk (Kd.R_mono (Kd.R_keep (IsS79.apart (show IsS79 w0 _ g t243 from by exact IsS79.up HI0.out) (Kd.R_x HO246.out) (by decide)) hk (fun _ h => h.2)) (fun _ h => h.1)); replace HK := Aside0.mk (KeepBut.trans (by exact keep_y HK.out) hk (.inl rfl)); replace HB := Aside0.mk (hb); replace HI0 := Aside0.mk (hi); (try clear hb); (try clear hk); (try clear hi); have hnb88 := NB208_207.out; have hnc88 := NB207_208.out; have hnb89 := NB208_0.out; have hnc89 := NB0_208.out; obtain ⟨_, _, _, _, _⟩ := cz5 BK208; have hfz90_0 := blk_frozen BK208.out) | ((with_reducible refine gate_callee (f := 25) rfl ?_); refine goesL_ (some 83) rfl rfl Try.func25 (by kernel_rfl) rfl #[.pointer (some ⟨g, 0, none⟩), .int .i64 (wrap64 (a2 + 1))] rfl (by (try simp only [List.map_toArray, List.map_cons, List.map_nil]); first | done | rfl | (simp only [List.length_drop, List.length_take]; rfl)) ?_; (with_reducible refine (swarfkit_Feed_Below.calls g t248 (wrap64 (a2 + 1)) t249 t250 w0 _ ?side1 ?side2 A82.out).mono ?_); (case side1 => exact IsS79.up HI0.out); (case side2 => exact below_y HB.out); rintro e w91 ⟨rfl, hi, hb, hk⟩; refine ⟨_, rfl, ?_⟩; replace HO_9 := Aside0.mk (Kd.R_mono (Kd.R_keep (IsS79.apart (show IsS79 w0 _ g t248 from by exact IsS79.up HI0.out) (by (with_reducible repeat (first | apply Kd.R_alloc | apply Kd.R_drewN | apply Kd.R_drew)); exact (Kd.R_mono (Kd.R_far (p := ⟨gb208, 1, none⟩) (Kd.R_types HO_9.out BK208.out (by decide)) (fun _ hk => hk.2) (.int .i64 t247)) (fun _ h_ => h_.1))) (by decide)) hk (fun _ h => h.2)) (fun _ h => h.1)); replace HO_209000 := Aside0.mk (Kd.S_mono (Kd.S_keep (IsS79.apartS (show IsS79 w0 _ g t248 from by exact IsS79.up HI0.out) (by (with_reducible repeat (first | apply Kd.S_alloc | apply Kd.S_drewN | apply Kd.S_drew)); exact (Kd.S_mono (Kd.S_far (p := ⟨gb208, 1, none⟩) (Kd.S_types HO_209000.out BK208.out (by decide)) (fun _ hk => hk.2) (.int .i64 t247)) (fun _ h_ => h_.1))) (by decide)) hk (fun _ h => h.2)) (fun _ h => h.1)); replace BK207 := Aside0.mk (KeepBut.blk hk (g' := gb207) (o := .cells #[.slice none 0 0, .int .i64 0, .slice none 0 0, .int .i64 0, .slice none 0 0] 26 (0, 0)) (blk_w BK207.out) NB207_0.out (by simp)); replace HO246 := Aside0.mk (Kd.R_mono (Kd.R_keep (IsS79.apart (show IsS79 w0 _ g t248 from by exact IsS79.up HI0.out) (by (with_reducible repeat (first | apply Kd.R_alloc | apply Kd.R_drewN | apply Kd.R_drew)); exact (Kd.R_mono (Kd.R_far (p := ⟨gb208, 1, none⟩) (Kd.R_types HO246.out BK208.out (by decide)) (fun _ hk => hk.2) (.int .i64 t247)) (fun _ h_ => h_.1))) (by decide)) hk (fun _ h => h.2)) (fun _ h => h.1)); replace BK208 := Aside0.mk (KeepBut.blk hk (g' := gb208) (o := .cells #[u209000, .int .i64 t247, .slice none 0 0, .int .i64 0, .slice none 0 0] 26 (0, 0)) (by (with_reducible repeat (first | refine blk_drewN ?_ _ | refine blk_drew ?_ | refine blk_alloc ?_ _)); refine blk_put (cs := #[u209000, .int .i64 0, .slice none 0 0, .int .i64 0, .slice none 0 0]) ?_ 1 _ rfl; (with_reducible repeat (first | refine blk_drewN ?_ _ | refine blk_drew ?_ | refine blk_alloc ?_ _)); exact BK208.out) NB208_0.out (by simp)); replace HK := Aside0.mk (KeepBut.trans (by exact keep_y HK.out) hk (.inl rfl)); replace HB := Aside0.mk (hb); replace HI0 := Aside0.mk (hi); (try clear hb); (try clear hk); (try clear hi)))
    go_loopg [15] k1 (fun kq v15 w' => ∃ (x15_2 : Int) (x1000_2 : Int) (x209002_2 : List (S61)) (u209002 : Value), v15 = .int .i64 x15_2 ∧ Aside0 (swarfkit_CarOf.l2 kq x9_1 x15_2 x1000_2 x209000_1 t247 x209002_2 0 = some (r1, r2, r3, r4, r5, r6, r7)) ∧ Aside0 (kq ≤ k1) ∧ Aside0 (Kd.R Kd.bool 4 w' w.heap.size (fun _ => True) u9 x9_1) ∧ Aside0 (Kd.S k50 50 w' w.heap.size (fun _ => True) u209000 x209000_1) ∧ Aside0 (Kd.R k61 61 w' w.heap.size (fun _ => True) u209002 x209002_2) ∧ Aside0 (w'.heap[gb207]? = some (.cells #[(.slice none 0 0), .int .i64 0, (.slice none 0 0), .int .i64 0, (.slice none 0 0)] 26 (0, 0))) ∧ Aside0 (w'.heap[gb208]? = some (.cells #[u209000, .int .i64 t247, u209002, .int .i64 0, (.slice none 0 0)] 26 (0, 0))) ∧ Aside0 (IsS79 w0 w' g x1000_2) ∧ Aside0 (KeepBut w w' g none) ∧ Aside0 (Below w0.heap.size w0 w'))
    case atStart => exact ⟨(t249), (t250), (([] : List (S61))), (.slice none 0 0), (by first | rfl | (simp; done) | (simp [*]; done)), H', ⟨Nat.le_refl _⟩, ⟨by (with_reducible repeat (first | apply Kd.R_alloc | apply Kd.R_drewN | apply Kd.R_drew)); exact HO_9.out⟩, ⟨by (with_reducible repeat (first | apply Kd.S_alloc | apply Kd.S_drewN | apply Kd.S_drew)); exact Kd.S_mono HO_209000.out (fun _ hk => trivial)⟩, ⟨by first | exact Kd.R_nil _ _ _ _ _ | exact Kd.N_nil _ _ _ _ _ | exact Kd.V_nil _ _ _ _ _ | exact Kd.Q_nil _ _ _ _ _ | exact Kd.S_nil _ _ _ _ _⟩, ⟨blk_x BK207.out⟩, ⟨blk_x BK208.out⟩, ⟨by exact IsS79.up HI0.out⟩, ⟨by exact keep_y HK.out⟩, ⟨by exact below_y HB.out⟩⟩
    case round =>
     clear H'
     obtain ⟨x15_2, x1000_2, x209002_2, u209002, rfl, HA, HK2, HO_9, HO_209000, HO_209002, BK207, BK208, HI0, HK, HB⟩ := hrel
     cases gk with
     | zero => exact absurd HA.out (by simp [swarfkit_CarOf.l2])
     | succ k2 =>
      have H := HA.out
      clear HA
      simp only [swarfkit_CarOf.l2] at H
      by_cases c92 : x15_2 > 0
      ·
       rw [if_pos c92] at H
       have c92b0 : decide (0 < x15_2) = true := decide_eq_true c92
       clear c92
       replace H := Option.bind_eq_some_iff.mp H
       obtain ⟨⟨t251, t252⟩, A930, H⟩ := H
       try dsimp only at H
       have A93 := Aside0.mk A930
       clear A930
       by_cases c94 : 0 ≤ t251
       ·
        rw [if_pos c94] at H
        have c94b0 : decide (0 ≤ t251) = true := decide_eq_true c94
        clear c94
        by_cases c95 : t251 < (x9_1.length : Int)
        ·
         rw [if_pos c95] at H
         have c95b0 : decide (t251 < (x9_1.length : Int)) = true := decide_eq_true c95
         clear c95
         replace H := Option.bind_eq_some_iff.mp H
         obtain ⟨⟨t254, t255⟩, A960, H⟩ := H
         try dsimp only at H
         have A96 := Aside0.mk A960
         clear A960
         by_cases c97 : x209002_2.length < 8796093022208
         ·
          rw [if_pos c97] at H
          have LMc97 := Aside0.mk c97
          clear c97
          obtain ⟨y256, hy256⟩ : ∃ y_ : List (S61), y_ = (x209002_2 ++ [(⟨t251, ((rdOf false x9_1 t251) != t254)⟩ : S61)]) := ⟨_, rfl⟩
          replace H : (swarfkit_CarOf.l2 k2 x9_1 (wrap64 (x15_2 - 1)) t255 x209000_1 t247 y256 0) = some (r1, r2, r3, r4, r5, r6, r7) := by first | (rw [hy256]; with_reducible exact H) | (have H2_ := (Option.bind_some _ _).symm.trans H; rw [hy256]; with_reducible exact H2_) | (have H2_ := (Option.bind_some _ _).symm.trans H; with_reducible exact H2_) | with_reducible exact H | (rw [hy256]; exact H) | exact H
          have Ny256 := Aside0.mk hy256
          clear hy256
          have H' := Aside0.mk H
          clear H
          have hnb98 := NB208_207.out
          have hnc98 := NB207_208.out
          have hnb99 := NB208_0.out
          have hnc99 := NB0_208.out
          obtain ⟨_, _, _, _, _⟩ := cz5 BK208
          have hfz100_0 := blk_frozen BK208.out
          obtain ⟨Ao101, co101, eo101⟩ := Kd.S_slice HO_209000.out
          subst eo101
          try go_wp2_with (first | ((with_reducible refine gate_callee (f := 25) rfl ?_); refine goesL_ (some 92) rfl rfl Try.func25 (by kernel_rfl) rfl #[.pointer (some ⟨g, 0, none⟩), .int .i64 (x209000_1.length : Int)] rfl (by (try simp only [List.map_toArray, List.map_cons, List.map_nil]); first | done | rfl | (simp only [List.length_drop, List.length_take]; rfl)) ?_; (with_reducible refine (swarfkit_Feed_Below.calls g x1000_2 (x209000_1.length : Int) t251 t252 w0 _ ?side1 ?side2 A93.out).mono ?_); (case side1 => exact IsS79.up HI0.out); (case side2 => exact below_y HB.out); rintro e w102 ⟨rfl, hi, hb, hk⟩; refine ⟨_, rfl, ?_⟩; replace HO_9 := Aside0.mk (Kd.R_mono (Kd.R_keep (IsS79.apart (show IsS79 w0 _ g x1000_2 from by exact IsS79.up HI0.out) (Kd.R_x HO_9.out) (by decide)) hk (fun _ h => h.2)) (fun _ h => h.1)); replace HO_209000 := Aside0.mk (Kd.S_mono (Kd.S_keep (IsS79.apartS (show IsS79 w0 _ g x1000_2 from by exact IsS79.up HI0.out) (Kd.S_x HO_209000.out) (by decide)) hk (fun _ h => h.2)) (fun _ h => h.1)); replace HO_209002 := Aside0.mk (Kd.R_mono (Kd.R_keep (IsS79.apart (show IsS79 w0 _ g x1000_2 from by exact IsS79.up HI0.out) (Kd.R_x HO_209002.out) (by decide)) hk (fun _ h => h.2)) (fun _ h => h.1)); replace BK207 := Aside0.mk (KeepBut.blk hk (blk_x BK207.out) NB207_0.out (by simp)); replace BK208 := Aside0.mk (KeepBut.blk hk (blk_x BK208.out) NB208_0.out (by simp)); replace HK := Aside0.mk (KeepBut.trans (by exact keep_y HK.out) hk (.inl rfl)); replace HB := Aside0.mk (hb); replace HI0 := Aside0.mk (hi); (try clear hb); (try clear hk); (try clear hi)))
          replace HO_9 := Aside0.mk (Kd.R_drew HO_9.out)
          replace HO_209000 := Aside0.mk (Kd.S_drew HO_209000.out)
          replace HO_209002 := Aside0.mk (Kd.R_drew HO_209002.out)
          replace BK207 := Aside0.mk (blk_drew BK207.out)
          replace BK208 := Aside0.mk (blk_drew BK208.out)
          replace HI0 := Aside0.mk (IsS79.drew HI0.out)
          replace HK := Aside0.mk (keep_drew HK.out)
          replace HB := Aside0.mk (below_drew1 HB.out)
          obtain ⟨Ao104, co104, eo104⟩ := Kd.R_slice HO_9.out
          (first | subst eo104 | (injection eo104 with f1_ f2_ f3_; have f4_ := f1_.symm; have f5_ := f3_.symm; clear f1_ f2_ f3_; subst f4_; subst f5_))
          have p253 : 0 ≤ (t251 : Int) := of_x
          have q253 : t251 < (x9_1.length : Int) := of_x
          obtain ⟨ad253, e253, hx253_0⟩ := Kd.at_bool (Kd.R_reads' HO_9.out).2.2 t251 p253 q253
          cases e253
          replace p253 := eq_true p253
          replace q253 := eq_true q253
          refine start_ (n := 15) (S := fun w' => w'.cell? ⟨gb208, 0, none⟩ = some (.slice Ao101 x209000_1.length co101) ∧ w'.cell? ⟨gb208, 1, none⟩ = some (.int .i64 t247) ∧ w'.cell? ⟨gb208, 2, none⟩ = some (u209002) ∧ w'.cell? ⟨gb208, 3, none⟩ = some (.int .i64 0) ∧ w'.cell? ⟨gb208, 4, none⟩ = some (.slice none 0 0) ∧ w'.cell? (ad253.add (t251).toNat) = some (.bool (rdOf false x9_1 t251))) (ds := [14]) #[false, false, false, false, false, false, false, false, false, false, false, false, false, false, false] (by kernel_rfl) rfl rfl ⟨(blk_cell BK208.out 0).trans rfl, (blk_cell BK208.out 1).trans rfl, (blk_cell BK208.out 2).trans rfl, (blk_cell BK208.out 3).trans rfl, (blk_cell BK208.out 4).trans rfl, hx253_0⟩ (fun hHeld => ?_); refine with_tabW swarfkit_CarOf.tab20 swarfkit_CarOf.bits20 (fun HT_ HW_ => ?_)
          generalize w102.drew = w103 at HO_9 HO_209000 HO_209002 BK207 BK208 HI0 HK HB hx253_0 hHeld ⊢
          refine pure_ (i := 0) (N := some 93) (v := ?_) (a' := ?_) (bz 15 1) rfl rfl (any_of HT_.out (by kernel_rfl)) (fun _ _ _ h => h) (Or.inl ⟨by rfl, ?_⟩) ?_ ?_
          rotate_left
          ·
           intro w'
           go_simp
           with_reducible rfl
          rotate_left
          ·
           simp only [Act.put, put_x, i64_w, i32_w]
           rfl
          refine pure_ (i := 2) (N := some 95) (v := ?_) (a' := ?_) (bz 15 5) rfl rfl (any_of HT_.out (by kernel_rfl)) (fun _ _ _ h => h) (Or.inl ⟨by rfl, ?_⟩) ?_ ?_
          rotate_left
          ·
           intro w'
           go_simp
           with_reducible rfl
          rotate_left
          ·
           simp only [Act.put, put_x, i64_w, i32_w]
           rfl
          refine pure_ (i := 3) (N := some 96) (v := ?_) (a' := ?_) (bz 15 13) rfl rfl (any_of HT_.out (by kernel_rfl)) (fun _ _ _ h => h) (Or.inl ⟨by rfl, ?_⟩) ?_ ?_
          rotate_left
          ·
           intro w'
           go_simp
           with_reducible rfl
          rotate_left
          ·
           simp only [Act.put, put_x, i64_w, i32_w]
           rfl
          refine pure_ (i := 4) (N := some 97) (v := ?_) (a' := ?_) (bz 15 29) rfl rfl (any_of HT_.out (by kernel_rfl)) (fun _ _ _ h => h) (Or.inl ⟨by rfl, ?_⟩) ?_ ?_
          rotate_left
          ·
           intro w'
           go_simp
           with_reducible rfl
          rotate_left
          ·
           simp only [Act.put, put_x, i64_w, i32_w]
           rfl
          refine pure_ (i := 5) (N := some 98) (v := ?_) (a' := ?_) (bz 15 61) rfl rfl (any_of HT_.out (by kernel_rfl)) (fun _ _ _ h => h) (Or.inl ⟨by rfl, ?_⟩) ?_ ?_
          rotate_left
          ·
           intro w'
           go_simp
           with_reducible rfl
          rotate_left
          ·
           simp only [Act.put, put_x, i64_w, i32_w]
           rfl
          refine pure_ (i := 7) (N := some 100) (v := ?_) (a' := ?_) (bz 15 189) rfl rfl (any_of HT_.out (by kernel_rfl)) (fun _ _ _ h => h) (Or.inl ⟨by rfl, ?_⟩) ?_ ?_
          rotate_left
          ·
           intro w'
           go_simp
           with_reducible rfl
          rotate_left
          ·
           simp only [Act.put, put_x, i64_w, i32_w]
           rfl
          refine take_ (i := 1) (N := some 94) (v := ?_) (a' := ?_) (bz 15 191) rfl rfl (take_ofW HT_.out HW_.out (by kernel_rfl)) (fun _ _ _ h => h) (Or.inl ⟨by rfl, ?_⟩) hHeld ?_ ?_
          rotate_left
          ·
           rintro w' ⟨s0, s1, s2, s3, s4, s5⟩
           go_simp
           with_reducible rfl
          rotate_left
          ·
           simp only [Act.put, put_x, i64_w, i32_w]
           rfl
          refine take_ (i := 6) (N := some 99) (v := ?_) (a' := ?_) (bz 15 255) rfl rfl (take_ofW HT_.out HW_.out (by kernel_rfl)) (fun _ _ _ h => h) (Or.inl ⟨by rfl, ?_⟩) hHeld ?_ ?_
          rotate_left
          ·
           rintro w' ⟨s0, s1, s2, s3, s4, s5⟩
           go_simp
           with_reducible rfl
          rotate_left
          ·
           simp only [Act.put, put_x, i64_w, i32_w]
           rfl
          refine one_ (i := 8) (N := some 101) (bz 15 511) rfl rfl (one_of HT_.out (by kernel_rfl)) (by decide) (fun K hK => ?_)
          refine goes_ Try.func35 (by kernel_rfl) rfl #[.pointer (some ⟨g, 0, none⟩), .int .i64 1, .int .i64 6] (by rfl) rfl rfl (by (try simp only [List.map_toArray, List.map_cons, List.map_nil]); first | done | rfl | (simp only [List.length_drop, List.length_take]; rfl)) ?_
          with_reducible refine (swarfkit_Feed_Often.calls g t252 1 6 t254 t255 w0 _ ?side1 ?side2 A96.out).mono ?_
          (case side1 => exact IsS79.up HI0.out)
          (case side2 => exact below_y HB.out)
          rintro e w105 ⟨rfl, hi, hb, hk⟩
          have HS5_ := keep_cell hk (hHeld.2.2.2.2.2) (by first | (rw [add_block]; exact Kd.own_blk (IsS79.own_ne HI0.out HO_9.out (by decide))) | (show (Addr.add _ _).block ≠ _; rw [add_block]; exact Kd.own_blk (IsS79.own_ne HI0.out HO_9.out (by decide))) | exact Kd.own_blk (IsS79.own_ne HI0.out HO_9.out (by decide)))
          refine ⟨_, rfl, ?_⟩
          replace HO_9 := Aside0.mk (Kd.R_mono (Kd.R_keep (IsS79.apart (show IsS79 w0 _ g t252 from by exact IsS79.up HI0.out) (Kd.R_x HO_9.out) (by decide)) hk (fun _ h => h.2)) (fun _ h => h.1))
          replace HO_209000 := Aside0.mk (Kd.S_mono (Kd.S_keep (IsS79.apartS (show IsS79 w0 _ g t252 from by exact IsS79.up HI0.out) (Kd.S_x HO_209000.out) (by decide)) hk (fun _ h => h.2)) (fun _ h => h.1))
          replace HO_209002 := Aside0.mk (Kd.R_mono (Kd.R_keep (IsS79.apart (show IsS79 w0 _ g t252 from by exact IsS79.up HI0.out) (Kd.R_x HO_209002.out) (by decide)) hk (fun _ h => h.2)) (fun _ h => h.1))
          replace BK207 := Aside0.mk (KeepBut.blk hk (blk_x BK207.out) NB207_0.out (by simp))
          replace BK208 := Aside0.mk (KeepBut.blk hk (blk_x BK208.out) NB208_0.out (by simp))
          replace HK := Aside0.mk (KeepBut.trans (by exact keep_y HK.out) hk (.inl rfl))
          replace HB := Aside0.mk (hb)
          replace HI0 := Aside0.mk (hi)
          (try clear hb)
          (try clear hb2)
          (try clear hk)
          (try clear hi)
          refine hK.out _ _ ⟨(blk_cell BK208.out 0).trans rfl, (blk_cell BK208.out 1).trans rfl, (blk_cell BK208.out 2).trans rfl, (blk_cell BK208.out 3).trans rfl, (blk_cell BK208.out 4).trans rfl, HS5_⟩ (fun hHeld => ?_)
          clear hK K
          refine norm_ (a' := ?_) ?_ ?_
          rotate_left
          ·
           show Act.put _ (some 101) _ = _
           simp only [Act.put, put_x, i64_w, i32_w]
           rfl
          refine pure_ (i := 9) (N := some 102) (v := ?_) (a' := ?_) (bz 15 1023) rfl rfl (any_of HT_.out (by kernel_rfl)) (fun _ _ _ h => h) (Or.inl ⟨by rfl, ?_⟩) ?_ ?_
          rotate_left
          ·
           intro w'
           go_simp
           with_reducible rfl
          rotate_left
          ·
           simp only [Act.put, put_x, i64_w, i32_w]
           rfl
          refine pure_ (i := 10) (N := some 103) (v := ?_) (a' := ?_) (bz 15 2047) rfl rfl (any_of HT_.out (by kernel_rfl)) (fun _ _ _ h => h) (Or.inl ⟨by rfl, ?_⟩) ?_ ?_
          rotate_left
          ·
           intro w'
           go_simp
           with_reducible rfl
          rotate_left
          ·
           simp only [Act.put, put_x, i64_w, i32_w]
           rfl
          refine one_ (i := 11) (N := some 104) (bz 15 4095) rfl rfl (one_of HT_.out (by kernel_rfl)) (by decide) (fun K hK => ?_)
          refine value_ (w1 := ?_) (v := ?_) (by rfl) rfl ?_ ?_
          rotate_left 2
          ·
           go_simp
           constructor
           ·
            rfl
           ·
            rfl
          refine hK.out _ _ ⟨(blk_cell (blk_alloc BK208.out _) 0).trans rfl, (blk_cell (blk_alloc BK208.out _) 1).trans rfl, (blk_cell (blk_alloc BK208.out _) 2).trans rfl, (blk_cell (blk_alloc BK208.out _) 3).trans rfl, (blk_cell (blk_alloc BK208.out _) 4).trans rfl, (World.cell?_alloc_lt _ _ _ (World.block_lt_of_cell? _ _ (hHeld.2.2.2.2.2))).trans (hHeld.2.2.2.2.2)⟩ (fun hHeld => ?_)
          clear hK K
          refine norm_ (a' := ?_) ?_ ?_
          rotate_left
          ·
           show Act.put _ (some 104) _ = _
           simp only [Act.put, put_x, i64_w, i32_w]
           rfl
          refine one_ (i := 12) (N := some 105) (bz 15 8191) rfl rfl (one_of HT_.out (by kernel_rfl)) (by decide) (fun K hK => ?_)
          refine Kd.R_append_step k61 w.heap.size (by rfl) (.tmp 94) (.tmp 104) 23 61 (.agg #[(.int .i64 0), (.bool false)]) 16 rfl Try.underlying23 info61 rfl (by decide) (by omega) u209002 x209002_2 (⟨t251, ((rdOf false x9_1 t251) != t254)⟩ : S61) [.int .i64 t251, .bool ((rdOf false x9_1 t251) != t254)] (fun _ => True) (fun _ => False) rfl rfl ?aP (fun _ hk => hk.elim) ?aF ?aO (Below.refl _ _) ?aS ?aL ?_
          (case aP => exact k61_mkM _ _ _ (⟨t251, ((rdOf false x9_1 t251) != t254)⟩ : S61))
          (case aF => exact (fun _ _ => trivial))
          (case aO => exact (Kd.R_x HO_209002.out))
          (case aS => exact (keep_size (w := w) (g := g) (row := none) (by exact keep_y HK.out)))
          (case aL => have := LMc97.out; omega)
          intro v257 w106 ho hb hg hat
          (first | have HS5_ := cell_grown hg (hHeld.2.2.2.2.2) (by first | exact (by obtain ⟨_, hz_⟩ := Kd.R_typed HO_9.out _ rfl; exact Kd.R_ne HO_209002.out hz_ (by decide)) | (rw [add_block]; exact (by obtain ⟨_, hz_⟩ := Kd.R_typed HO_9.out _ rfl; exact Kd.R_ne HO_209002.out hz_ (by decide))) | (show some (Addr.add _ _).block ≠ _; rw [add_block]; exact (by obtain ⟨_, hz_⟩ := Kd.R_typed HO_9.out _ rfl; exact Kd.R_ne HO_209002.out hz_ (by decide)))) | have HS5_ := cell_grown hg (cell_unalloc (hHeld.2.2.2.2.2) (by first | exact (by obtain ⟨_, hz_⟩ := Kd.R_typed HO_9.out _ rfl; exact blk_lt hz_) | (rw [add_block]; exact (by obtain ⟨_, hz_⟩ := Kd.R_typed HO_9.out _ rfl; exact blk_lt hz_)) | (show (Addr.add _ _).block < _; rw [add_block]; exact (by obtain ⟨_, hz_⟩ := Kd.R_typed HO_9.out _ rfl; exact blk_lt hz_)))) (by first | exact (by obtain ⟨_, hz_⟩ := Kd.R_typed HO_9.out _ rfl; exact Kd.R_ne HO_209002.out hz_ (by decide)) | (rw [add_block]; exact (by obtain ⟨_, hz_⟩ := Kd.R_typed HO_9.out _ rfl; exact Kd.R_ne HO_209002.out hz_ (by decide))) | (show some (Addr.add _ _).block ≠ _; rw [add_block]; exact (by obtain ⟨_, hz_⟩ := Kd.R_typed HO_9.out _ rfl; exact Kd.R_ne HO_209002.out hz_ (by decide)))))
          rw [← Ny256.out] at ho
          replace HO_9 := Aside0.mk (Kd.R_over' (Kd.R_x HO_9.out) (Kd.R_typed (Kd.R_x HO_209002.out)) (by decide) hg)
          replace HO_209000 := Aside0.mk (Kd.S_over' (Kd.S_x HO_209000.out) (Kd.R_typed (Kd.R_x HO_209002.out)) (by decide) hg)
          replace BK207 := Aside0.mk (blk_grown (blk_x BK207.out) hg (Kd.R_ne HO_209002.out BK207.out (by decide)))
          replace BK208 := Aside0.mk (blk_grown (blk_x BK208.out) hg (Kd.R_ne HO_209002.out BK208.out (by decide)))
          replace HI0 := Aside0.mk (IsS79.grown (by exact IsS79.up HI0.out) hg (IsS79.own_ne HI0.out HO_209002.out (by decide)))
          replace HB := Aside0.mk (below_weaken (by exact below_y HB.out) HL.out hb)
          replace HK := Aside0.mk (KeepBut.trans (by exact keep_y HK.out) (KeepBut.of_grown hg g) (Kd.R_base2 HO_209002.out))
          have HO258 := Aside0.mk (ho)
          clear HO_209002 ho hb hg hat
          obtain ⟨Ao107, co107, eo107⟩ := Kd.R_slice HO258.out
          (first | subst eo107 | (injection eo107 with f1_ f2_ f3_; have f4_ := f1_.symm; have f5_ := f3_.symm; clear f1_ f2_ f3_; subst f4_; subst f5_))
          refine hK.out _ _ ⟨(blk_cell BK208.out 0).trans rfl, (blk_cell BK208.out 1).trans rfl, (blk_cell BK208.out 2).trans rfl, (blk_cell BK208.out 3).trans rfl, (blk_cell BK208.out 4).trans rfl, HS5_⟩ (fun hHeld => ?_)
          clear hK K
          refine norm_ (a' := ?_) ?_ ?_
          rotate_left
          ·
           show Act.put _ (some 105) _ = _
           simp only [Act.put, put_x, i64_w, i32_w]
           rfl
          refine pure_ (i := 13) (N := some 106) (v := ?_) (a' := ?_) (bz 15 16383) rfl rfl (any_of HT_.out (by kernel_rfl)) (fun _ _ _ h => h) (Or.inl ⟨by rfl, ?_⟩) ?_ ?_
          rotate_left
          ·
           intro w'
           go_simp
           with_reducible rfl
          rotate_left
          ·
           simp only [Act.put, put_x, i64_w, i32_w]
           rfl
          refine last_ (i := 14) (N := none) (bz 15 32767) rfl rfl (one_of HT_.out (by kernel_rfl)) (by decide) (fun K hK => ?_)
          have hs108 : w106.cell? ⟨gb208, 2, none⟩ = some (u209002) := (blk_cell BK208.out 2).trans rfl
          have hfs108 := blk_frozen BK208.out 2
          have hns108_0 := NB207_208.out
          have hms108_0 := NB208_207.out
          refine skip_ (w1 := ?_) (by rfl) rfl ?_ ?_
          rotate_left
          ·
           go_simp
           rfl
          refine hK.out _ _ ?_
          clear hK K
          refine done_ (done_of HT_.out (by kernel_rfl)) ?_
          try go_wp2
          go_roundg k2
          case measure => have := HK1.out; have := HK2.out; omega
          case rel => exact ⟨(wrap64 (x15_2 - 1)), (t255), (y256), (.slice Ao107 y256.length co107), (by first | rfl | (simp; done) | (simp [*]; done)), H', ⟨by have := HK1.out; have := HK2.out; omega⟩, ⟨by (with_reducible repeat (first | apply Kd.R_alloc | apply Kd.R_drewN | apply Kd.R_drew)); exact Kd.R_mono (Kd.R_far (p := ⟨gb208, 2, none⟩) (Kd.R_types HO_9.out BK208.out (by decide)) (fun _ hk => hk.2) (.slice Ao107 y256.length co107)) (fun _ hk => trivial)⟩, ⟨by (with_reducible repeat (first | apply Kd.S_alloc | apply Kd.S_drewN | apply Kd.S_drew)); exact Kd.S_mono (Kd.S_far (p := ⟨gb208, 2, none⟩) (Kd.S_types HO_209000.out BK208.out (by decide)) (fun _ hk => hk.2) (.slice Ao107 y256.length co107)) (fun _ hk => trivial)⟩, ⟨by (with_reducible repeat (first | apply Kd.R_alloc | apply Kd.R_drewN | apply Kd.R_drew)); exact Kd.R_mono (Kd.R_far (p := ⟨gb208, 2, none⟩) (Kd.R_types HO258.out BK208.out (by decide)) (fun _ hk => hk.2) (.slice Ao107 y256.length co107)) (fun _ hk => trivial)⟩, ⟨blk_w BK207.out⟩, ⟨by (with_reducible repeat (first | refine blk_drewN ?_ _ | refine blk_drew ?_ | refine blk_alloc ?_ _)); refine blk_put (cs := #[.slice Ao101 x209000_1.length co101, .int .i64 t247, u209002, .int .i64 0, .slice none 0 0]) ?_ 2 _ rfl; (with_reducible repeat (first | refine blk_drewN ?_ _ | refine blk_drew ?_ | refine blk_alloc ?_ _)); exact BK208.out⟩, ⟨by exact IsS79.up HI0.out⟩, ⟨by exact keep_y HK.out⟩, ⟨by exact below_y HB.out⟩⟩
         ·
          rw [if_neg c97] at H
          exact absurd H (by simp)
        ·
         rw [if_neg c95] at H
         exact absurd H (by simp)
       ·
        rw [if_neg c94] at H
        exact absurd H (by simp)
      ·
       rw [if_neg c92] at H
       have c92b0 : decide (0 < x15_2) = false := decide_eq_false c92
       clear c92
       replace H := Option.bind_eq_some_iff.mp H
       obtain ⟨t259, A1090, H⟩ := H
       try dsimp only at H
       have A109 := Aside0.mk A1090
       clear A1090
       obtain ⟨y260, hy260⟩ : ∃ y_ : List Int, y_ = (([0, 0, 1] : List Int)) := ⟨_, rfl⟩
       replace H : ((swarfkit_Feed_Either.f x1000_2 y260).bind fun bt263 => (swarfkit_CarOf.l3 k2 x9_1 0 bt263.2 x209000_1 t247 x209002_2 (mn 12 (wrap64 (t259 + bt263.1))) ([] : List Int))) = some (r1, r2, r3, r4, r5, r6, r7) := by first | (rw [hy260]; with_reducible exact H) | (have H2_ := (Option.bind_some _ _).symm.trans H; rw [hy260]; with_reducible exact H2_) | (have H2_ := (Option.bind_some _ _).symm.trans H; with_reducible exact H2_) | with_reducible exact H | (rw [hy260]; exact H) | exact H
       have Ny260 := Aside0.mk hy260
       clear hy260
       replace H := Option.bind_eq_some_iff.mp H
       obtain ⟨⟨t263, t264⟩, A1100, H⟩ := H
       try dsimp only at H
       have A110 := Aside0.mk A1100
       clear A1100
       obtain ⟨ji111, hji111⟩ : ∃ j_ : Int, (mn 12 (wrap64 (t259 + t263))) = j_ := ⟨_, rfl⟩
       replace H : (swarfkit_CarOf.l3 k2 x9_1 0 t264 x209000_1 t247 x209002_2 ji111 ([] : List Int)) = some (r1, r2, r3, r4, r5, r6, r7) := by first | (rw [hji111] at H; exact H) | (simp only [hji111] at H ⊢; exact H)
       (try rw [hji111] at A109)
       (try rw [hji111] at A110)
       (try (have hji111h : ji111 ≤ 12 := by (rw [← hji111]; unfold mn; (repeat' split) <;> omega)))
       (try (have hji111g : ji111 ≤ 64 := by omega))
       have hji111_ : (if (wrap64 (t259 + t263)) < 12 then (wrap64 (t259 + t263)) else 12) = ji111 := hji111
       have H' := Aside0.mk H
       clear H
       have hnb112 := NB208_207.out
       have hnc112 := NB207_208.out
       have hnb113 := NB208_0.out
       have hnc113 := NB0_208.out
       obtain ⟨_, _, _, _, _⟩ := cz5 BK208
       have hfz114_0 := blk_frozen BK208.out
       obtain ⟨Ao115, co115, eo115⟩ := Kd.S_slice HO_209000.out
       subst eo115
       obtain ⟨Ao116, co116, eo116⟩ := Kd.R_slice HO_209002.out
       subst eo116
       obtain ⟨Ao117, co117, eo117⟩ := Kd.R_slice HO_9.out
       subst eo117
       go_wp2_with (first | ((with_reducible refine gate_callee (f := 28) rfl ?_); refine goesL_ (some 109) rfl rfl Try.func28 (by kernel_rfl) rfl #[.agg #[.slice Ao115 x209000_1.length co115, .int .i64 t247, .slice Ao116 x209002_2.length co116, .int .i64 0, .slice none 0 0], .slice Ao117 x9_1.length co117] rfl (by (try simp only [List.map_toArray, List.map_cons, List.map_nil]); first | done | rfl | (simp only [List.length_drop, List.length_take]; rfl)) ?_; (refine (swarfref04_Wrongs.calls k2 _ _ x209000_1 t247 _ _ x209002_2 0 _ _ ([] : List Int) _ _ x9_1 t259 _ ?side1 ?side2 ?side3 ?side4 ?side5 ?side6 ?side7 ?side8 A109.out).mono ?_); (case side1 => exact Kd.C_y (Kd.S_reads' HO_209000.out).2.2); (case side2 => exact (Kd.S_reads' HO_209000.out).2.1); (case side3 => exact Kd.C_y (Kd.R_reads' HO_209002.out).2.2); (case side4 => exact (Kd.R_reads' HO_209002.out).2.1); (case side5 => exact Kd.C_nil _ _); (case side6 => exact Nat.le_refl _); (case side7 => exact Kd.C_y (Kd.R_reads' HO_9.out).2.2); (case side8 => exact (Kd.R_reads' HO_9.out).2.1); rintro e w118 ⟨rfl, hb⟩; refine ⟨_, rfl, ?_⟩; replace HO_9 := Aside0.mk (Kd.R_below (Kd.R_x HO_9.out) hb); replace HO_209000 := Aside0.mk (Kd.S_below (Kd.S_x HO_209000.out) hb); replace HO_209002 := Aside0.mk (Kd.R_below (Kd.R_x HO_209002.out) hb); replace BK207 := Aside0.mk (blk_below (blk_x BK207.out) hb); replace BK208 := Aside0.mk (blk_below (blk_x BK208.out) hb); replace HI0 := Aside0.mk (IsS79.below (by exact IsS79.up HI0.out) hb); replace HK := Aside0.mk (KeepBut.trans (by exact keep_y HK.out) (KeepBut.of_below hb g none) (.inl rfl)); replace HB := bl_x HB hb; (try clear hb); (try clear hk); (try clear hi)) | ((with_reducible refine gate_dst (N := 111) rfl ?_); (try (refine gate_guard (by rfl) ?_; dsimp only)); refine Kd.R_lit (Kd.int .i64) _ 3 ?hg (N := 111) ?hd (xs := ([0, 0, 1] : List Int)) (inner := [.int .i64 0, .int .i64 0, .int .i64 1]) (ok := fun _ => True) (okp := fun _ => True) ?hr ?hp (fun _ hk => hk) trivial (Below.refl _ _) (Nat.le_refl _) (by simp) ?_; (case hd => rfl); (case hg => rfl); (case hr => first | (go_simp; done) | (go_simp; rfl)); (case hp => exact (Reps.one (show Kd.M (Kd.int .i64) _ _ _ 0 [.int .i64 0] from rfl) (Reps.one (show Kd.M (Kd.int .i64) _ _ _ 0 [.int .i64 0] from rfl) (Reps.one (show Kd.M (Kd.int .i64) _ _ _ 1 [.int .i64 1] from rfl) (Reps.none _ _))))); intro v261 w119 ho120 hb hg_ hnew_; clear hg_ hnew_; (first | rw [← Ny260.out] at ho120 | (simp only [Int.reduceToNat] at ho120; rw [← Ny260.out] at ho120)); replace HO_9 := Aside0.mk (Kd.R_below (Kd.R_x HO_9.out) hb); replace HO_209000 := Aside0.mk (Kd.S_elder' (Kd.S_x HO_209000.out) (Kd.R_base ho120) hb); replace HO_209002 := Aside0.mk (Kd.R_below (Kd.R_x HO_209002.out) hb); have HO262 := Aside0.mk (Kd.R_lower ho120 (keep_size (w := w) (g := g) (row := none) (by exact keep_y HK.out))); replace BK207 := Aside0.mk (blk_below (blk_x BK207.out) hb); replace BK208 := Aside0.mk (blk_below (blk_x BK208.out) hb); replace HI0 := Aside0.mk (IsS79.below (by exact IsS79.up HI0.out) hb); replace HK := Aside0.mk (KeepBut.trans (by exact keep_y HK.out) (KeepBut.of_below hb g none) (.inl rfl)); replace HB := bl_x HB hb; clear hb ho120; obtain ⟨Ao121, co121, eo121⟩ := Kd.R_slice HO262.out; subst eo121) | ((with_reducible refine gate_callee (f := 24) rfl ?_); refine goesL_ (some 112) rfl rfl Try.func24 (by kernel_rfl) rfl #[.pointer (some ⟨g, 0, none⟩), .slice Ao121 y260.length co121] rfl (by (try simp only [List.map_toArray, List.map_cons, List.map_nil]); first | done | rfl | (simp only [List.length_drop, List.length_take]; rfl)) ?_; (with_reducible refine (swarfkit_Feed_Either.calls g x1000_2 _ _ y260 t263 t264 w0 _ ?side1 ?side2 ?side3 ?side4 ?side5 A110.out).mono ?_); (case side1 => exact IsS79.up HI0.out); (case side2 => exact below_y HB.out); (case side3 => exact Kd.C_y (Kd.R_reads' HO262.out).2.2); (case side4 => exact (Kd.R_reads' HO262.out).2.1); (case side5 => exact far_slice (IsS79.own_ne HI0.out HO262.out (by decide))); rintro e w122 ⟨rfl, hi, hb, hk⟩; refine ⟨_, rfl, ?_⟩; replace HO_9 := Aside0.mk (Kd.R_mono (Kd.R_keep (IsS79.apart (show IsS79 w0 _ g x1000_2 from by exact IsS79.up HI0.out) (Kd.R_x HO_9.out) (by decide)) hk (fun _ h => h.2)) (fun _ h => h.1)); replace HO_209000 := Aside0.mk (Kd.S_mono (Kd.S_keep (IsS79.apartS (show IsS79 w0 _ g x1000_2 from by exact IsS79.up HI0.out) (Kd.S_x HO_209000.out) (by decide)) hk (fun _ h => h.2)) (fun _ h => h.1)); replace HO_209002 := Aside0.mk (Kd.R_mono (Kd.R_keep (IsS79.apart (show IsS79 w0 _ g x1000_2 from by exact IsS79.up HI0.out) (Kd.R_x HO_209002.out) (by decide)) hk (fun _ h => h.2)) (fun _ h => h.1)); replace BK207 := Aside0.mk (KeepBut.blk hk (blk_x BK207.out) NB207_0.out (by simp)); replace BK208 := Aside0.mk (KeepBut.blk hk (blk_x BK208.out) NB208_0.out (by simp)); replace HO262 := Aside0.mk (Kd.R_mono (Kd.R_keep (IsS79.apart (show IsS79 w0 _ g x1000_2 from by exact IsS79.up HI0.out) (Kd.R_x HO262.out) (by decide)) hk (fun _ h => h.2)) (fun _ h => h.1)); replace HK := Aside0.mk (KeepBut.trans (by exact keep_y HK.out) hk (.inl rfl)); replace HB := Aside0.mk (hb); replace HI0 := Aside0.mk (hi); (try clear hb); (try clear hk); (try clear hi); obtain ⟨_, _, _, _, _⟩ := cz5 BK208; have hfz123_0 := blk_frozen BK208.out))
       go_loopg [17] k2 (fun kq v17 w' => ∃ (x17_3 : Int) (x1000_3 : Int) (x209004_3 : List Int) (u209004 : Value), v17 = .int .i64 x17_3 ∧ Aside0 (swarfkit_CarOf.l3 kq x9_1 x17_3 x1000_3 x209000_1 t247 x209002_2 ji111 x209004_3 = some (r1, r2, r3, r4, r5, r6, r7)) ∧ Aside0 (kq ≤ k2) ∧ Aside0 (Kd.R Kd.bool 4 w' w.heap.size (fun _ => True) (.slice Ao117 x9_1.length co117) x9_1) ∧ Aside0 (Kd.S k50 50 w' w.heap.size (fun k_ => some k_ ≠ (u209004 : Value).ownBlock) (.slice Ao115 x209000_1.length co115) x209000_1) ∧ Aside0 (Kd.R k61 61 w' w.heap.size (fun _ => True) (.slice Ao116 x209002_2.length co116) x209002_2) ∧ Aside0 (Kd.R (Kd.int .i64) 3 w' w.heap.size (fun _ => True) u209004 x209004_3) ∧ Aside0 (w'.heap[gb207]? = some (.cells #[(.slice none 0 0), .int .i64 0, (.slice none 0 0), .int .i64 0, (.slice none 0 0)] 26 (0, 0))) ∧ Aside0 (w'.heap[gb208]? = some (.cells #[(.slice Ao115 x209000_1.length co115), .int .i64 t247, (.slice Ao116 x209002_2.length co116), .int .i64 ji111, u209004] 26 (0, 0))) ∧ Aside0 (IsS79 w0 w' g x1000_3) ∧ Aside0 (KeepBut w w' g none) ∧ Aside0 (Below w0.heap.size w0 w'))
       case atStart => exact ⟨(0), (t264), (([] : List Int)), (.slice none 0 0), (by first | rfl | (simp; done) | (simp [*]; done)), H', ⟨Nat.le_refl _⟩, ⟨by (with_reducible repeat (first | apply Kd.R_alloc | apply Kd.R_drewN | apply Kd.R_drew)); exact Kd.R_mono (Kd.R_far (p := ⟨gb208, 3, none⟩) (Kd.R_types HO_9.out BK208.out (by decide)) (fun _ hk => hk.2) (.int .i64 ji111)) (fun _ hk => trivial)⟩, ⟨by (with_reducible repeat (first | apply Kd.S_alloc | apply Kd.S_drewN | apply Kd.S_drew)); exact Kd.S_mono (Kd.S_far (p := ⟨gb208, 3, none⟩) (Kd.S_types HO_209000.out BK208.out (by decide)) (fun _ hk => hk.2) (.int .i64 ji111)) (fun _ hk => (by simp [Value.ownBlock]))⟩, ⟨by (with_reducible repeat (first | apply Kd.R_alloc | apply Kd.R_drewN | apply Kd.R_drew)); exact Kd.R_mono (Kd.R_far (p := ⟨gb208, 3, none⟩) (Kd.R_types HO_209002.out BK208.out (by decide)) (fun _ hk => hk.2) (.int .i64 ji111)) (fun _ hk => trivial)⟩, ⟨by first | exact Kd.R_nil _ _ _ _ _ | exact Kd.N_nil _ _ _ _ _ | exact Kd.V_nil _ _ _ _ _ | exact Kd.Q_nil _ _ _ _ _ | exact Kd.S_nil _ _ _ _ _⟩, ⟨blk_w BK207.out⟩, ⟨by (with_reducible repeat (first | refine blk_drewN ?_ _ | refine blk_drew ?_ | refine blk_alloc ?_ _)); refine blk_put (cs := #[.slice Ao115 x209000_1.length co115, .int .i64 t247, .slice Ao116 x209002_2.length co116, .int .i64 0, .slice none 0 0]) ?_ 3 _ rfl; (with_reducible repeat (first | refine blk_drewN ?_ _ | refine blk_drew ?_ | refine blk_alloc ?_ _)); exact BK208.out⟩, ⟨by exact IsS79.up HI0.out⟩, ⟨by exact keep_y HK.out⟩, ⟨by exact below_y HB.out⟩⟩
       case round =>
        clear H'
        obtain ⟨x17_3, x1000_3, x209004_3, u209004, rfl, HA, HK3, HO_9, HO_209000, HO_209002, HO_209004, BK207, BK208, HI0, HK, HB⟩ := hrel
        cases gk with
        | zero => exact absurd HA.out (by simp [swarfkit_CarOf.l3])
        | succ k3 =>
         have H := HA.out
         clear HA
         simp only [swarfkit_CarOf.l3] at H
         have HC124 := Aside0.mk H
         clear H
         go_upto_region 23 with (fail)
         go_cut [123] (fun v123 wc => ∃ (kq : Nat) (x123_123 : Bool), v123 = .bool x123_123 ∧ Aside0 (swarfkit_CarOf.j4 kq x9_1 x17_3 x123_123 x1000_3 x209000_1 t247 x209002_2 ji111 x209004_3 = some (r1, r2, r3, r4, r5, r6, r7)) ∧ Aside0 (kq ≤ k3) ∧ Aside0 (Kd.R Kd.bool 4 wc w.heap.size (fun _ => True) (.slice Ao117 x9_1.length co117) x9_1) ∧ Aside0 (Kd.S k50 50 wc w.heap.size (fun k_ => some k_ ≠ (u209004 : Value).ownBlock) (.slice Ao115 x209000_1.length co115) x209000_1) ∧ Aside0 (Kd.R k61 61 wc w.heap.size (fun _ => True) (.slice Ao116 x209002_2.length co116) x209002_2) ∧ Aside0 (Kd.R (Kd.int .i64) 3 wc w.heap.size (fun _ => True) u209004 x209004_3) ∧ Aside0 (wc.heap[gb207]? = some (.cells #[(.slice none 0 0), .int .i64 0, (.slice none 0 0), .int .i64 0, (.slice none 0 0)] 26 (0, 0))) ∧ Aside0 (wc.heap[gb208]? = some (.cells #[(.slice Ao115 x209000_1.length co115), .int .i64 t247, (.slice Ao116 x209002_2.length co116), .int .i64 ji111, u209004] 26 (0, 0))) ∧ Aside0 (IsS79 w0 wc g x1000_3) ∧ Aside0 (KeepBut w wc g none) ∧ Aside0 (Below w0.heap.size w0 wc))
         case first =>
          have H := HC124.out
          clear HC124
          by_cases c125 : x17_3 ≤ 8
          ·
           rw [if_pos c125] at H
           have c125b0 : decide (x17_3 ≤ 8) = true := decide_eq_true c125
           clear c125
           (first | rw [c125b0] | (simp only [i64_w, i32_w]; rw [c125b0]) | skip)
           have H' := Aside0.mk H
           clear H
           have hnb126 := NB208_207.out
           have hnc126 := NB207_208.out
           have hnb127 := NB208_0.out
           have hnc127 := NB0_208.out
           obtain ⟨_, _, _, _, _⟩ := cz5 BK208
           have hfz128_0 := blk_frozen BK208.out
           obtain ⟨Ao129, co129, eo129⟩ := Kd.R_slice HO_209004.out
           subst eo129
           go_wp2
           go_meet
           case rel => exact ⟨_, (decide ((x209004_3.length : Int) < 3)), (by first | rfl | (simp; done) | (simp [*]; done)), H', ⟨by have := HK1.out; have := HK2.out; have := HK3.out; first | omega | exact Nat.le_refl _⟩, ⟨by (with_reducible repeat (first | apply Kd.R_alloc | apply Kd.R_drewN | apply Kd.R_drew)); exact HO_9.out⟩, ⟨by (with_reducible repeat (first | apply Kd.S_alloc | apply Kd.S_drewN | apply Kd.S_drew)); exact HO_209000.out⟩, ⟨by (with_reducible repeat (first | apply Kd.R_alloc | apply Kd.R_drewN | apply Kd.R_drew)); exact HO_209002.out⟩, ⟨by (with_reducible repeat (first | apply Kd.R_alloc | apply Kd.R_drewN | apply Kd.R_drew)); exact HO_209004.out⟩, ⟨blk_x BK207.out⟩, ⟨blk_x BK208.out⟩, ⟨by exact IsS79.up HI0.out⟩, ⟨by exact keep_y HK.out⟩, ⟨by exact below_y HB.out⟩⟩
          ·
           rw [if_neg c125] at H
           have c125b0 : decide (x17_3 ≤ 8) = false := decide_eq_false c125
           clear c125
           (first | rw [c125b0] | (simp only [i64_w, i32_w]; rw [c125b0]) | skip)
           have H' := Aside0.mk H
           clear H
           go_wp2
           go_meet
           case rel => exact ⟨_, (false), (by first | rfl | (simp; done) | (simp [*]; done)), H', ⟨by have := HK1.out; have := HK2.out; have := HK3.out; first | omega | exact Nat.le_refl _⟩, ⟨by (with_reducible repeat (first | apply Kd.R_alloc | apply Kd.R_drewN | apply Kd.R_drew)); exact HO_9.out⟩, ⟨by (with_reducible repeat (first | apply Kd.S_alloc | apply Kd.S_drewN | apply Kd.S_drew)); exact HO_209000.out⟩, ⟨by (with_reducible repeat (first | apply Kd.R_alloc | apply Kd.R_drewN | apply Kd.R_drew)); exact HO_209002.out⟩, ⟨by (with_reducible repeat (first | apply Kd.R_alloc | apply Kd.R_drewN | apply Kd.R_drew)); exact HO_209004.out⟩, ⟨blk_x BK207.out⟩, ⟨blk_x BK208.out⟩, ⟨by exact IsS79.up HI0.out⟩, ⟨by exact keep_y HK.out⟩, ⟨by exact below_y HB.out⟩⟩
         case rest =>
          clear HC124
          obtain ⟨kq, x123_123, rfl, HA, HJ123, HO_9, HO_209000, HO_209002, HO_209004, BK207, BK208, HI0, HK, HB⟩ := hcut
          cases kq with
          | zero => exact absurd HA.out (by simp [swarfkit_CarOf.j4])
          | succ kj123 =>
           have H := HA.out
           clear HA
           simp only [swarfkit_CarOf.j4] at H
           by_cases c130 : x123_123 = true
           ·
            subst c130
            have H1 : ((swarfkit_Feed_Often.f x1000_3 1 5).bind fun bt265 => (if bt265.1 = true then (if x209004_3.length < 17592186044416 then (swarfkit_CarOf.l3 kj123 x9_1 (wrap64 (x17_3 + 1)) bt265.2 x209000_1 t247 x209002_2 ji111 (x209004_3 ++ [x17_3])) else (none)) else (swarfkit_CarOf.l3 kj123 x9_1 (wrap64 (x17_3 + 1)) bt265.2 x209000_1 t247 x209002_2 ji111 x209004_3))) = some (r1, r2, r3, r4, r5, r6, r7) := by rw [if_pos rfl] at H; exact H
            clear H
            have H := H1
            clear H1
            replace H := Option.bind_eq_some_iff.mp H
            obtain ⟨⟨t265, t266⟩, A1310, H⟩ := H
            try dsimp only at H
            have A131 := Aside0.mk A1310
            clear A1310
            by_cases c132 : t265 = true
            ·
             subst c132
             have H1 : (if x209004_3.length < 17592186044416 then (swarfkit_CarOf.l3 kj123 x9_1 (wrap64 (x17_3 + 1)) t266 x209000_1 t247 x209002_2 ji111 (x209004_3 ++ [x17_3])) else (none)) = some (r1, r2, r3, r4, r5, r6, r7) := by rw [if_pos rfl] at H; exact H
             clear H
             have H := H1
             clear H1
             by_cases c133 : x209004_3.length < 17592186044416
             ·
              rw [if_pos c133] at H
              have LMc133 := Aside0.mk c133
              clear c133
              obtain ⟨y267, hy267⟩ : ∃ y_ : List Int, y_ = (x209004_3 ++ [x17_3]) := ⟨_, rfl⟩
              replace H : (swarfkit_CarOf.l3 kj123 x9_1 (wrap64 (x17_3 + 1)) t266 x209000_1 t247 x209002_2 ji111 y267) = some (r1, r2, r3, r4, r5, r6, r7) := by first | (rw [hy267]; with_reducible exact H) | (have H2_ := (Option.bind_some _ _).symm.trans H; rw [hy267]; with_reducible exact H2_) | (have H2_ := (Option.bind_some _ _).symm.trans H; with_reducible exact H2_) | with_reducible exact H | (rw [hy267]; exact H) | exact H
              have Ny267 := Aside0.mk hy267
              clear hy267
              have H' := Aside0.mk H
              clear H
              go_wp2_with (first | ((with_reducible refine gate_callee (f := 35) rfl ?_); refine goesL_ (some 127) rfl rfl Try.func35 (by kernel_rfl) rfl #[.pointer (some ⟨g, 0, none⟩), .int .i64 1, .int .i64 5] rfl (by (try simp only [List.map_toArray, List.map_cons, List.map_nil]); first | done | rfl | (simp only [List.length_drop, List.length_take]; rfl)) ?_; (with_reducible refine (swarfkit_Feed_Often.calls g x1000_3 1 5 true t266 w0 _ ?side1 ?side2 A131.out).mono ?_); (case side1 => exact IsS79.up HI0.out); (case side2 => exact below_y HB.out); rintro e w134 ⟨rfl, hi, hb, hk⟩; refine ⟨_, rfl, ?_⟩; replace HO_9 := Aside0.mk (Kd.R_mono (Kd.R_keep (IsS79.apart (show IsS79 w0 _ g x1000_3 from by exact IsS79.up HI0.out) (Kd.R_x HO_9.out) (by decide)) hk (fun _ h => h.2)) (fun _ h => h.1)); replace HO_209000 := Aside0.mk (Kd.S_mono (Kd.S_keep (IsS79.apartS (show IsS79 w0 _ g x1000_3 from by exact IsS79.up HI0.out) (Kd.S_x HO_209000.out) (by decide)) hk (fun _ h => h.2)) (fun _ h => h.1)); replace HO_209002 := Aside0.mk (Kd.R_mono (Kd.R_keep (IsS79.apart (show IsS79 w0 _ g x1000_3 from by exact IsS79.up HI0.out) (Kd.R_x HO_209002.out) (by decide)) hk (fun _ h => h.2)) (fun _ h => h.1)); replace HO_209004 := Aside0.mk (Kd.R_mono (Kd.R_keep (IsS79.apart (show IsS79 w0 _ g x1000_3 from by exact IsS79.up HI0.out) (Kd.R_x HO_209004.out) (by decide)) hk (fun _ h => h.2)) (fun _ h => h.1)); replace BK207 := Aside0.mk (KeepBut.blk hk (blk_x BK207.out) NB207_0.out (by simp)); replace BK208 := Aside0.mk (KeepBut.blk hk (blk_x BK208.out) NB208_0.out (by simp)); replace HK := Aside0.mk (KeepBut.trans (by exact keep_y HK.out) hk (.inl rfl)); replace HB := Aside0.mk (hb); replace HI0 := Aside0.mk (hi); (try clear hb); (try clear hk); (try clear hi); have hnb135 := NB208_207.out; have hnc135 := NB207_208.out; have hnb136 := NB208_0.out; have hnc136 := NB0_208.out; obtain ⟨_, _, _, _, _⟩ := cz5 BK208; have hfz137_0 := blk_frozen BK208.out) | ((with_reducible refine gate_builtin (b := .append) (xs := #[.tmp 129, .tmp 131]) rfl ?_); (try (refine gate_guard (by rfl) ?_; dsimp only)); at_builtin; refine Kd.R_append (Kd.int .i64) w.heap.size rfl (.tmp 129) (.tmp 131) 24 3 (.int .i64 0) 8 rfl Try.underlying24 info3 rfl (by decide) (by omega) u209004 x209004_3 x17_3 [.int .i64 x17_3] (fun _ => True) (fun _ => False) rfl rfl ?aP (fun _ hk => hk.elim) ?aF ?aO (Below.refl _ _) ?aS ?aL ?_; (case aP => exact rfl); (case aF => exact (fun _ _ => trivial)); (case aO => exact (Kd.R_x HO_209004.out)); (case aS => exact (keep_size (w := w) (g := g) (row := none) (by exact keep_y HK.out))); (case aL => have := LMc133.out; omega); intro v268 w138 ho hb hg hat; rw [← Ny267.out] at ho; replace HO_9 := Aside0.mk (Kd.R_over' (Kd.R_x HO_9.out) (Kd.R_typed (Kd.R_x HO_209004.out)) (by decide) hg); replace HO_209000 := Aside0.mk (Kd.S_after (ok := (fun _ => True)) (by (with_reducible repeat (first | apply Kd.S_alloc | apply Kd.S_drewN | apply Kd.S_drew)); exact Kd.S_mono HO_209000.out (fun _ hk => ⟨trivial, hk⟩)) hg hat); replace HO_209002 := Aside0.mk (Kd.R_over' (Kd.R_x HO_209002.out) (Kd.R_typed (Kd.R_x HO_209004.out)) (by decide) hg); replace BK207 := Aside0.mk (blk_grown (blk_x BK207.out) hg (Kd.R_ne HO_209004.out BK207.out (by decide))); replace BK208 := Aside0.mk (blk_grown (blk_x BK208.out) hg (Kd.R_ne HO_209004.out BK208.out (by decide))); replace HI0 := Aside0.mk (IsS79.grown (by exact IsS79.up HI0.out) hg (IsS79.own_ne HI0.out HO_209004.out (by decide))); replace HB := Aside0.mk (below_weaken (by exact below_y HB.out) HL.out hb); replace HK := Aside0.mk (KeepBut.trans (by exact keep_y HK.out) (KeepBut.of_grown hg g) (Kd.R_base2 HO_209004.out)); have HO269 := Aside0.mk (ho); clear HO_209004; clear ho hb hg hat; obtain ⟨Ao139, co139, eo139⟩ := Kd.R_slice HO269.out; subst eo139; obtain ⟨_, _, _, _, _⟩ := cz5 BK208; have hfz140_0 := blk_frozen BK208.out))
              go_roundg kj123
              case measure => have := HK1.out; have := HK2.out; have := HK3.out; have := HJ123.out; omega
              case rel => exact ⟨(wrap64 (x17_3 + 1)), (t266), (y267), (.slice Ao139 y267.length co139), (by first | rfl | (simp; done) | (simp [*]; done)), H', ⟨by have := HK1.out; have := HK2.out; have := HK3.out; have := HJ123.out; omega⟩, ⟨by (with_reducible repeat (first | apply Kd.R_alloc | apply Kd.R_drewN | apply Kd.R_drew)); exact Kd.R_mono (Kd.R_far (p := ⟨gb208, 4, none⟩) (Kd.R_types HO_9.out BK208.out (by decide)) (fun _ hk => hk.2) (.slice Ao139 y267.length co139)) (fun _ hk => trivial)⟩, ⟨by (with_reducible repeat (first | apply Kd.S_alloc | apply Kd.S_drewN | apply Kd.S_drew)); exact Kd.S_mono (Kd.S_far (p := ⟨gb208, 4, none⟩) (Kd.S_types HO_209000.out BK208.out (by decide)) (fun _ hk => hk.2) (.slice Ao139 y267.length co139)) (fun _ hk => hk.1.2)⟩, ⟨by (with_reducible repeat (first | apply Kd.R_alloc | apply Kd.R_drewN | apply Kd.R_drew)); exact Kd.R_mono (Kd.R_far (p := ⟨gb208, 4, none⟩) (Kd.R_types HO_209002.out BK208.out (by decide)) (fun _ hk => hk.2) (.slice Ao139 y267.length co139)) (fun _ hk => trivial)⟩, ⟨by (with_reducible repeat (first | apply Kd.R_alloc | apply Kd.R_drewN | apply Kd.R_drew)); exact Kd.R_mono (Kd.R_far (p := ⟨gb208, 4, none⟩) (Kd.R_types HO269.out BK208.out (by decide)) (fun _ hk => hk.2) (.slice Ao139 y267.length co139)) (fun _ hk => trivial)⟩, ⟨blk_w BK207.out⟩, ⟨by (with_reducible repeat (first | refine blk_drewN ?_ _ | refine blk_drew ?_ | refine blk_alloc ?_ _)); refine blk_put (cs := #[.slice Ao115 x209000_1.length co115, .int .i64 t247, .slice Ao116 x209002_2.length co116, .int .i64 ji111, u209004]) ?_ 4 _ rfl; (with_reducible repeat (first | refine blk_drewN ?_ _ | refine blk_drew ?_ | refine blk_alloc ?_ _)); exact BK208.out⟩, ⟨by exact IsS79.up HI0.out⟩, ⟨by exact keep_y HK.out⟩, ⟨by exact below_y HB.out⟩⟩
             ·
              rw [if_neg c133] at H
              exact absurd H (by simp)
            ·
             replace c132 := Bool.eq_false_iff.mpr c132
             subst c132
             have H1 : (swarfkit_CarOf.l3 kj123 x9_1 (wrap64 (x17_3 + 1)) t266 x209000_1 t247 x209002_2 ji111 x209004_3) = some (r1, r2, r3, r4, r5, r6, r7) := by rw [if_neg (show ¬ (false = true) by decide)] at H; exact H
             clear H
             have H := H1
             clear H1
             have H' := Aside0.mk H
             clear H
             go_wp2_with (first | ((with_reducible refine gate_callee (f := 35) rfl ?_); refine goesL_ (some 127) rfl rfl Try.func35 (by kernel_rfl) rfl #[.pointer (some ⟨g, 0, none⟩), .int .i64 1, .int .i64 5] rfl (by (try simp only [List.map_toArray, List.map_cons, List.map_nil]); first | done | rfl | (simp only [List.length_drop, List.length_take]; rfl)) ?_; (with_reducible refine (swarfkit_Feed_Often.calls g x1000_3 1 5 false t266 w0 _ ?side1 ?side2 A131.out).mono ?_); (case side1 => exact IsS79.up HI0.out); (case side2 => exact below_y HB.out); rintro e w141 ⟨rfl, hi, hb, hk⟩; refine ⟨_, rfl, ?_⟩; replace HO_9 := Aside0.mk (Kd.R_mono (Kd.R_keep (IsS79.apart (show IsS79 w0 _ g x1000_3 from by exact IsS79.up HI0.out) (Kd.R_x HO_9.out) (by decide)) hk (fun _ h => h.2)) (fun _ h => h.1)); replace HO_209000 := Aside0.mk (Kd.S_mono (Kd.S_keep (IsS79.apartS (show IsS79 w0 _ g x1000_3 from by exact IsS79.up HI0.out) (Kd.S_x HO_209000.out) (by decide)) hk (fun _ h => h.2)) (fun _ h => h.1)); replace HO_209002 := Aside0.mk (Kd.R_mono (Kd.R_keep (IsS79.apart (show IsS79 w0 _ g x1000_3 from by exact IsS79.up HI0.out) (Kd.R_x HO_209002.out) (by decide)) hk (fun _ h => h.2)) (fun _ h => h.1)); replace HO_209004 := Aside0.mk (Kd.R_mono (Kd.R_keep (IsS79.apart (show IsS79 w0 _ g x1000_3 from by exact IsS79.up HI0.out) (Kd.R_x HO_209004.out) (by decide)) hk (fun _ h => h.2)) (fun _ h => h.1)); replace BK207 := Aside0.mk (KeepBut.blk hk (blk_x BK207.out) NB207_0.out (by simp)); replace BK208 := Aside0.mk (KeepBut.blk hk (blk_x BK208.out) NB208_0.out (by simp)); replace HK := Aside0.mk (KeepBut.trans (by exact keep_y HK.out) hk (.inl rfl)); replace HB := Aside0.mk (hb); replace HI0 := Aside0.mk (hi); (try clear hb); (try clear hk); (try clear hi)))
             go_roundg kj123
             case measure => have := HK1.out; have := HK2.out; have := HK3.out; have := HJ123.out; omega
             case rel => exact ⟨(wrap64 (x17_3 + 1)), (t266), (x209004_3), (u209004), (by first | rfl | (simp; done) | (simp [*]; done)), H', ⟨by have := HK1.out; have := HK2.out; have := HK3.out; have := HJ123.out; omega⟩, ⟨by (with_reducible repeat (first | apply Kd.R_alloc | apply Kd.R_drewN | apply Kd.R_drew)); exact HO_9.out⟩, ⟨by (with_reducible repeat (first | apply Kd.S_alloc | apply Kd.S_drewN | apply Kd.S_drew)); exact HO_209000.out⟩, ⟨by (with_reducible repeat (first | apply Kd.R_alloc | apply Kd.R_drewN | apply Kd.R_drew)); exact HO_209002.out⟩, ⟨by (with_reducible repeat (first | apply Kd.R_alloc | apply Kd.R_drewN | apply Kd.R_drew)); exact HO_209004.out⟩, ⟨blk_x BK207.out⟩, ⟨blk_x BK208.out⟩, ⟨by exact IsS79.up HI0.out⟩, ⟨by exact keep_y HK.out⟩, ⟨by exact below_y HB.out⟩⟩
           ·
            replace c130 := Bool.eq_false_iff.mpr c130
            subst c130
            have H1 : (some (x209000_1, t247, x209002_2, ji111, x209004_3, x9_1, x1000_3)) = some (r1, r2, r3, r4, r5, r6, r7) := by rw [if_neg (show ¬ (false = true) by decide)] at H; exact H
            clear H
            have H := H1
            clear H1
            simp only [Option.some.injEq, Prod.mk.injEq] at H
            obtain ⟨rfl, rfl, rfl, rfl, rfl, rfl, rfl⟩ := H
            have hnb142 := NB208_207.out
            have hnc142 := NB207_208.out
            have hnb143 := NB208_0.out
            have hnc143 := NB0_208.out
            obtain ⟨_, _, _, _, _⟩ := cz5 BK208
            have hfz144_0 := blk_frozen BK208.out
            have hnb145 := NB207_0.out
            have hnc145 := NB0_207.out
            obtain ⟨_, _, _, _, _⟩ := cz5 BK207
            have hfz146_0 := blk_frozen BK207.out
            obtain ⟨Ao147, co147, eo147⟩ := Kd.R_slice HO_209004.out
            subst eo147
            go_wp2
            refine bodyPost_ret (results_ct rfl _ _ gb207 26 #[.slice Ao115 x209000_1.length co115, .int .i64 t247, .slice Ao116 x209002_2.length co116, .int .i64 ji111, .slice Ao147 x209004_3.length co147] (0, 0) _ rfl (by (with_reducible repeat (first | refine blk_drewN ?_ _ | refine blk_drew ?_ | refine blk_alloc ?_ _)); refine blk_put (cs := #[.slice Ao115 x209000_1.length co115, .int .i64 t247, .slice Ao116 x209002_2.length co116, .int .i64 ji111, .slice none 0 0]) ?_ 4 _ rfl; (with_reducible repeat (first | refine blk_drewN ?_ _ | refine blk_drew ?_ | refine blk_alloc ?_ _)); refine blk_put (cs := #[.slice Ao115 x209000_1.length co115, .int .i64 t247, .slice Ao116 x209002_2.length co116, .int .i64 0, .slice none 0 0]) ?_ 3 _ rfl; (with_reducible repeat (first | refine blk_drewN ?_ _ | refine blk_drew ?_ | refine blk_alloc ?_ _)); refine blk_put (cs := #[.slice Ao115 x209000_1.length co115, .int .i64 t247, .slice none 0 0, .int .i64 0, .slice none 0 0]) ?_ 2 _ rfl; (with_reducible repeat (first | refine blk_drewN ?_ _ | refine blk_drew ?_ | refine blk_alloc ?_ _)); refine blk_put (cs := #[.slice Ao115 x209000_1.length co115, .int .i64 0, .slice none 0 0, .int .i64 0, .slice none 0 0]) ?_ 1 _ rfl; (with_reducible repeat (first | refine blk_drewN ?_ _ | refine blk_drew ?_ | refine blk_alloc ?_ _)); refine blk_put (cs := #[.slice none 0 0, .int .i64 0, .slice none 0 0, .int .i64 0, .slice none 0 0]) ?_ 0 _ rfl; (with_reducible repeat (first | refine blk_drewN ?_ _ | refine blk_drew ?_ | refine blk_alloc ?_ _)); exact BK207.out) Try.underlying26 rfl (by kernel_rfl)) rfl ?_
            exact ⟨_, _, _, _, by first | rfl | (simp [errW_none, errW_some] <;> rfl) | (simp only [← hji111]; first | rfl | (simp [errW_none, errW_some] <;> rfl)) | (simp [*, errW_none, errW_some] <;> rfl), by (with_reducible repeat (first | apply Kd.S_alloc | apply Kd.S_drewN | apply Kd.S_drew)); exact Kd.S_mono (Kd.S_far (p := ⟨gb207, 4, none⟩) (Kd.S_far (p := ⟨gb207, 3, none⟩) (Kd.S_far (p := ⟨gb207, 2, none⟩) (Kd.S_far (p := ⟨gb207, 1, none⟩) (Kd.S_far (p := ⟨gb207, 0, none⟩) (Kd.S_types HO_209000.out BK207.out (by decide)) (fun _ hk => hk.2) (.slice Ao115 x209000_1.length co115)) (fun _ hk => hk.2) (.int .i64 t247)) (fun _ hk => hk.2) (.slice Ao116 x209002_2.length co116)) (fun _ hk => hk.2) (.int .i64 ji111)) (fun _ hk => hk.2) (.slice Ao147 x209004_3.length co147)) (fun _ hk => hk.1), by (with_reducible repeat (first | apply Kd.R_alloc | apply Kd.R_drewN | apply Kd.R_drew)); exact Kd.R_mono (Kd.R_far (p := ⟨gb207, 4, none⟩) (Kd.R_far (p := ⟨gb207, 3, none⟩) (Kd.R_far (p := ⟨gb207, 2, none⟩) (Kd.R_far (p := ⟨gb207, 1, none⟩) (Kd.R_far (p := ⟨gb207, 0, none⟩) (Kd.R_types HO_209002.out BK207.out (by decide)) (fun _ hk => hk.2) (.slice Ao115 x209000_1.length co115)) (fun _ hk => hk.2) (.int .i64 t247)) (fun _ hk => hk.2) (.slice Ao116 x209002_2.length co116)) (fun _ hk => hk.2) (.int .i64 ji111)) (fun _ hk => hk.2) (.slice Ao147 x209004_3.length co147)) (fun _ hk => trivial), by (with_reducible repeat (first | apply Kd.R_alloc | apply Kd.R_drewN | apply Kd.R_drew)); exact Kd.R_mono (Kd.R_far (p := ⟨gb207, 4, none⟩) (Kd.R_far (p := ⟨gb207, 3, none⟩) (Kd.R_far (p := ⟨gb207, 2, none⟩) (Kd.R_far (p := ⟨gb207, 1, none⟩) (Kd.R_far (p := ⟨gb207, 0, none⟩) (Kd.R_types HO_209004.out BK207.out (by decide)) (fun _ hk => hk.2) (.slice Ao115 x209000_1.length co115)) (fun _ hk => hk.2) (.int .i64 t247)) (fun _ hk => hk.2) (.slice Ao116 x209002_2.length co116)) (fun _ hk => hk.2) (.int .i64 ji111)) (fun _ hk => hk.2) (.slice Ao147 x209004_3.length co147)) (fun _ hk => trivial), by (with_reducible repeat (first | apply Kd.R_alloc | apply Kd.R_drewN | apply Kd.R_drew)); exact Kd.R_mono (Kd.R_far (p := ⟨gb207, 4, none⟩) (Kd.R_far (p := ⟨gb207, 3, none⟩) (Kd.R_far (p := ⟨gb207, 2, none⟩) (Kd.R_far (p := ⟨gb207, 1, none⟩) (Kd.R_far (p := ⟨gb207, 0, none⟩) (Kd.R_types HO_9.out BK207.out (by decide)) (fun _ hk => hk.2) (.slice Ao115 x209000_1.length co115)) (fun _ hk => hk.2) (.int .i64 t247)) (fun _ hk => hk.2) (.slice Ao116 x209002_2.length co116)) (fun _ hk => hk.2) (.int .i64 ji111)) (fun _ hk => hk.2) (.slice Ao147 x209004_3.length co147)) (fun _ hk => trivial), by exact IsS79.up HI0.out, by exact below_y HB.out, by exact keep_y HK.out⟩
end Go.Proofs.Ytkkmfcdikkiodaa.PC4
namespace Go.Proofs.Ytkkmfcdikkiodaa.PC4
set_option linter.unusedVariables false
open Go.RowKit Go.Proofs.YtkkmfcdikkiodaaW.PrintWords Go.Proofs.YtkkmfcdikkiodaaW.PrintLast Go.Proofs.YtkkmfcdikkiodaaW.PrintMore
theorem u64_bd (n : Int) : 0 ≤ IntKind.u64.wrap n ∧ IntKind.u64.wrap n < 18446744073709551616 := by
  have : IntKind.u64.wrap n = n % 18446744073709551616 := by simp [IntKind.wrap, IntKind.bits, IntKind.signed]
  omega
theorem u64_id {n : Int} (h0 : 0 ≤ n) (h : n < 18446744073709551616) : IntKind.u64.wrap n = n := by
  have : IntKind.u64.wrap n = n % 18446744073709551616 := by simp [IntKind.wrap, IntKind.bits, IntKind.signed]
  omega
theorem below_ok (s n : Int) (h1 : 1 ≤ n) (h : n ≤ 1000000000) : ∃ r s', swarfkit_Feed_Below.f s n = some (r, s') ∧ 0 ≤ r ∧ r < n := by
  unfold swarfkit_Feed_Below.f
  by_cases h2 : n < 2
  · rw [if_pos h2]
    exact ⟨0, s, rfl, by omega, by omega⟩
  · rw [if_neg h2]
    unfold swarfkit_Feed_next.f
    simp only [Option.bind_some]
    rw [u64_id (by omega) (by omega), if_neg (by omega)]
    refine ⟨_, _, rfl, ?_⟩
    obtain ⟨ha, hb⟩ := u64_bd (feedN s * 2685821657736338717)
    have hm : feedM (feedN s) = IntKind.u64.wrap (feedN s * 2685821657736338717) := rfl
    rw [hm]
    generalize IntKind.u64.wrap (feedN s * 2685821657736338717) = x at *
    have hx : 0 ≤ x / 256 := by omega
    rw [Int.tmod_eq_emod_of_nonneg hx]
    have h3 := Int.emod_nonneg (x / 256) (show n ≠ 0 by omega)
    have h4 := Int.emod_lt_of_pos (x / 256) (show 0 < n by omega)
    rw [wrap64_id (by omega) (by omega)]
    exact ⟨h3, h4⟩
theorem often_ok (s n m : Int) (h1 : 1 ≤ m) (h : m ≤ 1000000000) : ∃ b s', swarfkit_Feed_Often.f s n m = some (b, s') := by
  obtain ⟨r, s', h2, _⟩ := below_ok s m h1 h
  exact ⟨_, _, by unfold swarfkit_Feed_Often.f; rw [h2]; rfl⟩
theorem between_ok (s lo hi : Int) (h : lo ≤ hi) (h0 : 0 ≤ lo) (h1 : hi ≤ 1000000) : ∃ r s', swarfkit_Feed_Between.f s lo hi = some (r, s') ∧ lo ≤ r ∧ r ≤ hi := by
  obtain ⟨r, s', h2, h3, h4⟩ := below_ok s (hi - lo + 1) (by omega) (by omega)
  refine ⟨lo + r, s', ?_, by omega, by omega⟩
  unfold swarfkit_Feed_Between.f
  rw [wrap64_id (n := hi - lo) (by omega) (by omega), wrap64_id (by omega) (by omega), h2]
  simp only [Option.bind_some]
  rw [wrap64_id (by omega) (by omega)]
theorem either_ok (s : Int) (l : List Int) (h0 : l ≠ []) (h : l.length ≤ 1000) : ∃ r s', swarfkit_Feed_Either.f s l = some (r, s') ∧ r ∈ l := by
  have hl : 0 < l.length := List.length_pos_iff.2 h0
  obtain ⟨r, s', h2, h3, h4⟩ := below_ok s l.length (by omega) (by omega)
  refine ⟨rd l r, s', ?_, ?_⟩
  · unfold swarfkit_Feed_Either.f
    rw [if_neg (by omega), h2]
    simp only [Option.bind_some]
    rw [if_pos h3, if_pos h4]
  · obtain ⟨k, rfl⟩ : ∃ k : Nat, r = k := ⟨r.toNat, by omega⟩
    have hk : k < l.length := by omega
    rw [rd_getD, List.getD, List.getElem?_eq_getElem hk]
    exact List.getElem_mem hk
def Res {α : Type} (g : Nat → Option α) (P : α → Prop) : Prop := ∃ r, Ev g r ∧ P r
theorem Res.step {α : Type} {g f : Nat → Option α} {P : α → Prop} (h : ∀ k, g (k + 1) = f k) (k : Res f P) : Res g P := by
  obtain ⟨r, h1, h2⟩ := k
  exact ⟨r, Ev.step h h1, h2⟩
theorem Res.bind {α β : Type} {g : Nat → Option α} {f : Nat → α → Option β} {P : β → Prop} {a : α} (h : Ev g a) (k : Res (fun n => f n a) P) : Res (fun n => (g n).bind (f n)) P := by
  obtain ⟨r, h1, h2⟩ := k
  exact ⟨r, Ev.bind h h1, h2⟩
theorem inB_of {n low high : Int} (h : low ≤ n ∧ n ≤ high) : inB n low high = true := inB_true.2 h
theorem rise_snoc (most beyond x : Int) : ∀ (l : List Int) (p : Option Int), rise most beyond p l = 0 → (∀ y, y ∈ l → y < x) → (∀ q, p = some q → q < x) → 0 ≤ x → x ≤ most → rise most beyond p (l ++ [x]) = 0 := by
  intro l
  induction l with
  | nil =>
    intro p _ _ hp h0 h1
    show rise most beyond p [x] = 0
    rw [rise_cons, if_pos (inB_of ⟨h0, h1⟩)]
    cases p with
    | none => simp [rise]
    | some q =>
      have := hp q rfl
      rw [if_neg (by simpa using this)]
      simp [rise]
  | cons y l ih =>
    intro p h hl hp h0 h1
    rw [List.cons_append, rise_cons]
    rw [rise_cons] at h
    have hy := hl y List.mem_cons_self
    by_cases hb : inB y 0 most = true
    · rw [if_pos hb] at h ⊢
      have hn := fun h => ih (some y) h (fun z hz => hl z (List.mem_cons_of_mem _ hz)) (fun q e => by injection e with e; omega) h0 h1
      cases p with
      | none =>
        rw [if_neg (by simp)] at h ⊢
        exact hn h
      | some q =>
        by_cases hq : y ≤ q
        · rw [if_pos (by simpa using hq)] at h
          cases h
        · rw [if_neg (by simpa using hq)] at h ⊢
          exact hn h
    · rw [if_neg hb] at h ⊢
      exact h
theorem riseE_snoc {most beyond x : Int} {l : List Int} (h : riseE most beyond l = 0) (hl : ∀ y, y ∈ l → y < x) (h0 : 0 ≤ x) (h1 : x ≤ most) : riseE most beyond (l ++ [x]) = 0 :=
  rise_snoc most beyond x l none h hl (fun q e => by cases e) h0 h1
structure PartOK (i : Nat) (p : S50) : Prop where
  ris : riseE ((i : Int) - 1) 3 p.f0 = 0
  lt : ∀ x, x ∈ p.f0 → 0 ≤ x ∧ x < i
  len : p.f0.length ≤ i
  tool : 1 ≤ p.f2 ∧ p.f2 ≤ 4
  min : 0 ≤ p.f3 ∧ p.f3 ≤ 1000
structure PartsOK (parts : List S50) (st : List Bool) : Prop where
  len : st.length = parts.length
  ok : ∀ i, i < parts.length → PartOK i (parts.getD i z50)
  st : ∀ i, i < parts.length → st.getD i false = true → ∀ x, x ∈ (parts.getD i z50).f0 → st.getD x.toNat false = true
theorem getD_snoc_lt {α : Type} (l : List α) (x d : α) {i : Nat} (h : i < l.length) : (l ++ [x]).getD i d = l.getD i d := by
  rw [List.getD, List.getD, List.getElem?_append_left h]
theorem getD_snoc_eq {α : Type} (l : List α) (x d : α) : (l ++ [x]).getD l.length d = x := by
  rw [List.getD, List.getElem?_append_right (Nat.le_refl _)]; simp
theorem PartsOK.snoc {parts : List S50} {st : List Bool} (h : PartsOK parts st) {p : S50} {b : Bool} (hp : PartOK parts.length p) (hb : b = true → ∀ x, x ∈ p.f0 → st.getD x.toNat false = true) : PartsOK (parts ++ [p]) (st ++ [b]) := by
  refine ⟨by simp [h.len], fun i hi => ?_, fun i hi hs x hx => ?_⟩
  · rw [List.length_append, List.length_singleton] at hi
    by_cases e : i = parts.length
    · subst e; rw [getD_snoc_eq]; exact hp
    · rw [getD_snoc_lt _ _ _ (by omega)]; exact h.ok i (by omega)
  · rw [List.length_append, List.length_singleton] at hi
    by_cases e : i = parts.length
    · subst e
      rw [getD_snoc_eq] at hx
      rw [← h.len, getD_snoc_eq] at hs
      have hlt := hp.lt x hx
      rw [getD_snoc_lt _ _ _ (by rw [h.len]; omega)]
      exact hb hs x hx
    · rw [getD_snoc_lt _ _ _ (by omega)] at hx
      rw [getD_snoc_lt _ _ _ (by rw [h.len]; omega)] at hs
      have hlt := (h.ok i (by omega)).lt x hx
      rw [getD_snoc_lt _ _ _ (by rw [h.len]; omega)]
      exact h.st i (by omega) hs x hx
def wrongB (st : List Bool) : List S61 → Nat
  | [] => 0
  | l :: t => (if st.getD l.f0.toNat false != l.f1 then 1 else 0) + wrongB st t
theorem wrongB_le (st : List Bool) (l : List S61) : wrongB st l ≤ l.length := by
  induction l with
  | nil => simp [wrongB]
  | cons y l ih => simp only [wrongB, List.length_cons]; split <;> omega
theorem wrongs_l0 (parts : List S50) (swap : Int) (looks : List S61) (wrong : Int) (needs : List Int) (st : List Bool) (hl : looks.length ≤ 1000) (h : ∀ l, l ∈ looks → 0 ≤ l.f0 ∧ l.f0 < st.length) (d : Nat) :
    ∀ (i n : Nat), i + d = looks.length → n ≤ i → Ev (fun K => swarfref04_Wrongs.l0 K st (n : Int) (i : Int) parts swap looks wrong needs) ((n + wrongB st (looks.drop i) : Nat) : Int) := by
  induction d with
  | zero =>
    intro i n hi hn
    refine Ev.step (f := fun _ => some (n : Int)) (fun K => ?_) ?_
    · simp only [swarfref04_Wrongs.l0]
      rw [if_neg (by omega)]
    · rw [List.drop_of_length_le (by omega)]
      exact Ev.now _
  | succ d ih =>
    intro i n hi hn
    have hlt : i < looks.length := by omega
    have hrd : rd_T61 looks (i : Int) = looks.getD i z61 := by simp [rd_T61]
    have hm : looks.getD i z61 ∈ looks := by rw [List.getD, List.getElem?_eq_getElem hlt]; exact List.getElem_mem hlt
    have hb := h _ hm
    have hw : wrap64 ((i : Int) + 1) = ((i + 1 : Nat) : Int) := by rw [wrap64_id (by omega) (by omega)]; omega
    have hw2 : wrap64 ((n : Int) + 1) = ((n + 1 : Nat) : Int) := by rw [wrap64_id (by omega) (by omega)]; omega
    rw [drop_cons_rd looks i hlt z61]
    generalize looks.getD i z61 = x at *
    have hx : rdOf false st x.f0 = st.getD x.f0.toNat false := rfl
    refine Ev.step (f := fun K => if (st.getD x.f0.toNat false != x.f1) = true then swarfref04_Wrongs.l0 K st ((n + 1 : Nat) : Int) ((i + 1 : Nat) : Int) parts swap looks wrong needs else swarfref04_Wrongs.l0 K st (n : Int) ((i + 1 : Nat) : Int) parts swap looks wrong needs) (fun K => ?_) ?_
    · simp only [swarfref04_Wrongs.l0]
      rw [if_pos (by omega), if_pos (by omega), hrd, if_pos (by omega), if_pos (by omega), hw, hw2, hx]
    · simp only [wrongB]
      by_cases hc : (st.getD x.f0.toNat false != x.f1) = true
      · simp only [hc, if_true]
        have := ih (i + 1) (n + 1) (by omega) (by omega)
        rwa [Nat.add_assoc] at this
      · simp only [hc, Bool.false_eq_true, if_false, Nat.zero_add]
        exact ih (i + 1) n (by omega) (by omega)
theorem wrongs_ev (parts : List S50) (swap : Int) (looks : List S61) (wrong : Int) (needs : List Int) (st : List Bool) (hl : looks.length ≤ 1000) (h : ∀ l, l ∈ looks → 0 ≤ l.f0 ∧ l.f0 < st.length) :
    Ev (fun K => swarfref04_Wrongs.f K parts swap looks wrong needs st) ((wrongB st looks : Nat) : Int) := by
  have := wrongs_l0 parts swap looks wrong needs st hl h looks.length 0 0 (by omega) (by omega)
  simpa [swarfref04_Wrongs.f] using this
structure CarGood (a1 a2 : Int) (parts : List S50) (swap : Int) (looks : List S61) (wrong : Int) (needs : List Int) (st : List Bool) : Prop where
  p : PartsOK parts st
  one : 1 ≤ parts.length
  few : (parts.length : Int) ≤ a1
  sw : 0 ≤ swap ∧ swap ≤ 8
  lk : ∀ l, l ∈ looks → 0 ≤ l.f0 ∧ l.f0 < parts.length
  ll : (looks.length : Int) ≤ a2
  wr : 0 ≤ wrong ∧ wrong ≤ 12 ∧ (wrongB st looks : Int) ≤ wrong
  nd : riseE 8 1 needs = 0
  nl : needs.length ≤ 3
abbrev CarT := List S50 × Int × List S61 × Int × List Int × List Bool × Int
def CarGoodT (a1 a2 : Int) (r : CarT) : Prop := CarGood a1 a2 r.1 r.2.1 r.2.2.1 r.2.2.2.1 r.2.2.2.2.1 r.2.2.2.2.2.1
theorem carOf_l3 {a1 a2 : Int} {parts : List S50} {swap : Int} {looks : List S61} {wrong : Int} {st : List Bool} (hg : CarGood a1 a2 parts swap looks wrong [] st) (d : Nat) :
    ∀ (i : Nat) (s : Int) (needs : List Int), i + d = 9 → riseE 8 1 needs = 0 → (∀ x, x ∈ needs → x < i) → needs.length ≤ 3 → Res (fun K => swarfkit_CarOf.l3 K st (i : Int) s parts swap looks wrong needs) (CarGoodT a1 a2) := by
  induction d with
  | zero =>
    intro i s needs hi hr hlt hlen
    refine Res.step (f := fun K => swarfkit_CarOf.j4 K st (i : Int) false s parts swap looks wrong needs) (fun K => ?_) ?_
    · simp only [swarfkit_CarOf.l3]
      rw [if_neg (by omega)]
    · refine Res.step (f := fun K => some (parts, swap, looks, wrong, needs, st, s)) (fun K => ?_) ?_
      · simp only [swarfkit_CarOf.j4]
        rw [if_neg (by decide)]
      · exact ⟨_, Ev.now _, ⟨hg.p, hg.one, hg.few, hg.sw, hg.lk, hg.ll, hg.wr, hr, hlen⟩⟩
  | succ d ih =>
    intro i s needs hi hr hlt hlen
    refine Res.step (f := fun K => swarfkit_CarOf.j4 K st (i : Int) (decide ((needs.length : Int) < 3)) s parts swap looks wrong needs) (fun K => ?_) ?_
    · simp only [swarfkit_CarOf.l3]
      rw [if_pos (by omega)]
    by_cases h3 : (needs.length : Int) < 3
    · obtain ⟨b, s', hb⟩ := often_ok s 1 5 (by decide) (by decide)
      have hw : wrap64 ((i : Int) + 1) = ((i + 1 : Nat) : Int) := by rw [wrap64_id (by omega) (by omega)]; omega
      refine Res.step (f := fun K => if b = true then swarfkit_CarOf.l3 K st ((i + 1 : Nat) : Int) s' parts swap looks wrong (needs ++ [(i : Int)]) else swarfkit_CarOf.l3 K st ((i + 1 : Nat) : Int) s' parts swap looks wrong needs) (fun K => ?_) ?_
      · have hl2 : needs.length < 17592186044416 := by omega
        simp only [swarfkit_CarOf.j4, decide_eq_true h3, if_true, hb, Option.bind_some, hl2, hw]
      · cases b with
        | true =>
          simp only [if_true]
          refine ih (i + 1) s' _ (by omega) (riseE_snoc hr hlt (by omega) (by omega)) (fun x hx => ?_) (by simp; omega)
          rcases List.mem_append.1 hx with hx | hx
          · have := hlt x hx; omega
          · have := List.mem_singleton.1 hx; omega
        | false =>
          simp only [Bool.false_eq_true, if_false]
          exact ih (i + 1) s' _ (by omega) hr (fun x hx => by have := hlt x hx; omega) hlen
    · refine Res.step (f := fun K => some (parts, swap, looks, wrong, needs, st, s)) (fun K => ?_) ?_
      · simp only [swarfkit_CarOf.j4]
        rw [if_neg (by simpa using h3)]
      · exact ⟨_, Ev.now _, ⟨hg.p, hg.one, hg.few, hg.sw, hg.lk, hg.ll, hg.wr, hr, hlen⟩⟩
end Go.Proofs.Ytkkmfcdikkiodaa.PC4
