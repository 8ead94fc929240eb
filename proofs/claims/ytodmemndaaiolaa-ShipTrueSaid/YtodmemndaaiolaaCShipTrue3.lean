/- Lemmas on the way to this: whatever truly is -/
import Derived.Test.YtodmemndaaiolaaCShipTrue1
import Derived.Test.YtodmemndaaiolaaCShipTrue2
import Derived.Outline
import Derived.RegionTactic
import Derived.BigRegion
import Derived.ChangeAlike
import Derived.Deep.DeepCutAuto
import Derived.Deep.CutRange
import Derived.RangeFuncNested
import Derived.RangeFuncBound
import Derived.RangeFuncCalls
import Derived.RangeFuncLeaves
import Derived.Shelf.Abstract
import Derived.Shelf.RegionOpen
import Derived.OwnWalkIn
import Derived.TacticsInMore
import Derived.LoopNIn
import Derived.LoopIn
import Derived.WalkMore
import Derived.Laws.CopyOwn
import Derived.Laws.MakeOwn
import Derived.Lib.SliceRun
import Derived.BigQuiet
import Derived.Deep.LoopGhost
import Derived.OrdersIn
import Derived.TacticsIn
import Derived.Sort.LoopGhostIn
import Derived.Sort.CutIn
namespace Go.Proofs.Ytodmemndaaiolaa.PC7
set_option linter.unusedVariables false
set_option linter.unusedSimpArgs false
open Go.RowKit Go.Proofs.YtodmemndaaiolaaW.PrintWords Go.Proofs.YtodmemndaaiolaaW.PrintLast Go.Proofs.YtodmemndaaiolaaW.PrintMore
def feedL (s : Int) : List S56 → Option (List Int × Int)
 | [] => some ([], s)
 | x :: r => (swarfkit_Feed_In.f s x.f0 x.f1).bind fun a => (feedL a.2 r).bind fun b => some (a.1 :: b.1, b.2)
def factS (s : Int) : List S59 → Option (List Int × List (List Int) × Int)
 | [] => some ([], [], s)
 | x :: r => (swarfkit_Feed_In.f s x.f0.f0 x.f0.f1).bind fun a => (feedL a.2 (x.f1.map (·.f1))).bind fun l => (factS l.2 r).bind fun b => some (a.1 :: b.1, l.1 :: b.2.1, b.2.2)
def swarflaw07_factOf.f (s0_0 : Int) (a1_0 : Int) (a1_1 : Int) (a1_2 : Int) (l1_3 : List (S85)) (a1_4 : Int) (l1_5 : List (S59)) (l1_6 : List (S79)) : Option (List Int × List Int × (List (List Int)) × Int) :=
 if copyOK l1_3 l1_5 l1_6 then (feedL s0_0 (l1_6.map (·.f0))).bind fun t => (factS t.2 l1_5).bind fun r => some (t.1, r.1, r.2.1, r.2.2) else none
theorem below_low {A W : World} {B : Nat} (h : Below A.heap.size A W) (hB : B ≤ A.heap.size) : Below B A W := ⟨h.os, h.tape, h.output, h.size, fun i hi => h.block i (by omega)⟩
theorem R_kb {α : Type} {d : Kd α} {e base g : Nat} {ok : Nat → Prop} {W W' : World} {v : Value} {xs : List α} (h : d.R e W base ok v xs) (hk : KeepBut W W' g none) (hg : g < base) : d.R e W' base ok v xs :=
 Kd.R_mono (Kd.R_step (Kd.R_bound h) (fun k hk' hlt => hk.2 k hlt (by have := hk'.2.1; omega) (by simp))) (fun _ h => h.1)
theorem S_kb {α : Type} {d : Kd α} {e base g : Nat} {ok : Nat → Prop} {W W' : World} {v : Value} {xs : List α} (h : d.S e W base ok v xs) (hk : KeepBut W W' g none) (hg : g < base) : d.S e W' base ok v xs :=
 Kd.S_mono (Kd.S_step (Kd.S_bound h) (fun k hk' hlt => hk.2 k hlt (by have := hk'.2.1; omega) (by simp))) (fun _ h => h.1)
theorem kb_trans {A B C : World} {g : Nat} (h : KeepBut A B g none) (k : KeepBut B C g none) : KeepBut A C g none := h.trans k (.inl rfl)
theorem kb_row {A B C : World} {g : Nat} {row : Option Nat} (h : KeepBut A B g none) (k : B.grownBy C row) (hr : ∀ b, row = some b → A.heap.size ≤ b) : KeepBut A C g none :=
 ⟨Nat.le_trans h.1 k.size, fun i hi hne _ => (k.block i (Nat.lt_of_lt_of_le hi h.1) (fun e => by have := hr i e.symm; omega)).trans (h.2 i hi hne (by simp))⟩
theorem kb_set {A B : World} {g b i : Nat} {v : Value} (h : KeepBut A B g none) (hb : A.heap.size ≤ b) : KeepBut A (B.setCell ⟨b, i, none⟩ v) g none :=
 ⟨by rw [World.size_setCell]; exact h.1, fun k hk hne _ => (Below.heap_setCell _ _ _ _ (by show k ≠ b; omega)).trans (h.2 k hk hne (by simp))⟩
theorem blk_kb {w w' : World} {g b : Nat} {o : Obj} (h : w.heap[b]? = some o) (hk : KeepBut w w' g none) (hne : b ≠ g) : w'.heap[b]? = some o := (hk.2 b (blk_lt h) hne (by simp)).trans h
theorem at79_all {w : World} {g : Nat} {A : Option Addr} {xs : List S79} (h : ∀ W, KeepBut w W g none → Kd.C k79 W A xs.length xs) (i : Nat) (hi : i < xs.length) :
  ∃ ad, A = some ad ∧ ∀ W, KeepBut w W g none → W.cell? (ad.add (i * 3)) = some (.int .i64 (rd_T79 xs (i : Int)).f0.f0) ∧ W.cell? ⟨(ad.add (i * 3)).block, (ad.add (i * 3)).off + 1, none⟩ = some (.int .i64 (rd_T79 xs (i : Int)).f0.f1) := by
 obtain ⟨ad, e, _⟩ := at_T79 (h w (KeepBut.refl _ _ _)) (i : Int) (by omega) (by omega)
 refine ⟨ad, e, fun W hW => ?_⟩
 obtain ⟨ad', e', h0, h1, _⟩ := at_T79 (h W hW) (i : Int) (by omega) (by omega)
 rw [e] at e'; cases e'
 rw [Int.toNat_natCast] at h0 h1
 exact ⟨h0, h1⟩
theorem at62_all {w : World} {g : Nat} {A : Option Addr} {xs : List S62} (h : ∀ W, KeepBut w W g none → Kd.C k62 W A xs.length xs) (i : Nat) (hi : i < xs.length) :
  ∃ ad, A = some ad ∧ ∀ W, KeepBut w W g none → W.cell? ⟨(ad.add (i * 3)).block, (ad.add (i * 3)).off + 1, none⟩ = some (.int .i64 (rd_T62 xs (i : Int)).f1.f0) ∧ W.cell? ⟨(ad.add (i * 3)).block, (ad.add (i * 3)).off + 2, none⟩ = some (.int .i64 (rd_T62 xs (i : Int)).f1.f1) := by
 obtain ⟨ad, e, _⟩ := at_T62 (h w (KeepBut.refl _ _ _)) (i : Int) (by omega) (by omega)
 refine ⟨ad, e, fun W hW => ?_⟩
 obtain ⟨ad', e', _, h0, h1⟩ := at_T62 (h W hW) (i : Int) (by omega) (by omega)
 rw [e] at e'; cases e'
 rw [Int.toNat_natCast] at h0 h1
 exact ⟨h0, h1⟩
theorem at59_all {w : World} {g : Nat} {A : Option Addr} {xs : List S59} (h : ∀ W, KeepBut w W g none → Kd.C k59 W A xs.length xs) (i : Nat) (hi : i < xs.length) :
  ∃ ad A2 c2, A = some ad ∧ (rd_T59 xs (i : Int)).f1.length ≤ c2 ∧ ∀ W, KeepBut w W g none → W.cell? (ad.add (i * 3)) = some (.int .i64 (rd_T59 xs (i : Int)).f0.f0) ∧ W.cell? ⟨(ad.add (i * 3)).block, (ad.add (i * 3)).off + 1, none⟩ = some (.int .i64 (rd_T59 xs (i : Int)).f0.f1) ∧
   W.cell? ⟨(ad.add (i * 3)).block, (ad.add (i * 3)).off + 2, none⟩ = some (.slice A2 (rd_T59 xs (i : Int)).f1.length c2) ∧ Kd.C k62 W A2 (rd_T59 xs (i : Int)).f1.length (rd_T59 xs (i : Int)).f1 := by
 obtain ⟨ad, A2, c2, e, _, _, h2, l2, _⟩ := at_T59 (h w (KeepBut.refl _ _ _)) (i : Int) (by omega) (by omega)
 rw [Int.toNat_natCast] at h2
 have hne : (ad.add (i * 3)).block ≠ g := fun eg => by
  have hK : KeepBut w { w with heap := w.heap.setIfInBounds g (.cells #[] 0 (0, 0)) } g none := ⟨by simp, fun k _ hk _ => by simp [Array.getElem?_setIfInBounds, Ne.symm hk]⟩
  obtain ⟨ad', _, _, e', h0, _⟩ := at_T59 (h _ hK) (i : Int) (by omega) (by omega)
  rw [e] at e'; cases e'
  rw [Int.toNat_natCast] at h0
  have hlt := World.block_lt_of_cell? _ _ h0
  rw [eg] at hlt
  simp only [World.cell?, eg] at h0
  simp [Array.getElem?_setIfInBounds] at h0 hlt
  simp [hlt] at h0
 refine ⟨ad, A2, c2, e, l2, fun W hW => ?_⟩
 obtain ⟨ad', A2', c2', e', k0, k1, k2, _, k3⟩ := at_T59 (h W hW) (i : Int) (by omega) (by omega)
 rw [e] at e'; cases e'
 rw [Int.toNat_natCast] at k0 k1 k2
 have e2 := keep_cell hW h2 hne
 rw [k2] at e2
 injection e2 with e2
 injection e2 with e2 _ e3
 subst e2; subst e3
 exact ⟨k0, k1, k2, k3⟩
set_option maxHeartbeats 8000000 in
set_option maxRecDepth 100000 in
theorem fact_calls (x : VoyV) (g : Nat) (s0 : Int) (r1 r2 : List Int) (r3 : List (List Int)) (r4 : Int) (w0 w : World) (hI : IsS90 w0 w g s0) (hB : Below w0.heap.size w0 w) (h3 : ∀ W, KeepBut w W g none → Kd.C k85 W x.A3 x.holds.length x.holds) (h5 : ∀ W, KeepBut w W g none → Kd.C k59 W x.A5 x.sills.length x.sills)
  (h6 : ∀ W, KeepBut w W g none → Kd.C k79 W x.A6 x.lots.length x.lots) (hc5 : x.sills.length ≤ x.c5) (hc6 : x.lots.length ≤ x.c6) (h : swarflaw07_factOf.f s0 x.light x.under x.trim x.holds x.leaves x.sills x.lots = some (r1, r2, r3, r4)) :
  Calls Try.prog 42 #[.pointer (some ⟨g, 0, none⟩), .agg #[.int .i64 x.light, .int .i64 x.under, .int .i64 x.trim, .slice x.A3 x.holds.length x.c3, .int .i64 x.leaves, .slice x.A5 x.sills.length x.c5, .slice x.A6 x.lots.length x.c6]] w fun e w' => ∃ v0_ v1_ v2_ : Value, e = .returned (.agg #[v0_, v1_, v2_]) ∧ Kd.R (Kd.int .i64) 3 w' w.heap.size (fun k_ => some k_ ≠ (v1_ : Value).ownBlock) v0_ r1 ∧ Kd.R (Kd.int .i64) 3 w' w.heap.size (fun k_ => some k_ ≠ (v0_ : Value).ownBlock) v1_ r2 ∧ Kd.S (Kd.slice 3 (Kd.int .i64)) 27 w' w.heap.size (fun k_ => some k_ ≠ (v0_ : Value).ownBlock ∧ some k_ ≠ (v1_ : Value).ownBlock) v2_ r3 ∧ IsS90 w0 w' g r4 ∧ Below w0.heap.size w0 w' ∧ KeepBut w w' g none := by
 have hu26 := Try.underlying26
 have hu72 := Try.underlying72
 have hu59 := Try.underlying59
 have hu56 := Try.underlying56
 unfold swarflaw07_factOf.f at h
 by_cases hn : copyOK x.holds x.sills x.lots
 case neg => rw [if_neg hn] at h; cases h
 rw [if_pos hn] at h
 obtain ⟨⟨t1, s1⟩, ht, h⟩ := Option.bind_eq_some_iff.1 h
 obtain ⟨⟨f2, f3, f4⟩, hf, h⟩ := Option.bind_eq_some_iff.1 h
 simp only [Option.some.injEq, Prod.mk.injEq] at h
 obtain ⟨rfl, rfl, rfl, rfl⟩ := h
 obtain ⟨hn1, hn2, hn3⟩ := hn
 have HL := Aside0.mk (SailLens.of hn3)
 have hsl : x.sills.length ≤ 100000 := HL.out.s
 have hgl : g < w.heap.size := hI.lt
 have hHI := hI
 have HFT := Aside0.mk ht
 have HFS := Aside0.mk hf
 have H5 := Aside0.mk h5
 have H6 := Aside0.mk h6
 obtain ⟨A5, hA5⟩ : ∃ A5, A5 = x.A5 := ⟨_, rfl⟩
 obtain ⟨A6, hA6⟩ : ∃ A6, A6 = x.A6 := ⟨_, rfl⟩
 rw [← hA5] at H5 ⊢
 rw [← hA6] at H6 ⊢
 have HI := Aside0.mk hI
 have HB := Aside0.mk hB
 clear hI hB h3 h5 h6 ht hf hn3 hA5 hA6 hHI
 go_enter Try.func42, Try.ntmps42
 go_upto_region 2 with (first
  | ((with_reducible refine gate_dst (N := 3) rfl ?_); refine box_event ?hg (N := 3) ?hd (cs := #[.int .i64 x.light, .int .i64 x.under, .int .i64 x.trim, .slice x.A3 x.holds.length x.c3, .int .i64 x.leaves, .slice A5 x.sills.length x.c5, .slice A6 x.lots.length x.c6]) (t := 26) ?hr ?_; (case hd => rfl); (case hg => rfl); (case hr => first | (go_simp; done) | (go_simp; rfl)); intro gb hg w2 hbox hb; have BK := Aside0.mk hbox; have GEb : Aside0 (w.heap.size ≤ gb) := ⟨by rw [hg]; exact Nat.le_refl _⟩; have KB := Aside0.mk (KeepBut.of_below hb g none); replace HI := Aside0.mk (IsS90.below HI.out hb); replace HB := Aside0.mk (below_step HB.out hb); clear hg hbox hb)
  | ((with_reducible refine gate_dst (N := 4) rfl ?_); refine box_event ?hg (N := 4) ?hd (cs := #[.slice none 0 0, .slice none 0 0, .slice none 0 0]) (t := 72) ?hr ?_; (case hd => rfl); (case hg => rfl); (case hr => first | (go_simp; done) | (go_simp; rfl)); intro ge hg w3 hbox hb; have BE := Aside0.mk hbox; replace BK := Aside0.mk (blk_below BK.out hb); have GEe : Aside0 (w.heap.size ≤ ge) := ⟨by rw [hg]; exact KB.out.1⟩; replace KB := Aside0.mk (kb_trans KB.out (KeepBut.of_below hb g none)); replace HI := Aside0.mk (IsS90.below HI.out hb); replace HB := Aside0.mk (below_step HB.out hb); clear hg hbox hb)
  | ((with_reducible refine gate_dst (N := 5) rfl ?_); refine box_event ?hg (N := 5) ?hd (cs := #[.slice none 0 0, .slice none 0 0, .slice none 0 0]) (t := 72) ?hr ?_; (case hd => rfl); (case hg => rfl); (case hr => first | (go_simp; done) | (go_simp; rfl)); intro gx hg w4 hbox hb; have BX := Aside0.mk hbox; have NEX : Aside0 (ge ≠ gx) := ⟨by have := blk_lt BE.out; omega⟩; replace BK := Aside0.mk (blk_below BK.out hb); replace BE := Aside0.mk (blk_below BE.out hb); have GEx : Aside0 (w.heap.size ≤ gx) := ⟨by rw [hg]; exact KB.out.1⟩; replace KB := Aside0.mk (kb_trans KB.out (KeepBut.of_below hb g none)); replace HI := Aside0.mk (IsS90.below HI.out hb); replace HB := Aside0.mk (below_step HB.out hb); clear hg hbox hb))
 have Gg : Aside0 (gb ≠ g ∧ ge ≠ g ∧ gx ≠ g) := ⟨by have := GEb.out; have := GEe.out; have := GEx.out; omega⟩
 have HW0 : Aside0 (w0.heap.size ≤ gx ∧ w0.heap.size ≤ ge ∧ w0.heap.size ≤ w.heap.size) := ⟨by have := HI.out.ge; have := GEx.out; have := GEe.out; omega⟩
 go_wp2
 go_loopg [6] x.lots.length (fun gk v6 wr => ∃ (k : Nat) (s : Int) (acc : List Int), k ≤ x.lots.length ∧ x.lots.length - k ≤ gk ∧ v6 = .int .i64 k ∧ Aside0 (acc.length = k) ∧ Aside0 (∃ rest, feedL s ((x.lots.drop k).map (·.f0)) = some (rest, s1) ∧ acc ++ rest = t1) ∧ Aside0 (IsS90 w0 wr g s) ∧ Aside0 (∃ A c, wr.heap[gx]? = some (.cells #[.slice A k c, .slice none 0 0, .slice none 0 0] 72 (0, 0)) ∧ Kd.R (Kd.int .i64) 3 wr w.heap.size (fun _ => True) (.slice A k c) acc) ∧ Aside0 (wr.heap[gb]? = some (.cells #[.int .i64 x.light, .int .i64 x.under, .int .i64 x.trim, .slice x.A3 x.holds.length x.c3, .int .i64 x.leaves, .slice A5 x.sills.length x.c5, .slice A6 x.lots.length x.c6] 26 (0, 0))) ∧ Aside0 (wr.heap[ge]? = some (.cells #[.slice none 0 0, .slice none 0 0, .slice none 0 0] 72 (0, 0))) ∧ Aside0 (KeepBut w wr g none) ∧ Aside0 (Below w0.heap.size w0 wr))
 case atStart => exact ⟨0, s0, [], by omega, by omega, rfl, ⟨rfl⟩, ⟨⟨t1, HFT.out, rfl⟩⟩, HI, ⟨⟨none, 0, BX.out, Kd.R_nil _ _ _ _ _⟩⟩, BK, BE, KB, HB⟩
 case round =>
  clear HI BX BK BE KB HB HFT
  obtain ⟨k, s, acc, hk, hgk, rfl, HLN, HF, HI, HXX, BK, BE, KB, HB⟩ := hrel
  obtain ⟨A0, c0, hbx_, hr0_⟩ := HXX.out
  have BX := Aside0.mk hbx_
  have R0 := Aside0.mk hr0_
  clear hbx_ hr0_ HXX
  by_cases hlt : k < x.lots.length
  ·
   have hlz : (k : Int) < (x.lots.length : Int) := by omega
   obtain ⟨ads, e, hE⟩ := at79_all H6.out k hlt
   cases e
   have EE := Aside0.mk hE
   clear hE
   have hdr := drop_cons_of x.lots k hlt z79
   have hrd : x.lots.getD k z79 = rd_T79 x.lots (k : Int) := rfl
   rw [hrd] at hdr
   obtain ⟨rest, hfe, hap⟩ := HF.out
   rw [hdr] at hfe
   clear hdr hrd HF
   generalize rd_T79 x.lots (k : Int) = sl at *
   simp only [List.map_cons, feedL] at hfe
   obtain ⟨⟨r, s'⟩, hin, hfe1⟩ := Option.bind_eq_some_iff.1 hfe
   obtain ⟨⟨rs, se⟩, hff, he⟩ := Option.bind_eq_some_iff.1 hfe1
   simp only [Option.some.injEq, Prod.mk.injEq] at he
   obtain ⟨he1, he2⟩ := he
   subst he1; subst he2
   have HIN := Aside0.mk hin
   have HF2 := Aside0.mk hff
   have HAP := Aside0.mk hap
   clear hin hff hfe1 hfe hap
   have hz0_ := (blk_cell BX.out 0).trans rfl
   have hz6_ := (blk_cell BK.out 6).trans rfl
   have h0 := (EE.out _ KB.out).1
   have h1 := (EE.out _ KB.out).2
   go_upto_region 5 with (fail)
   have hd_ := below_drew1 (Below.refl wr.heap.size wr)
   replace BX := Aside0.mk (blk_drew BX.out)
   replace BK := Aside0.mk (blk_drew BK.out)
   replace BE := Aside0.mk (blk_drew BE.out)
   replace R0 := Aside0.mk (Kd.R_drew R0.out)
   replace HI := Aside0.mk (IsS90.drew HI.out)
   replace KB := Aside0.mk (kb_trans KB.out (KeepBut.of_below hd_ g none))
   replace HB := Aside0.mk (below_step HB.out hd_)
   clear hd_
   refine start_ (n := 14) (S := fun w' => w'.cell? ⟨gx, 0, none⟩ = some (.slice A0 k c0) ∧ w'.cell? ⟨gb, 6, none⟩ = some (.slice (some ads) x.lots.length x.c6) ∧ w'.cell? (ads.add (k * 3)) = some (.int .i64 sl.f0.f0) ∧ w'.cell? ⟨(ads.add (k * 3)).block, (ads.add (k * 3)).off + 1, none⟩ = some (.int .i64 sl.f0.f1)) (ds := [11, 13]) #[false, false, false, false, false, false, false, false, false, false, false, false, false, false] (by kernel_rfl) rfl rfl ⟨hz0_, hz6_, h0, h1⟩ (fun hHeld => ?_)
   generalize wr.drew = wd at BX BK BE R0 HI KB HB hHeld ⊢
   refine pure_y 0 (some 18) (bz 14 1) ?_
   refine pure_y 2 (some 20) (bz 14 5) ?_
   refine pure_y 3 (some 21) (bz 14 13) ?_
   refine pure_y 5 (some 23) (bz 14 45) ?_
   refine take_ (i := 1) (N := some 19) (v := ?_) (a' := ?_) (bz 14 47) rfl rfl (by kernel_rfl) (fun _ _ _ h => h) (Or.inl ⟨by rfl, ?_⟩) hHeld ?_ ?_
   rotate_left; (rintro w' ⟨s0, s1, s2, s3⟩; go_simp; with_reducible rfl); rotate_left; (simp only [Act.put, put_x, i64_w, i32_w]; rfl)
   refine take_ (i := 4) (N := some 22) (v := ?_) (a' := ?_) (bz 14 63) rfl rfl (by kernel_rfl) (fun _ _ _ h => h) (Or.inl ⟨by rfl, ?_⟩) hHeld ?_ ?_
   rotate_left; (rintro w' ⟨s0, s1, s2, s3⟩; go_simp; with_reducible rfl); rotate_left; (simp only [Act.put, put_x, i64_w, i32_w]; rfl)
   refine pure_y 6 (some 24) (bz 14 127) ?_
   refine pure_y 7 (some 25) (bz 14 255) ?_
   refine take_ (i := 8) (N := some 26) (v := ?_) (a' := ?_) (bz 14 511) rfl rfl (by kernel_rfl) (fun _ _ _ h => h) (Or.inl ⟨by rfl, ?_⟩) hHeld ?_ ?_
   rotate_left; (rintro w' ⟨s0, s1, s2, s3⟩; go_simp; with_reducible rfl); rotate_left; (simp only [Act.put, put_x, i64_w, i32_w]; rfl)
   refine one_ (i := 9) (N := some 27) (bz 14 1023) rfl rfl (by kernel_rfl) (by decide) (fun K hK => ?_)
   refine goes_ Try.func77 (by kernel_rfl) rfl #[.pointer (some ⟨g, 0, none⟩), .agg #[.int .i64 sl.f0.f0, .int .i64 sl.f0.f1]] (by rfl) rfl rfl (by (try simp only [List.map_toArray, List.map_cons, List.map_nil]); first | done | rfl) ?_
   with_reducible refine (swarfkit_Feed_In.calls g s sl.f0.f0 sl.f0.f1 r s' w0 _ HI.out HB.out HIN.out).mono ?_
   rintro e w6 ⟨rfl, hi_, hb_, hk_⟩
   replace BX := Aside0.mk (blk_kb BX.out hk_ Gg.out.2.2)
   replace BK := Aside0.mk (blk_kb BK.out hk_ Gg.out.1)
   replace BE := Aside0.mk (blk_kb BE.out hk_ Gg.out.2.1)
   replace R0 := Aside0.mk (R_kb R0.out hk_ hgl)
   replace KB := Aside0.mk (kb_trans KB.out hk_)
   replace HI := Aside0.mk hi_
   replace HB := Aside0.mk hb_
   clear hi_ hb_ hk_
   refine ⟨_, rfl, ?_⟩
   refine hK.out _ _ ⟨(blk_cell BX.out 0).trans rfl, (blk_cell BK.out 6).trans rfl, (EE.out _ KB.out).1, (EE.out _ KB.out).2⟩ (fun hHeld => ?_)
   clear hK K
   refine norm_ (a' := ?_) ?_ ?_; rotate_left; (show Act.put _ (some 27) _ = _; simp only [Act.put, put_x, i64_w, i32_w]; rfl)
   refine one_ (i := 10) (N := some 28) (bz 14 2047) rfl rfl (by kernel_rfl) (by decide) (fun K hK => ?_)
   refine value_ (w1 := ?_) (v := ?_) (by rfl) rfl ?_ ?_
   rotate_left 2
   ·
    (go_simp; constructor <;> rfl)
   refine hK.out _ _ ⟨(blk_cell (blk_below BX.out (below_alloc (Below.refl _ _) _)) 0).trans rfl, (blk_cell (blk_below BK.out (below_alloc (Below.refl _ _) _)) 6).trans rfl, (EE.out _ (kb_trans KB.out (KeepBut.of_below (below_alloc (Below.refl _ _) _) g none))).1, (EE.out _ (kb_trans KB.out (KeepBut.of_below (below_alloc (Below.refl _ _) _) g none))).2⟩ (fun hHeld => ?_)
   clear hK K
   refine norm_ (a' := ?_) ?_ ?_; rotate_left; (show Act.put _ (some 28) _ = _; simp only [Act.put, put_x, i64_w, i32_w]; rfl)
   refine last_ (i := 11) (N := some 29) (bz 14 4095) rfl rfl (by kernel_rfl) (by decide) (fun K hK => ?_)
   refine Kd.R_append_step (Kd.int .i64) (w0 := w6) w.heap.size (by rfl) (.tmp 19) (.tmp 28) 27 3 (.int .i64 0) 8 rfl Try.underlying27 info3 rfl (by decide) (by omega) (.slice A0 k c0) acc r [.int .i64 r] (fun _ => True) (fun _ => False) rfl rfl ?aP (fun _ hk => hk.elim) ?aF ?aO ?aB ?aS ?aL ?_
   (case aP => rfl)
   (case aF => exact (fun _ _ => trivial))
   (case aO => exact R0.out)
   (case aB => exact below_low (Below.refl _ _) KB.out.1)
   (case aS => exact KB.out.1)
   (case aL => have := HLN.out; omega)
   intro v29 w7 ho_ hb_ hg_ hat_
   obtain ⟨A7, c7, hv_⟩ := Kd.R_slice ho_
   rw [List.length_append, HLN.out, List.length_singleton] at hv_
   subst hv_
   have R7 := Aside0.mk ho_
   replace KB := Aside0.mk (kb_row KB.out hg_ (fun b e_ => Kd.R_base R0.out b e_))
   replace BX := Aside0.mk (blk_grown BX.out hg_ (Kd.R_ne R0.out BX.out (by decide)))
   replace BK := Aside0.mk (blk_grown BK.out hg_ (Kd.R_ne R0.out BK.out (by decide)))
   replace BE := Aside0.mk (blk_grown BE.out hg_ (Kd.R_ne R0.out BE.out (by decide)))
   replace HI := Aside0.mk (IsS90.grown HI.out hg_ (IsS90.own_ne HI.out R0.out (by decide)))
   replace HB := Aside0.mk (HB.out.grown hg_ HB.out.size (fun b e_ => Nat.le_trans HW0.out.2.2 (Kd.R_base R0.out b e_)))
   clear ho_ hb_ hg_ hat_ R0
   refine hK.out _ _ ?_
   clear hK K
   refine norm_ (a' := ?_) ?_ ?_; rotate_left; (show Act.put _ (some 29) _ = _; simp only [Act.put, put_x, i64_w, i32_w]; rfl)
   refine pure_y 12 (some 30) (bz 14 8191) ?_
   refine last_ (i := 13) (N := none) (bz 14 16383) rfl rfl (by kernel_rfl) (by decide) (fun K hK => ?_)
   have hy0_ := (blk_cell BX.out 0).trans rfl
   have hf_ := blk_frozen BX.out
   refine skip_ (w1 := ?_) (by rfl) rfl ?_ ?_; rotate_left; (go_simp; rfl)
   clear hy0_ hf_
   refine hK.out _ _ ?_
   clear hK K
   refine done_ (by kernel_rfl) ?_
   clear hHeld hz0_ hz6_ h0 h1
   have BX2 := Aside0.mk (blk_put (cs' := #[.slice A7 (k + 1) c7, .slice none 0 0, .slice none 0 0]) BX.out 0 (.slice A7 (k + 1) c7) rfl)
   replace BK := Aside0.mk (blk_far BK.out (p := ⟨gx, 0, none⟩) (blk_ne_ BK.out BX.out (by decide)) (.slice A7 (k + 1) c7))
   replace BE := Aside0.mk (blk_far BE.out (p := ⟨gx, 0, none⟩) NEX.out (.slice A7 (k + 1) c7))
   replace R7 := Aside0.mk (Kd.R_set R7.out BX.out (by decide) 0 (.slice A7 (k + 1) c7))
   replace HI := Aside0.mk (IsS90.far HI.out (p := ⟨gx, 0, none⟩) Gg.out.2.2.symm (.slice A7 (k + 1) c7))
   replace KB := Aside0.mk (kb_set KB.out GEx.out (i := 0) (v := .slice A7 (k + 1) c7))
   replace HB := Aside0.mk (below_set HB.out HW0.out.1 (j := 0) (v := .slice A7 (k + 1) c7))
   generalize hW_ : w7.setCell ⟨gx, 0, none⟩ (.slice A7 (k + 1) c7) = w8 at *
   clear hW_ BX
   go_wp2
   go_roundg (x.lots.length - (k + 1))
   case measure => omega
   case rel => exact ⟨k + 1, s', acc ++ [r], by omega, by omega, by go_num, ⟨by rw [List.length_append, HLN.out]; rfl⟩, ⟨⟨rs, HF2.out, by rw [List.append_assoc]; exact HAP.out⟩⟩, HI, ⟨⟨A7, c7, BX2.out, R7.out⟩⟩, BK, BE, KB, HB⟩
  ·
   have : k = x.lots.length := by omega
   subst this
   obtain ⟨rest, hfe, hap⟩ := HF.out
   rw [List.drop_length] at hfe
   simp only [List.map_nil, feedL, Option.some.injEq, Prod.mk.injEq] at hfe
   obtain ⟨he1, he2⟩ := hfe
   subst he1; subst he2
   rw [List.append_nil] at hap
   subst hap
   clear HF
   have hz6_ := (blk_cell BK.out 6).trans rfl
   go_wp2
   clear hz6_
   obtain ⟨N1, hN1⟩ : ∃ n, n = wr.heap.size := ⟨_, rfl⟩
   have R0b := Aside0.mk (show Kd.R (Kd.int .i64) 3 wr w.heap.size (fun k => k < N1) (.slice A0 x.lots.length c0) acc from by rw [hN1]; exact Kd.R_mono (Kd.R_bound R0.out) (fun _ h => h.2.2.1))
   have hwN : w.heap.size ≤ N1 := by rw [hN1]; exact KB.out.1
   have NE1 : Aside0 (N1 ≤ wr.heap.size) := ⟨by omega⟩
   clear hN1 R0 HLN
   go_loopg [7] x.sills.length (fun gk v7 wr => ∃ (k : Nat) (s : Int) (acc1 : List Int) (acc2 : List (List Int)), k ≤ x.sills.length ∧ x.sills.length - k ≤ gk ∧ v7 = .int .i64 k ∧ Aside0 (acc1.length = k ∧ acc2.length = k) ∧ Aside0 (∃ ra rb, factS s (x.sills.drop k) = some (ra, rb, f4) ∧ acc1 ++ ra = f2 ∧ acc2 ++ rb = f3) ∧ Aside0 (IsS90 w0 wr g s) ∧ Aside0 (∃ A1 c1 A2 c2, wr.heap[gx]? = some (.cells #[.slice A0 x.lots.length c0, .slice A1 k c1, .slice A2 k c2] 72 (0, 0)) ∧ Kd.R (Kd.int .i64) 3 wr N1 (fun _ => True) (.slice A1 k c1) acc1 ∧ Kd.S (Kd.slice 3 (Kd.int .i64)) 27 wr N1 (fun k_ => True ∧ some k_ ≠ (.slice A1 k c1 : Value).ownBlock) (.slice A2 k c2) acc2) ∧ Aside0 (Kd.R (Kd.int .i64) 3 wr w.heap.size (fun k => k < N1) (.slice A0 x.lots.length c0) acc) ∧ Aside0 (N1 ≤ wr.heap.size) ∧ Aside0 (wr.heap[gb]? = some (.cells #[.int .i64 x.light, .int .i64 x.under, .int .i64 x.trim, .slice x.A3 x.holds.length x.c3, .int .i64 x.leaves, .slice A5 x.sills.length x.c5, .slice A6 x.lots.length x.c6] 26 (0, 0))) ∧ Aside0 (wr.heap[ge]? = some (.cells #[.slice none 0 0, .slice none 0 0, .slice none 0 0] 72 (0, 0))) ∧ Aside0 (KeepBut w wr g none) ∧ Aside0 (Below w0.heap.size w0 wr))
   case atStart => exact ⟨0, s, [], [], by omega, by omega, rfl, ⟨⟨rfl, rfl⟩⟩, ⟨⟨f2, f3, HFS.out, rfl, rfl⟩⟩, HI, ⟨⟨none, 0, none, 0, BX.out, Kd.R_nil _ _ _ _ _, Kd.S_nil _ _ _ _ _⟩⟩, R0b, NE1, BK, BE, KB, HB⟩
   case round =>
    clear HI BX BK BE KB HB HFS R0b NE1
    obtain ⟨k, s, acc1, acc2, hk, hgk, rfl, HLN, HF, HI, HXX, R0b, NE1, BK, BE, KB, HB⟩ := hrel
    obtain ⟨A1, c1, A2, c2, hbx_, hr1_, hs2_⟩ := HXX.out
    have BX := Aside0.mk hbx_
    have R1 := Aside0.mk hr1_
    have S2 := Aside0.mk hs2_
    clear hbx_ hr1_ hs2_ HXX
    by_cases hlt : k < x.sills.length
    ·
     have hlz : (k : Int) < (x.sills.length : Int) := by omega
     obtain ⟨ads, AL, cL, e, hlL, hE⟩ := at59_all H5.out k hlt
     cases e
     have EE := Aside0.mk hE
     clear hE
     have hlen := HL.out.l k hlt
     have hdr := drop_cons_of x.sills k hlt z59
     have hrd : x.sills.getD k z59 = rd_T59 x.sills (k : Int) := rfl
     rw [hrd] at hdr hlen
     obtain ⟨ra, rb, hfe, hap1, hap2⟩ := HF.out
     rw [hdr] at hfe
     clear hdr hrd HF
     generalize rd_T59 x.sills (k : Int) = sl at *
     simp only [factS] at hfe
     obtain ⟨⟨r, s'⟩, hin, hfe1⟩ := Option.bind_eq_some_iff.1 hfe
     obtain ⟨⟨lv, s''⟩, hfl, hfe2⟩ := Option.bind_eq_some_iff.1 hfe1
     obtain ⟨⟨ra', rb', se⟩, hff, he⟩ := Option.bind_eq_some_iff.1 hfe2
     simp only [Option.some.injEq, Prod.mk.injEq] at he
     obtain ⟨he1, he2, he3⟩ := he
     subst he1; subst he2; subst he3
     have HIN := Aside0.mk hin
     have HFL := Aside0.mk hfl
     have HF2 := Aside0.mk hff
     have HAP1 := Aside0.mk hap1
     have HAP2 := Aside0.mk hap2
     clear hin hfl hff hfe2 hfe1 hfe hap1 hap2
     have hz5_ := (blk_cell BK.out 5).trans rfl
     have h0 := (EE.out _ KB.out).1
     have h1 := (EE.out _ KB.out).2.1
     have h2 := (EE.out _ KB.out).2.2.1
     go_upto_region 10 with (first
      | ((with_reducible refine gate_dst (N := 8) rfl ?_); refine box_event ?hg (N := 8) ?hd (cs := #[.int .i64 0, .int .i64 0, .slice none 0 0]) (t := 59) ?hr ?_; (case hd => rfl); (case hg => rfl); (case hr => first | (go_simp; done) | (go_simp; rfl)); intro gs hg w5 hbox hb; have BS0 := Aside0.mk hbox; have GEs : Aside0 (w.heap.size ≤ gs) := ⟨by rw [hg]; exact KB.out.1⟩; have NSX : Aside0 (gx ≠ gs ∧ gb ≠ gs ∧ ge ≠ gs ∧ gs ≠ g) := ⟨by have := blk_lt BX.out; have := blk_lt BK.out; have := blk_lt BE.out; have := HI.out.lt; omega⟩; replace BX := Aside0.mk (blk_below BX.out hb); replace BK := Aside0.mk (blk_below BK.out hb); replace BE := Aside0.mk (blk_below BE.out hb); replace R0b := Aside0.mk (Kd.R_below R0b.out hb); replace R1 := Aside0.mk (Kd.R_below R1.out hb); replace S2 := Aside0.mk (Kd.S_below S2.out hb); replace NE1 := Aside0.mk (Nat.le_trans NE1.out hb.size); replace KB := Aside0.mk (kb_trans KB.out (KeepBut.of_below hb g none)); replace HI := Aside0.mk (IsS90.below HI.out hb); replace HB := Aside0.mk (below_step HB.out hb); have hq0_ := (blk_cell BS0.out 0).trans rfl; have hq1_ := (blk_cell BS0.out 1).trans rfl; have hq2_ := (blk_cell BS0.out 2).trans rfl; have hqf_ := blk_frozen BS0.out; clear hz5_ h0 h1 h2; clear hg hbox hb))
     have BS1 := Aside0.mk (blk_put (cs' := #[.int .i64 sl.f0.f0, .int .i64 0, .slice none 0 0]) BS0.out 0 (.int .i64 sl.f0.f0) rfl)
     replace BX := Aside0.mk (blk_far BX.out (p := ⟨gs, 0, none⟩) NSX.out.1 (.int .i64 sl.f0.f0))
     replace BK := Aside0.mk (blk_far BK.out (p := ⟨gs, 0, none⟩) NSX.out.2.1 (.int .i64 sl.f0.f0))
     replace BE := Aside0.mk (blk_far BE.out (p := ⟨gs, 0, none⟩) NSX.out.2.2.1 (.int .i64 sl.f0.f0))
     replace R0b := Aside0.mk (Kd.R_set R0b.out BS0.out (by decide) 0 (.int .i64 sl.f0.f0))
     replace R1 := Aside0.mk (Kd.R_set R1.out BS0.out (by decide) 0 (.int .i64 sl.f0.f0))
     replace S2 := Aside0.mk (Kd.S_set S2.out BS0.out (by decide) 0 (.int .i64 sl.f0.f0))
     replace HI := Aside0.mk (IsS90.far HI.out (p := ⟨gs, 0, none⟩) NSX.out.2.2.2.symm (.int .i64 sl.f0.f0))
     replace KB := Aside0.mk (kb_set KB.out GEs.out (i := 0) (v := .int .i64 sl.f0.f0))
     replace HB := Aside0.mk (below_set HB.out (Nat.le_trans HW0.out.2.2 GEs.out) (j := 0) (v := .int .i64 sl.f0.f0))
     replace NE1 : Aside0 (N1 ≤ (w5.setCell ⟨gs, 0, none⟩ (.int .i64 sl.f0.f0)).heap.size) := ⟨by rw [World.size_setCell]; exact NE1.out⟩
     have BS2 := Aside0.mk (blk_put (cs' := #[.int .i64 sl.f0.f0, .int .i64 sl.f0.f1, .slice none 0 0]) BS1.out 1 (.int .i64 sl.f0.f1) rfl)
     replace BX := Aside0.mk (blk_far BX.out (p := ⟨gs, 1, none⟩) NSX.out.1 (.int .i64 sl.f0.f1))
     replace BK := Aside0.mk (blk_far BK.out (p := ⟨gs, 1, none⟩) NSX.out.2.1 (.int .i64 sl.f0.f1))
     replace BE := Aside0.mk (blk_far BE.out (p := ⟨gs, 1, none⟩) NSX.out.2.2.1 (.int .i64 sl.f0.f1))
     replace R0b := Aside0.mk (Kd.R_set R0b.out BS1.out (by decide) 1 (.int .i64 sl.f0.f1))
     replace R1 := Aside0.mk (Kd.R_set R1.out BS1.out (by decide) 1 (.int .i64 sl.f0.f1))
     replace S2 := Aside0.mk (Kd.S_set S2.out BS1.out (by decide) 1 (.int .i64 sl.f0.f1))
     replace HI := Aside0.mk (IsS90.far HI.out (p := ⟨gs, 1, none⟩) NSX.out.2.2.2.symm (.int .i64 sl.f0.f1))
     replace KB := Aside0.mk (kb_set KB.out GEs.out (i := 1) (v := .int .i64 sl.f0.f1))
     replace HB := Aside0.mk (below_set HB.out (Nat.le_trans HW0.out.2.2 GEs.out) (j := 1) (v := .int .i64 sl.f0.f1))
     replace NE1 : Aside0 (N1 ≤ ((w5.setCell ⟨gs, 0, none⟩ (.int .i64 sl.f0.f0)).setCell ⟨gs, 1, none⟩ (.int .i64 sl.f0.f1)).heap.size) := ⟨by rw [World.size_setCell]; exact NE1.out⟩
     have BS3 := Aside0.mk (blk_put (cs' := #[.int .i64 sl.f0.f0, .int .i64 sl.f0.f1, .slice AL sl.f1.length cL]) BS2.out 2 (.slice AL sl.f1.length cL) rfl)
     replace BX := Aside0.mk (blk_far BX.out (p := ⟨gs, 2, none⟩) NSX.out.1 (.slice AL sl.f1.length cL))
     replace BK := Aside0.mk (blk_far BK.out (p := ⟨gs, 2, none⟩) NSX.out.2.1 (.slice AL sl.f1.length cL))
     replace BE := Aside0.mk (blk_far BE.out (p := ⟨gs, 2, none⟩) NSX.out.2.2.1 (.slice AL sl.f1.length cL))
     replace R0b := Aside0.mk (Kd.R_set R0b.out BS2.out (by decide) 2 (.slice AL sl.f1.length cL))
     replace R1 := Aside0.mk (Kd.R_set R1.out BS2.out (by decide) 2 (.slice AL sl.f1.length cL))
     replace S2 := Aside0.mk (Kd.S_set S2.out BS2.out (by decide) 2 (.slice AL sl.f1.length cL))
     replace HI := Aside0.mk (IsS90.far HI.out (p := ⟨gs, 2, none⟩) NSX.out.2.2.2.symm (.slice AL sl.f1.length cL))
     replace KB := Aside0.mk (kb_set KB.out GEs.out (i := 2) (v := .slice AL sl.f1.length cL))
     replace HB := Aside0.mk (below_set HB.out (Nat.le_trans HW0.out.2.2 GEs.out) (j := 2) (v := .slice AL sl.f1.length cL))
     replace NE1 : Aside0 (N1 ≤ (((w5.setCell ⟨gs, 0, none⟩ (.int .i64 sl.f0.f0)).setCell ⟨gs, 1, none⟩ (.int .i64 sl.f0.f1)).setCell ⟨gs, 2, none⟩ (.slice AL sl.f1.length cL)).heap.size) := ⟨by rw [World.size_setCell]; exact NE1.out⟩
     generalize hW_ : ((w5.setCell ⟨gs, 0, none⟩ (.int .i64 sl.f0.f0)).setCell ⟨gs, 1, none⟩ (.int .i64 sl.f0.f1)).setCell ⟨gs, 2, none⟩ (.slice AL sl.f1.length cL) = w6 at *
     clear hW_ hq0_ hq1_ hq2_ hqf_ BS0 BS1 BS2
     have BS := BS3
     clear BS3
     have hz0_ := (blk_cell BX.out 1).trans rfl
     have h0 := (blk_cell BS.out 0).trans rfl
     have h1 := (blk_cell BS.out 1).trans rfl
     have hd_ := below_drew1 (Below.refl w6.heap.size w6)
     replace BX := Aside0.mk (blk_drew BX.out)
     replace BS := Aside0.mk (blk_drew BS.out)
     replace BK := Aside0.mk (blk_drew BK.out)
     replace BE := Aside0.mk (blk_drew BE.out)
     replace R0b := Aside0.mk (Kd.R_drew R0b.out)
     replace R1 := Aside0.mk (Kd.R_drew R1.out)
     replace S2 := Aside0.mk (Kd.S_drew S2.out)
     replace HI := Aside0.mk (IsS90.drew HI.out)
     replace KB := Aside0.mk (kb_trans KB.out (KeepBut.of_below hd_ g none))
     replace HB := Aside0.mk (below_step HB.out hd_)
     replace NE1 : Aside0 (N1 ≤ w6.drew.heap.size) := NE1
     clear hd_
     refine start_ (n := 10) (S := fun w' => w'.cell? ⟨gx, 1, none⟩ = some (.slice A1 k c1) ∧ w'.cell? ⟨gs, 0, none⟩ = some (.int .i64 sl.f0.f0) ∧ w'.cell? ⟨gs, 1, none⟩ = some (.int .i64 sl.f0.f1)) (ds := [7, 9]) #[false, false, false, false, false, false, false, false, false, false] (by kernel_rfl) rfl rfl ⟨hz0_, h0, h1⟩ (fun hHeld => ?_)
     generalize w6.drew = wd at BX BS BK BE R0b R1 S2 HI KB HB NE1 hHeld ⊢
     refine pure_y 0 (some 43) (bz 10 1) ?_
     refine pure_y 2 (some 45) (bz 10 5) ?_
     refine pure_y 3 (some 46) (bz 10 13) ?_
     refine take_ (i := 1) (N := some 44) (v := ?_) (a' := ?_) (bz 10 15) rfl rfl (by kernel_rfl) (fun _ _ _ h => h) (Or.inl ⟨by rfl, ?_⟩) hHeld ?_ ?_
     rotate_left; (rintro w' ⟨s0, s1, s2⟩; go_simp; with_reducible rfl); rotate_left; (simp only [Act.put, put_x, i64_w, i32_w]; rfl)
     refine take_ (i := 4) (N := some 47) (v := ?_) (a' := ?_) (bz 10 31) rfl rfl (by kernel_rfl) (fun _ _ _ h => h) (Or.inl ⟨by rfl, ?_⟩) hHeld ?_ ?_
     rotate_left; (rintro w' ⟨s0, s1, s2⟩; go_simp; with_reducible rfl); rotate_left; (simp only [Act.put, put_x, i64_w, i32_w]; rfl)
     refine one_ (i := 5) (N := some 48) (bz 10 63) rfl rfl (by kernel_rfl) (by decide) (fun K hK => ?_)
     refine goes_ Try.func77 (by kernel_rfl) rfl #[.pointer (some ⟨g, 0, none⟩), .agg #[.int .i64 sl.f0.f0, .int .i64 sl.f0.f1]] (by rfl) rfl rfl (by (try simp only [List.map_toArray, List.map_cons, List.map_nil]); first | done | rfl) ?_
     with_reducible refine (swarfkit_Feed_In.calls g s sl.f0.f0 sl.f0.f1 r s' w0 _ HI.out HB.out HIN.out).mono ?_
     rintro e w7 ⟨rfl, hi_, hb_, hk_⟩
     replace BX := Aside0.mk (blk_kb BX.out hk_ Gg.out.2.2)
     replace BS := Aside0.mk (blk_kb BS.out hk_ NSX.out.2.2.2)
     replace BK := Aside0.mk (blk_kb BK.out hk_ Gg.out.1)
     replace BE := Aside0.mk (blk_kb BE.out hk_ Gg.out.2.1)
     replace R0b := Aside0.mk (R_kb R0b.out hk_ hgl)
     replace R1 := Aside0.mk (R_kb R1.out hk_ (Nat.lt_of_lt_of_le hgl hwN))
     replace S2 := Aside0.mk (S_kb S2.out hk_ (Nat.lt_of_lt_of_le hgl hwN))
     replace KB := Aside0.mk (kb_trans KB.out hk_)
     replace NE1 := Aside0.mk (Nat.le_trans NE1.out hk_.1)
     replace HI := Aside0.mk hi_
     replace HB := Aside0.mk hb_
     clear hi_ hb_ hk_
     refine ⟨_, rfl, ?_⟩
     refine hK.out _ _ ⟨(blk_cell BX.out 1).trans rfl, (blk_cell BS.out 0).trans rfl, (blk_cell BS.out 1).trans rfl⟩ (fun hHeld => ?_)
     clear hK K
     refine norm_ (a' := ?_) ?_ ?_; rotate_left; (show Act.put _ (some 48) _ = _; simp only [Act.put, put_x, i64_w, i32_w]; rfl)
     refine one_ (i := 6) (N := some 49) (bz 10 127) rfl rfl (by kernel_rfl) (by decide) (fun K hK => ?_)
     refine value_ (w1 := ?_) (v := ?_) (by rfl) rfl ?_ ?_
     rotate_left 2
     ·
      (go_simp; constructor <;> rfl)
     refine hK.out _ _ ⟨(blk_cell (blk_below BX.out (below_alloc (Below.refl _ _) _)) 1).trans rfl, (blk_cell (blk_below BS.out (below_alloc (Below.refl _ _) _)) 0).trans rfl, (blk_cell (blk_below BS.out (below_alloc (Below.refl _ _) _)) 1).trans rfl⟩ (fun hHeld => ?_)
     clear hK K
     refine norm_ (a' := ?_) ?_ ?_; rotate_left; (show Act.put _ (some 49) _ = _; simp only [Act.put, put_x, i64_w, i32_w]; rfl)
     refine last_ (i := 7) (N := some 50) (bz 10 255) rfl rfl (by kernel_rfl) (by decide) (fun K hK => ?_)
     refine Kd.R_append_step (Kd.int .i64) (w0 := w7) N1 (by rfl) (.tmp 44) (.tmp 49) 27 3 (.int .i64 0) 8 rfl Try.underlying27 info3 rfl (by decide) (by omega) (.slice A1 k c1) acc1 r [.int .i64 r] (fun _ => True) (fun _ => False) rfl rfl ?aP (fun _ hk => hk.elim) ?aF ?aO ?aB ?aS ?aL ?_
     (case aP => rfl)
     (case aF => exact (fun _ _ => trivial))
     (case aO => exact R1.out)
     (case aB => exact below_low (Below.refl _ _) NE1.out)
     (case aS => exact NE1.out)
     (case aL => have := HLN.out.1; omega)
     intro v50 w8 ho_ hb_ hg_ hat_
     replace S2 := Aside0.mk (Kd.S_after S2.out hg_ hat_)
     obtain ⟨A7, c7, hv_⟩ := Kd.R_slice ho_
     rw [List.length_append, HLN.out.1, List.length_singleton] at hv_
     subst hv_
     have R7 := Aside0.mk ho_
     replace KB := Aside0.mk (kb_row KB.out hg_ (fun b e_ => Nat.le_trans hwN (Kd.R_base R1.out b e_)))
     replace R0b := Aside0.mk (Kd.R_grown R0b.out hg_ (fun k_ hk_ e_ => by have := Kd.R_base R1.out k_ e_.symm; omega))
     replace BX := Aside0.mk (blk_grown BX.out hg_ (Kd.R_ne R1.out BX.out (by decide)))
     replace BS := Aside0.mk (blk_grown BS.out hg_ (Kd.R_ne R1.out BS.out (by decide)))
     replace BK := Aside0.mk (blk_grown BK.out hg_ (Kd.R_ne R1.out BK.out (by decide)))
     replace BE := Aside0.mk (blk_grown BE.out hg_ (Kd.R_ne R1.out BE.out (by decide)))
     replace HI := Aside0.mk (IsS90.grown HI.out hg_ (IsS90.own_ne HI.out R1.out (by decide)))
     replace HB := Aside0.mk (HB.out.grown hg_ HB.out.size (fun b e_ => Nat.le_trans (Nat.le_trans HW0.out.2.2 hwN) (Kd.R_base R1.out b e_)))
     replace NE1 := Aside0.mk (Nat.le_trans NE1.out hg_.size)
     clear ho_ hb_ hg_ hat_ R1
     refine hK.out _ _ ?_
     clear hK K
     refine norm_ (a' := ?_) ?_ ?_; rotate_left; (show Act.put _ (some 50) _ = _; simp only [Act.put, put_x, i64_w, i32_w]; rfl)
     refine pure_y 8 (some 51) (bz 10 511) ?_
     refine last_ (i := 9) (N := none) (bz 10 1023) rfl rfl (by kernel_rfl) (by decide) (fun K hK => ?_)
     have hy0_ := (blk_cell BX.out 1).trans rfl
     have hf_ := blk_frozen BX.out
     refine skip_ (w1 := ?_) (by rfl) rfl ?_ ?_; rotate_left; (go_simp; rfl)
     clear hy0_ hf_
     refine hK.out _ _ ?_
     clear hK K
     refine done_ (by kernel_rfl) ?_
     clear hHeld hz0_ h0 h1
     have BX2 := Aside0.mk (blk_put (cs' := #[.slice A0 x.lots.length c0, .slice A7 (k + 1) c7, .slice A2 k c2]) BX.out 1 (.slice A7 (k + 1) c7) rfl)
     replace BS := Aside0.mk (blk_far BS.out (p := ⟨gx, 1, none⟩) NSX.out.1.symm (.slice A7 (k + 1) c7))
     replace BK := Aside0.mk (blk_far BK.out (p := ⟨gx, 1, none⟩) (blk_ne_ BK.out BX.out (by decide)) (.slice A7 (k + 1) c7))
     replace BE := Aside0.mk (blk_far BE.out (p := ⟨gx, 1, none⟩) NEX.out (.slice A7 (k + 1) c7))
     replace R0b := Aside0.mk (Kd.R_set R0b.out BX.out (by decide) 1 (.slice A7 (k + 1) c7))
     replace R7 := Aside0.mk (Kd.R_set R7.out BX.out (by decide) 1 (.slice A7 (k + 1) c7))
     replace S2 := Aside0.mk (Kd.S_set S2.out BX.out (by decide) 1 (.slice A7 (k + 1) c7))
     replace HI := Aside0.mk (IsS90.far HI.out (p := ⟨gx, 1, none⟩) Gg.out.2.2.symm (.slice A7 (k + 1) c7))
     replace KB := Aside0.mk (kb_set KB.out GEx.out (i := 1) (v := .slice A7 (k + 1) c7))
     replace HB := Aside0.mk (below_set HB.out HW0.out.1 (j := 1) (v := .slice A7 (k + 1) c7))
     replace NE1 : Aside0 (N1 ≤ (w8.setCell ⟨gx, 1, none⟩ (.slice A7 (k + 1) c7)).heap.size) := ⟨by rw [World.size_setCell]; exact NE1.out⟩
     generalize hW_ : w8.setCell ⟨gx, 1, none⟩ (.slice A7 (k + 1) c7) = w9 at *
     clear hW_ BX
     have BX := BX2
     clear BX2
     go_wp2
     obtain ⟨N3, hN3⟩ : ∃ n, n = w9.heap.size := ⟨_, rfl⟩
     have R1c := Aside0.mk (show Kd.R (Kd.int .i64) 3 w9 N1 (fun k => k < N3) (.slice A7 (k + 1) c7) (acc1 ++ [r]) from by rw [hN3]; exact Kd.R_mono (Kd.R_bound R7.out) (fun _ h => h.2.2.1))
     have S2c := Aside0.mk (show Kd.S (Kd.slice 3 (Kd.int .i64)) 27 w9 N1 (fun k_ => (True ∧ some k_ ≠ (.slice A7 (k + 1) c7 : Value).ownBlock) ∧ k_ < N3) (.slice A2 k c2) acc2 from by rw [hN3]; exact Kd.S_mono (Kd.S_bound S2.out) (fun _ h => ⟨h.1, h.2.2.1⟩))
     have hN13 : N1 ≤ N3 := by rw [hN3]; exact NE1.out
     have NE3 : Aside0 (N3 ≤ w9.heap.size) := ⟨by omega⟩
     clear hN3 R7 S2 NE1
     go_loopg [10, 9] sl.f1.length (fun gk v10 v9 wr => ∃ (j : Nat) (s : Int) (acc9 : List Int), j ≤ sl.f1.length ∧ sl.f1.length - j ≤ gk ∧ v10 = .int .i64 j ∧ Aside0 (acc9.length = j) ∧ Aside0 (∃ rest, feedL s ((sl.f1.drop j).map (·.f1)) = some (rest, s'') ∧ acc9 ++ rest = lv) ∧ Aside0 (IsS90 w0 wr g s) ∧ Aside0 (∃ A9 c9, v9 = .slice A9 j c9 ∧ Kd.R (Kd.int .i64) 3 wr N3 (fun _ => True) (.slice A9 j c9) acc9) ∧ Aside0 (wr.heap[gx]? = some (.cells #[.slice A0 x.lots.length c0, .slice A7 (k + 1) c7, .slice A2 k c2] 72 (0, 0))) ∧ Aside0 (wr.heap[gs]? = some (.cells #[.int .i64 sl.f0.f0, .int .i64 sl.f0.f1, .slice AL sl.f1.length cL] 59 (0, 0))) ∧ Aside0 (Kd.R (Kd.int .i64) 3 wr N1 (fun k => k < N3) (.slice A7 (k + 1) c7) (acc1 ++ [r])) ∧ Aside0 (Kd.S (Kd.slice 3 (Kd.int .i64)) 27 wr N1 (fun k_ => (True ∧ some k_ ≠ (.slice A7 (k + 1) c7 : Value).ownBlock) ∧ k_ < N3) (.slice A2 k c2) acc2) ∧ Aside0 (Kd.R (Kd.int .i64) 3 wr w.heap.size (fun k => k < N1) (.slice A0 x.lots.length c0) acc) ∧ Aside0 (N3 ≤ wr.heap.size) ∧ Aside0 (wr.heap[gb]? = some (.cells #[.int .i64 x.light, .int .i64 x.under, .int .i64 x.trim, .slice x.A3 x.holds.length x.c3, .int .i64 x.leaves, .slice (some ads) x.sills.length x.c5, .slice A6 x.lots.length x.c6] 26 (0, 0))) ∧ Aside0 (wr.heap[ge]? = some (.cells #[.slice none 0 0, .slice none 0 0, .slice none 0 0] 72 (0, 0))) ∧ Aside0 (KeepBut w wr g none) ∧ Aside0 (Below w0.heap.size w0 wr))
     case atStart => exact ⟨0, s', [], by omega, by omega, rfl, ⟨rfl⟩, ⟨⟨lv, HFL.out, rfl⟩⟩, HI, ⟨⟨none, 0, rfl, Kd.R_nil _ _ _ _ _⟩⟩, BX, BS, R1c, S2c, R0b, NE3, BK, BE, KB, HB⟩
     case round =>
      clear HI BX BS BK BE KB HB HFL R0b R1c S2c NE3
      obtain ⟨j, s, acc9, hj, hgj, rfl, HL9, HF, HI, HXX, BX, BS, R1c, S2c, R0b, NE3, BK, BE, KB, HB⟩ := hrel
      obtain ⟨A9, c9, hv9_, hr9_⟩ := HXX.out
      subst hv9_
      have R9 := Aside0.mk hr9_
      clear hr9_ HXX
      by_cases hjl : j < sl.f1.length
      ·
       have hjz : (j : Int) < (sl.f1.length : Int) := by omega
       obtain ⟨adl, e, hE⟩ := at62_all (fun W hW => (EE.out W hW).2.2.2) j hjl
       have EE2 := EE
       cases e
       have EL := Aside0.mk hE
       clear hE EE2
       have hdr := drop_cons_of sl.f1 j hjl z62
       have hrd : sl.f1.getD j z62 = rd_T62 sl.f1 (j : Int) := rfl
       rw [hrd] at hdr
       obtain ⟨rest, hfe, hap⟩ := HF.out
       rw [hdr] at hfe
       clear hdr hrd HF
       generalize rd_T62 sl.f1 (j : Int) = lc at *
       simp only [List.map_cons, feedL] at hfe
       obtain ⟨⟨rr, s3⟩, hin, hfe1⟩ := Option.bind_eq_some_iff.1 hfe
       obtain ⟨⟨rs, se⟩, hff, he⟩ := Option.bind_eq_some_iff.1 hfe1
       simp only [Option.some.injEq, Prod.mk.injEq] at he
       obtain ⟨he1, he2⟩ := he
       subst he1; subst he2
       have HIN3 := Aside0.mk hin
       have HF3 := Aside0.mk hff
       have HAP3 := Aside0.mk hap
       clear hin hff hfe1 hfe hap
       have hz2_ := (blk_cell BS.out 2).trans rfl
       have h0 := (EL.out _ KB.out).1
       have h1 := (EL.out _ KB.out).2
       go_wp2_with (fail)
       refine (swarfkit_Feed_In.calls g s lc.f1.f0 lc.f1.f1 rr s3 w0 _ HI.out HB.out HIN3.out).mono ?_
       rintro e w11 ⟨rfl, hi_, hb_, hk_⟩
       replace BX := Aside0.mk (blk_kb BX.out hk_ Gg.out.2.2)
       replace BS := Aside0.mk (blk_kb BS.out hk_ NSX.out.2.2.2)
       replace BK := Aside0.mk (blk_kb BK.out hk_ Gg.out.1)
       replace BE := Aside0.mk (blk_kb BE.out hk_ Gg.out.2.1)
       replace R0b := Aside0.mk (R_kb R0b.out hk_ hgl)
       replace R1c := Aside0.mk (R_kb R1c.out hk_ (Nat.lt_of_lt_of_le hgl hwN))
       replace S2c := Aside0.mk (S_kb S2c.out hk_ (Nat.lt_of_lt_of_le hgl hwN))
       replace R9 := Aside0.mk (R_kb R9.out hk_ (Nat.lt_of_lt_of_le hgl (Nat.le_trans hwN hN13)))
       replace KB := Aside0.mk (kb_trans KB.out hk_)
       replace NE3 := Aside0.mk (Nat.le_trans NE3.out hk_.1)
       replace HI := Aside0.mk hi_
       replace HB := Aside0.mk hb_
       clear hi_ hb_ hk_ hz2_ h0 h1
       go_wp2_with (((with_reducible refine gate_builtin (b := .append) (xs := #[.tmp 59, .tmp 68]) rfl ?_); at_builtin; refine Kd.R_append (Kd.int .i64) (w0 := w11) N3 rfl (.tmp 59) (.tmp 68) 27 3 (.int .i64 0) 8 rfl Try.underlying27 info3 rfl (by decide) (by omega) (.slice A9 j c9) acc9 rr [.int .i64 rr] (fun _ => True) (fun _ => False) rfl rfl ?aP (fun _ hk => hk.elim) ?aF ?aO ?aB ?aS ?aL ?_; (case aP => rfl); (case aF => exact (fun _ _ => trivial)); (case aO => exact R9.out); (case aB => exact below_low (Below.refl _ _) NE3.out); (case aS => exact NE3.out); (case aL => have := HL9.out; omega); intro v69 w12 ho_ hb_ hg_ hat_; obtain ⟨A12, c12, hv_⟩ := Kd.R_slice ho_; rw [List.length_append, HL9.out, List.length_singleton] at hv_; subst hv_; have R12 := Aside0.mk ho_; replace KB := Aside0.mk (kb_row KB.out hg_ (fun b e_ => Nat.le_trans (Nat.le_trans hwN hN13) (Kd.R_base R9.out b e_))); replace R0b := Aside0.mk (Kd.R_grown R0b.out hg_ (fun k_ hk_ e_ => by have := Kd.R_base R9.out k_ e_.symm; omega)); replace R1c := Aside0.mk (Kd.R_grown R1c.out hg_ (fun k_ hk_ e_ => by have := Kd.R_base R9.out k_ e_.symm; omega)); replace S2c := Aside0.mk (Kd.S_grown S2c.out hg_ (fun k_ hk_ e_ => by have := Kd.R_base R9.out k_ e_.symm; have := hk_.2; omega)); replace BX := Aside0.mk (blk_grown BX.out hg_ (Kd.R_ne R9.out BX.out (by decide))); replace BS := Aside0.mk (blk_grown BS.out hg_ (Kd.R_ne R9.out BS.out (by decide))); replace BK := Aside0.mk (blk_grown BK.out hg_ (Kd.R_ne R9.out BK.out (by decide))); replace BE := Aside0.mk (blk_grown BE.out hg_ (Kd.R_ne R9.out BE.out (by decide))); replace HI := Aside0.mk (IsS90.grown HI.out hg_ (IsS90.own_ne HI.out R9.out (by decide))); replace HB := Aside0.mk (HB.out.grown hg_ HB.out.size (fun b e_ => Nat.le_trans (Nat.le_trans (Nat.le_trans HW0.out.2.2 hwN) hN13) (Kd.R_base R9.out b e_))); replace NE3 := Aside0.mk (Nat.le_trans NE3.out hg_.size); clear ho_ hb_ hg_ hat_ R9))
       go_roundg (sl.f1.length - (j + 1))
       case measure => omega
       case rel => exact ⟨j + 1, s3, acc9 ++ [rr], by omega, by omega, by go_num, ⟨by rw [List.length_append, HL9.out]; rfl⟩, ⟨⟨rs, HF3.out, by rw [List.append_assoc]; exact HAP3.out⟩⟩, HI, ⟨⟨A12, c12, rfl, R12.out⟩⟩, BX, BS, R1c, S2c, R0b, NE3, BK, BE, KB, HB⟩
      ·
       have : j = sl.f1.length := by omega
       subst this
       obtain ⟨rest, hfe, hap⟩ := HF.out
       rw [List.drop_length] at hfe
       simp only [List.map_nil, feedL, Option.some.injEq, Prod.mk.injEq] at hfe
       obtain ⟨he1, he2⟩ := hfe
       subst he1; subst he2
       rw [List.append_nil] at hap
       subst hap
       clear HF
       have hz2_ := (blk_cell BX.out 2).trans rfl
       have hs2_ := (blk_cell BS.out 2).trans rfl
       have hf_ := blk_frozen BX.out
       have NE1 : Aside0 (N1 ≤ wr.heap.size) := ⟨Nat.le_trans hN13 NE3.out⟩
       go_upto_region 8 with (((with_reducible refine gate_builtin (b := .append) (xs := #[.tmp 71, .tmp 73]) rfl ?_); at_builtin; refine Kd.S_append (Kd.slice 3 (Kd.int .i64)) (w0 := wr) N1 rfl (.tmp 71) (.tmp 73) 36 27 (.slice none 0 0) 24 rfl Try.underlying36 info27 rfl (by decide) (by omega) (.slice A2 k c2) acc2 acc9 [.slice A9 sl.f1.length c9] (fun k_ => True ∧ some k_ ≠ (.slice A7 (k + 1) c7 : Value).ownBlock) (fun k_ => N3 ≤ k_) rfl rfl ?aP ?aK ?aF ?aO ?aB ?aS ?aL ?_; (case aP => exact ⟨_, rfl, Kd.R_mono (Kd.R_bound (Kd.R_lower (Kd.R_mono (Kd.R_bound R9.out) (fun _ hk => hk.2.1)) hN13)) (fun _ hk => hk.1)⟩); (case aK => exact (fun k_ hk => ⟨⟨trivial, fun he => by have := R1c.out.1 k_ he.symm; omega⟩, fun he => by have := (Kd.S_R S2c.out).1 k_ he.symm; have := this.2; omega⟩)); (case aF => exact (fun k_ hk => ⟨trivial, fun he => by have := Kd.R_lt R1c.out k_ he.symm; omega⟩)); (case aO => exact Kd.S_mono S2c.out (fun _ hk => ⟨hk.1, by have := hk.2; omega⟩)); (case aB => exact below_low (Below.refl _ _) NE1.out); (case aS => exact NE1.out); (case aL => have := HLN.out.2; omega); intro v74 w12 ho_ hb_ hg_ hat_; obtain ⟨A12, c12, hv_⟩ := Kd.S_slice ho_; rw [List.length_append, HLN.out.2, List.length_singleton] at hv_; subst hv_; have S12 := Aside0.mk ho_; have ST := Aside0.mk (Kd.S_typed S2c.out); replace KB := Aside0.mk (kb_row KB.out hg_ (fun b e_ => Nat.le_trans hwN (Kd.S_base S2c.out b e_))); replace R0b := Aside0.mk (Kd.R_over' R0b.out ST.out (by decide) hg_); replace R1c := Aside0.mk (Kd.R_over' R1c.out ST.out (by decide) hg_); replace BS := Aside0.mk (blk_grown BS.out hg_ (Kd.S_ne S2c.out BS.out (by decide))); replace BK := Aside0.mk (blk_grown BK.out hg_ (Kd.S_ne S2c.out BK.out (by decide))); replace BE := Aside0.mk (blk_grown BE.out hg_ (Kd.S_ne S2c.out BE.out (by decide))); replace BX := Aside0.mk (blk_grown BX.out hg_ (Kd.S_ne S2c.out BX.out (by decide))); replace HI := Aside0.mk (IsS90.grown HI.out hg_ (IsS90.own_neS HI.out S2c.out (by decide))); replace HB := Aside0.mk (HB.out.grown hg_ HB.out.size (fun b e_ => Nat.le_trans (Nat.le_trans HW0.out.2.2 hwN) (Kd.S_base S2c.out b e_))); replace NE1 := Aside0.mk (Nat.le_trans NE1.out hg_.size); clear ho_ hb_ hg_ hat_ S2c ST hz2_ hf_; have hz2_ := (blk_cell BX.out 2).trans rfl; have hf_ := blk_frozen BX.out))
       clear hz2_ hs2_ hf_ NE3 R9
       have BX2 := Aside0.mk (blk_put (cs' := #[.slice A0 x.lots.length c0, .slice A7 (k + 1) c7, .slice A12 (k + 1) c12]) BX.out 2 (.slice A12 (k + 1) c12) rfl)
       replace BS := Aside0.mk (blk_far BS.out (p := ⟨gx, 2, none⟩) NSX.out.1.symm (.slice A12 (k + 1) c12))
       replace BK := Aside0.mk (blk_far BK.out (p := ⟨gx, 2, none⟩) (blk_ne_ BK.out BX.out (by decide)) (.slice A12 (k + 1) c12))
       replace BE := Aside0.mk (blk_far BE.out (p := ⟨gx, 2, none⟩) NEX.out (.slice A12 (k + 1) c12))
       replace R0b := Aside0.mk (Kd.R_set R0b.out BX.out (by decide) 2 (.slice A12 (k + 1) c12))
       replace R1c := Aside0.mk (Kd.R_set R1c.out BX.out (by decide) 2 (.slice A12 (k + 1) c12))
       replace S12 := Aside0.mk (Kd.S_set S12.out BX.out (by decide) 2 (.slice A12 (k + 1) c12))
       replace HI := Aside0.mk (IsS90.far HI.out (p := ⟨gx, 2, none⟩) Gg.out.2.2.symm (.slice A12 (k + 1) c12))
       replace KB := Aside0.mk (kb_set KB.out GEx.out (i := 2) (v := .slice A12 (k + 1) c12))
       replace HB := Aside0.mk (below_set HB.out HW0.out.1 (j := 2) (v := .slice A12 (k + 1) c12))
       replace NE1 : Aside0 (N1 ≤ (w12.setCell ⟨gx, 2, none⟩ (.slice A12 (k + 1) c12)).heap.size) := ⟨by rw [World.size_setCell]; exact NE1.out⟩
       generalize hW_ : w12.setCell ⟨gx, 2, none⟩ (.slice A12 (k + 1) c12) = w13 at *
       clear hW_ BX
       have BX := BX2
       clear BX2
       go_wp2
       go_roundg (x.sills.length - (k + 1))
       case measure => omega
       case rel => exact ⟨k + 1, s, acc1 ++ [r], acc2 ++ [acc9], by omega, by omega, by go_num, ⟨⟨by rw [List.length_append, HLN.out.1]; rfl, by rw [List.length_append, HLN.out.2]; rfl⟩⟩, ⟨⟨_, _, HF2.out, by rw [List.append_assoc]; exact HAP1.out, by rw [List.append_assoc]; exact HAP2.out⟩⟩, HI, ⟨⟨_, _, _, _, BX.out, Kd.R_mono R1c.out (fun _ _ => trivial), S12.out⟩⟩, R0b, NE1, BK, BE, KB, HB⟩
    ·
     have : k = x.sills.length := by omega
     subst this
     obtain ⟨ra, rb, hfe, hap1, hap2⟩ := HF.out
     rw [List.drop_length] at hfe
     simp only [factS, Option.some.injEq, Prod.mk.injEq] at hfe
     obtain ⟨he1, he2, he3⟩ := hfe
     subst he1; subst he2; subst he3
     rw [List.append_nil] at hap1 hap2
     subst hap1; subst hap2
     clear HF
     have hz0_ := (blk_cell BX.out 0).trans rfl
     have hz1_ := (blk_cell BX.out 1).trans rfl
     have hz2_ := (blk_cell BX.out 2).trans rfl
     have hy0_ := (blk_cell BE.out 0).trans rfl
     have hy1_ := (blk_cell BE.out 1).trans rfl
     have hy2_ := (blk_cell BE.out 2).trans rfl
     have hk5_ := (blk_cell BK.out 5).trans rfl
     have hf_ := blk_frozen BE.out
     go_wp2
     clear hk5_
     have BE1 := Aside0.mk (blk_put (cs' := #[.slice A0 x.lots.length c0, .slice none 0 0, .slice none 0 0]) BE.out 0 (.slice A0 x.lots.length c0) rfl)
     replace R0b := Aside0.mk (Kd.R_set R0b.out BE.out (by decide) 0 (.slice A0 x.lots.length c0))
     replace R1 := Aside0.mk (Kd.R_set R1.out BE.out (by decide) 0 (.slice A0 x.lots.length c0))
     replace S2 := Aside0.mk (Kd.S_set S2.out BE.out (by decide) 0 (.slice A0 x.lots.length c0))
     replace HI := Aside0.mk (IsS90.far HI.out (p := ⟨ge, 0, none⟩) Gg.out.2.1.symm (.slice A0 x.lots.length c0))
     replace KB := Aside0.mk (kb_set KB.out GEe.out (i := 0) (v := .slice A0 x.lots.length c0))
     replace HB := Aside0.mk (below_set HB.out HW0.out.2.1 (j := 0) (v := .slice A0 x.lots.length c0))
     have BE2 := Aside0.mk (blk_put (cs' := #[.slice A0 x.lots.length c0, .slice A1 x.sills.length c1, .slice none 0 0]) BE1.out 1 (.slice A1 x.sills.length c1) rfl)
     replace R0b := Aside0.mk (Kd.R_set R0b.out BE1.out (by decide) 1 (.slice A1 x.sills.length c1))
     replace R1 := Aside0.mk (Kd.R_set R1.out BE1.out (by decide) 1 (.slice A1 x.sills.length c1))
     replace S2 := Aside0.mk (Kd.S_set S2.out BE1.out (by decide) 1 (.slice A1 x.sills.length c1))
     replace HI := Aside0.mk (IsS90.far HI.out (p := ⟨ge, 1, none⟩) Gg.out.2.1.symm (.slice A1 x.sills.length c1))
     replace KB := Aside0.mk (kb_set KB.out GEe.out (i := 1) (v := .slice A1 x.sills.length c1))
     replace HB := Aside0.mk (below_set HB.out HW0.out.2.1 (j := 1) (v := .slice A1 x.sills.length c1))
     have BE3 := Aside0.mk (blk_put (cs' := #[.slice A0 x.lots.length c0, .slice A1 x.sills.length c1, .slice A2 x.sills.length c2]) BE2.out 2 (.slice A2 x.sills.length c2) rfl)
     replace R0b := Aside0.mk (Kd.R_set R0b.out BE2.out (by decide) 2 (.slice A2 x.sills.length c2))
     replace R1 := Aside0.mk (Kd.R_set R1.out BE2.out (by decide) 2 (.slice A2 x.sills.length c2))
     replace S2 := Aside0.mk (Kd.S_set S2.out BE2.out (by decide) 2 (.slice A2 x.sills.length c2))
     replace HI := Aside0.mk (IsS90.far HI.out (p := ⟨ge, 2, none⟩) Gg.out.2.1.symm (.slice A2 x.sills.length c2))
     replace KB := Aside0.mk (kb_set KB.out GEe.out (i := 2) (v := .slice A2 x.sills.length c2))
     replace HB := Aside0.mk (below_set HB.out HW0.out.2.1 (j := 2) (v := .slice A2 x.sills.length c2))
     clear hf_ BE BE1 BE2 hz0_ hz1_ hz2_ hy0_ hy1_ hy2_
     generalize hW_ : ((wr.setCell ⟨ge, 0, none⟩ (.slice A0 x.lots.length c0)).setCell ⟨ge, 1, none⟩ (.slice A1 x.sills.length c1)).setCell ⟨ge, 2, none⟩ (.slice A2 x.sills.length c2) = we at *
     clear hW_
     exact bodyPost_ret (results_single (r := .cell 4 72) rfl (.cell ge 72 #[.slice A0 x.lots.length c0, .slice A1 x.sills.length c1, .slice A2 x.sills.length c2] (0, 0) _ rfl BE3.out hu72 rfl (by kernel_rfl) .nil)) rfl ⟨_, _, _, rfl, Kd.R_mono R0b.out (fun k_ hk e_ => by have := Kd.R_base R1.out k_ e_.symm; omega), Kd.R_lower (Kd.R_mono (Kd.R_bound R1.out) (fun k_ hk e_ => by have := R0b.out.1 k_ e_.symm; have := hk.2.1; omega)) hwN, Kd.S_lower (Kd.S_mono (Kd.S_bound S2.out) (fun k_ hk => ⟨fun e_ => by have := R0b.out.1 k_ e_.symm; have := hk.2.1; omega, hk.1.2⟩)) hwN, HI.out, HB.out, KB.out⟩
theorem swarflaw07_factOf.calls (g : Nat) (s0_0 : Int) (a1_0 : Int) (a1_1 : Int) (a1_2 : Int) (A1_3 : Option Addr) (c1_3 : Nat) (l1_3 : List (S85)) (a1_4 : Int) (A1_5 : Option Addr) (c1_5 : Nat) (l1_5 : List (S59)) (A1_6 : Option Addr) (c1_6 : Nat) (l1_6 : List (S79)) (r1 : List Int) (r2 : List Int) (r3 : List (List Int)) (r4 : Int) (w0 w : World) (hI : IsS90 w0 w g s0_0) (hB : Below w0.heap.size w0 w) (hr1_3 : ∀ W_, KeepBut w W_ g none → Kd.C k85 W_ A1_3 l1_3.length l1_3) (hc1_3 : l1_3.length ≤ c1_3) (hr1_5 : ∀ W_, KeepBut w W_ g none → Kd.C k59 W_ A1_5 l1_5.length l1_5) (hc1_5 : l1_5.length ≤ c1_5) (hr1_6 : ∀ W_, KeepBut w W_ g none → Kd.C k79 W_ A1_6 l1_6.length l1_6) (hc1_6 : l1_6.length ≤ c1_6) (h : swarflaw07_factOf.f s0_0 a1_0 a1_1 a1_2 l1_3 a1_4 l1_5 l1_6 = some (r1, r2, r3, r4)) :
  Calls Try.prog 42 #[.pointer (some ⟨g, 0, none⟩), .agg #[.int .i64 a1_0, .int .i64 a1_1, .int .i64 a1_2, .slice A1_3 l1_3.length c1_3, .int .i64 a1_4, .slice A1_5 l1_5.length c1_5, .slice A1_6 l1_6.length c1_6]] w fun e w' => ∃ v0_ v1_ v2_ : Value, e = .returned (.agg #[v0_, v1_, v2_]) ∧ Kd.R (Kd.int .i64) 3 w' w.heap.size (fun k_ => some k_ ≠ (v1_ : Value).ownBlock) v0_ r1 ∧ Kd.R (Kd.int .i64) 3 w' w.heap.size (fun k_ => some k_ ≠ (v0_ : Value).ownBlock) v1_ r2 ∧ Kd.S (Kd.slice 3 (Kd.int .i64)) 27 w' w.heap.size (fun k_ => some k_ ≠ (v0_ : Value).ownBlock ∧ some k_ ≠ (v1_ : Value).ownBlock) v2_ r3 ∧ IsS90 w0 w' g r4 ∧ Below w0.heap.size w0 w' ∧ KeepBut w w' g none := fact_calls ⟨a1_0, a1_1, a1_2, A1_3, c1_3, l1_3, a1_4, A1_5, c1_5, l1_5, A1_6, c1_6, l1_6⟩ g s0_0 r1 r2 r3 r4 w0 w hI hB hr1_3 hr1_5 hr1_6 hc1_5 hc1_6 h
end Go.Proofs.Ytodmemndaaiolaa.PC7
namespace Go.Proofs.Ytodmemndaaiolaa.PC7
set_option linter.unusedVariables false
open Go.RowKit Go.Shelf Go.Proofs.YtodmemndaaiolaaW.PrintWords Go.Proofs.YtodmemndaaiolaaW.PrintLast Go.Proofs.YtodmemndaaiolaaW.PrintMore
def GivesR {α : Type} (n g : Nat) (lb : Array Value) (encs : α → Array Value) (Rx : Nat → α → World → Prop) (Kp : World → World → Prop) (S : List α → Prop) (w : World) : Prop :=
  ∀ (l : Nat) (J : Nat → List α → World → Prop) (W : World), Below w.heap.size w W → (∀ b, AbidesFrom W.heap.size (J b)) → (∀ b pre A i v, W.heap.size ≤ b → J b pre A → A.cell? ⟨b, i, none⟩ ≠ none → J b pre (A.setCell ⟨b, i, none⟩ v)) →
    (∀ b pre x W1, W.heap.size ≤ b → J b pre W1 → Rx b x W1 → YieldAt Fence.wide (n - 1) Try.prog l (encs x) W1 fun e W' => e = .returned (.bool true) ∧ J b (pre ++ [x]) W' ∧ Kp W1 W') →
    (∀ b, W.heap.size ≤ b → J b [] W) → CallsIn Fence.wide n Try.prog g (#[.func (.yield l) #[] #[]] ++ lb) W fun e W' => (∃ v, e = .returned v) ∧ ∃ b xs, W.heap.size ≤ b ∧ S xs ∧ J b xs W'
def roundOwes {α : Type} (Kp : World → World → Prop) (I : List α → World → Prop) (xs : List α) (W : World) : Exit → Act → World → Prop
  | .normal, _, W' => KeepsOthers W W' ∧ Kp W W' ∧ I xs W'
  | _, _, _ => False
theorem loop_far {W : World} {l b i : Nat} {r : Loop} {v : Value} (h : W.heap[l]? = some (.loop r)) (hc : W.cell? ⟨b, i, none⟩ ≠ none) : (W.setCell ⟨b, i, none⟩ v).heap[l]? = some (.loop r) := by
  have hne : l ≠ b := fun e => by subst e; simp [World.cell?, h] at hc
  rw [Below.heap_setCell _ _ _ _ hne]; exact h
theorem defer_far {W : World} {l b i : Nat} {v : Value} {d : Option (List Deferred)} (h : W.heap[l]? = some (.deferred d)) (hc : W.cell? ⟨b, i, none⟩ ≠ none) : (W.setCell ⟨b, i, none⟩ v).heap[l]? = some (.deferred d) := by
  have hne : l ≠ b := fun e => by subst e; simp [World.cell?, h] at hc
  rw [Below.heap_setCell _ _ _ _ hne]; exact h
theorem range_gives {α : Type} {g : Operand} {ps : Array Tmp} {assign body : Code} {Q : Exit → Act → World → Prop} {a : Act} {w w0 : World} {n gf : Nat} {lb : Array Value} (h1 : 1 ≤ n)
    (hg : a.eval g = .func (.func gf) #[] lb) (eg : ∀ args w, (callFunc gf args).run Try.prog w = .ok (.enter gf args) w)
    {encs : α → Array Value} {Rx : Nat → α → World → Prop} {Kp : World → World → Prop} {S : List α → Prop} (hseq : GivesR (n - 1) gf lb encs Rx Kp S w0)
    (hKt : ∀ {A B C : World}, Kp A B → Kp B C → Kp A C) (hKb : ∀ (W : World) (l : Nat) (o o' : Obj), W.heap[l]? = some o → o.isCells = false → Kp W (W.putObj l o'))
    (hRb : ∀ (b : Nat) (x : α) (W : World) (l : Nat) (o o' : Obj), W.heap[l]? = some o → o.isCells = false → Rx b x W → Rx b x (W.putObj l o'))
    (hb0 : Below w0.heap.size w0 w) (hps : ∀ x, (encs x).size = ps.size) (I : Nat → List α → World → Prop) (hI : ∀ b, OwnFrom w.heap.size (I b)) (hIs : ∀ b pre A i v, w.heap.size ≤ b → I b pre A → A.cell? ⟨b, i, none⟩ ≠ none → I b pre (A.setCell ⟨b, i, none⟩ v)) (h0 : ∀ b, w.heap.size ≤ b → I b [] w) (a₁ : α → Act)
    (hassign : ∀ (l : Nat) (x : α) (W : World) (K : Act → World → Prop), K (a₁ x) W →
      assign.wpIn (Fence.wide.inRound l) (n - 1 - 1) Try.prog (Exit.then K (fun _ _ _ => False)) { tmps := (ps.zip (encs x)).foldl (fun t (p, v) => t.setIfInBounds p v) a.tmps, defers := [] } W)
    (hbody : ∀ (l b : Nat) (pre : List α) (x : α) (W : World), w.heap.size ≤ b → I b pre W → Rx b x W → body.wpIn (Fence.wide.inRound l) (n - 1 - 1) Try.prog (roundOwes Kp (I b) (pre ++ [x]) W) (a₁ x) W)
    (hdone : ∀ (D b : Nat) (xs : List α) (W : World), w.heap.size ≤ D → w.heap.size ≤ b → S xs → I b xs W → W.heap[D]? = some (.deferred (some [])) → Q .normal { a with defers := { target := .collected D, args := #[] } :: a.defers } W) :
    (Code.rangeFunc g ps assign body).wpIn Fence.wide n Try.prog Q a w := by
  refine wpIn_rangeFunc fun fn hfn => ?_
  obtain ⟨r0, hr0⟩ : ∃ r : Loop, r = { state := .ready, pending := none, fn, tmps := a.tmps, params := ps, assign, body, defers := w.heap.size } := ⟨_, rfl⟩
  have hsz : ∀ W : World, W = (w.alloc (.deferred (some []))).alloc (.loop r0) → W.heap[w.heap.size + 1]? = some (.loop r0) ∧ W.heap[w.heap.size]? = some (.deferred (some [])) ∧ W.heap.size = w.heap.size + 2 := by
    rintro W rfl
    refine ⟨?_, (Below.heap_alloc _ _ _ (by simp)).trans (World.alloc_heap_new w _), by simp⟩
    have := World.alloc_heap_new (w.alloc (.deferred (some []))) (.loop r0)
    rwa [World.size_alloc] at this
  obtain ⟨Ws, hWs⟩ : ∃ W : World, W = (w.alloc (.deferred (some []))).alloc (.loop r0) := ⟨_, rfl⟩
  obtain ⟨hL, hD, hS⟩ := hsz Ws hWs
  refine ⟨w.heap.size + 1, [{ target := .collected w.heap.size, args := #[] }], Ws, { target := .fn (.func gf) lb, args := #[.func (.yield (w.heap.size + 1)) #[] #[]] }, Ws, gf, #[.func (.yield (w.heap.size + 1)) #[] #[]] ++ lb, Ws, ?_, ?_, ?_, ?_, fun _ => h1, ?_⟩
  · rw [hWs, hr0]; exact run_enterLoop_outer _ _ _ _ _
  · simp only [resolve, hg]; simp [go_sem]
  · intro f' hf'; simp [Target.leads] at hf'; subst hf'; trivial
  · simp [invoke, go_sem, eg]
  have walkNo : ∀ {A : World} {row : Option Nat}, (∀ r, row = some r → Ws.heap.size ≤ r ∧ ∃ o : Obj, A.heap[r]? = some o ∧ o.isWalk = true) → ∀ r, row = some r → w.heap.size ≤ r ∧ ∃ o : Obj, A.heap[r]? = some o ∧ o.isCells = false := by
    intro A row hr r e
    obtain ⟨hB, o, ho, hw⟩ := hr r e
    exact ⟨by omega, o, ho, Obj.not_cells_of_walk hw⟩
  refine (hseq (w.heap.size + 1) (fun b pre W => I b pre W ∧ W.heap[w.heap.size + 1]? = some (.loop r0) ∧ W.heap[w.heap.size]? = some (.deferred (some []))) Ws (by rw [hWs]; exact hb0.trans ((((Below.refl _ w).alloc (Nat.le_refl _) _).alloc (by simp) _).mono hb0.size)) ?_ ?_ ?_
    (fun b hb => ⟨by rw [hWs]; exact (hI b).alloc _ ((hI b).alloc _ (h0 b (by omega))), hL, hD⟩)).mono ?_
  · intro b s A B row hs hgr hr
    exact ⟨hI b s A B row hs.1 hgr (walkNo hr), (grownBy_keeps hgr (fun r e => (hr r e).2) hs.2.1 rfl).trans hs.2.1, (grownBy_keeps hgr (fun r e => (hr r e).2) hs.2.2 rfl).trans hs.2.2⟩
  · rintro b pre A i v hb ⟨hi, hl, hd⟩ hc
    exact ⟨hIs b pre A i v (by omega) hi hc, loop_far hl hc, defer_far hd hc⟩
  · rintro b pre x W hb ⟨hi, hl, hd⟩ hrx
    have hy := run_yield (P := Try.prog) (args := encs x) hl (by rw [hr0]; exact hps x)
    rw [hr0] at hy
    refine ⟨fn, _, assign, body, hy, roundIn_of_wpIn hfn (hassign _ x W _ ?_)⟩
    clear hy
    have hlt := (Array.getElem?_eq_some_iff.1 hl).1
    refine ⟨_, run_beginRound hl (by rw [hr0]), ?_⟩
    have hl2 : (W.putObj (w.heap.size + 1) (.loop { r0 with state := .busy })).heap[w.heap.size + 1]? = some (.loop { r0 with state := .busy }) := World.putObj_heap_same hlt
    have hd2 : (W.putObj (w.heap.size + 1) (.loop { r0 with state := .busy })).heap[w.heap.size]? = some (.deferred (some [])) := (World.putObj_heap_other (by omega)).trans hd
    refine wpIn_mono (hbody _ b pre x _ (by omega) ((hI b).putObj _ hi (by omega) hl rfl) (hRb b x _ _ _ _ hl rfl hrx)) ?_
    rintro e a3 W3 hp
    cases e with
    | normal =>
      obtain ⟨hk3, hkp3, hi3⟩ := hp
      have hl3 := hk3.same _ _ hl2 rfl
      have hd3 := hk3.same _ _ hd2 rfl
      have hend := run_endRound (P := Try.prog) none hl3
      refine ⟨_, _, hend, rfl, ⟨(hI b).putObj _ hi3 (by omega) hl3 rfl, ?_, (World.putObj_heap_other (by omega)).trans hd3⟩, hKt (hKb _ _ _ _ hl rfl) (hKt hkp3 (hKb _ _ _ _ hl3 rfl))⟩
      refine (World.putObj_heap_same (Array.getElem?_eq_some_iff.1 hl3).1).trans ?_
      rw [hr0]
      rfl
    | ret => exact hp.elim
    | exit id => exact hp.elim
    | goto t => exact hp.elim
    | panic ch => exact hp.elim
    | outgrown => exact hp.elim
  · rintro e W2 ⟨⟨v, rfl⟩, b, xs, hb, hS2, hi, hl, hd⟩
    have hend := run_endLoop (P := Try.prog) hl (by rw [hr0]; simp)
    have hpend : r0.pending = none := by rw [hr0]
    rw [hpend] at hend
    exact ⟨none, _, hend, hdone _ b xs _ (Nat.le_refl _) (by omega) hS2 ((hI b).putObj _ hi (by omega) hl rfl) ((World.putObj_heap_other (by omega)).trans hd)⟩
end Go.Proofs.Ytodmemndaaiolaa.PC7
namespace Go.Proofs.Ytodmemndaaiolaa.PC7
set_option linter.unusedVariables false
def nextL (H : Int) : List Int → Option (List Int)
  | [] => none
  | d :: t => match nextL H t with
    | some t' => some (d :: t')
    | none => if d = H - 1 then none else some ((d + 1) :: List.replicate t.length (-1))
theorem nextL_app (H : Int) (t t' : List Int) (h : nextL H t = some t') : ∀ a : List Int, nextL H (a ++ t) = some (a ++ t')
  | [] => h
  | d :: a => by simp only [List.cons_append, nextL, nextL_app H t t' h a]
theorem nextL_rep (H : Int) : ∀ k, nextL H (List.replicate k (H - 1)) = none
  | 0 => rfl
  | k + 1 => by rw [List.replicate_succ]; simp only [nextL, nextL_rep H k, if_true]
theorem nextL_at (H d : Int) (a : List Int) (k : Nat) (h : d ≠ H - 1) : nextL H (a ++ d :: List.replicate k (H - 1)) = some (a ++ (d + 1) :: List.replicate k (-1)) := by
  refine nextL_app H _ _ ?_ a
  simp only [nextL, nextL_rep, if_neg h, List.length_replicate]
inductive Runs {α : Type} (f : α → Option α) : List α → Option α → Prop
  | one (x : α) (e : Option α) (h : f x = e) : Runs f [x] e
  | cons (x y : α) (r : List α) (e : Option α) (h : f x = some y) (hr : Runs f (y :: r) e) : Runs f (x :: y :: r) e
theorem Runs.app {α : Type} {f : α → Option α} {A : List α} {eA : Option α} (h : Runs f A eA) : ∀ {b : α} {B : List α} {e : Option α}, eA = some b → Runs f (b :: B) e → Runs f (A ++ b :: B) e := by
  induction h with
  | one x e0 hx => intro b B e hb hB; subst hb; exact .cons _ _ _ _ hx hB
  | cons x y r e0 hx hr ih => intro b B e hb hB; exact .cons _ _ _ _ hx (ih hb hB)
theorem Runs.get {α : Type} {f : α → Option α} {L : List α} {e : Option α} (h : Runs f L e) : e = none → ∀ k x, L[k]? = some x → f x = L[k + 1]? := by
  induction h with
  | one x e hx => intro he k y hy; cases k with
    | zero => simp at hy; subst hy; rw [hx, he]; rfl
    | succ k => simp at hy
  | cons x y r e hx hr ih => intro he k z hz; cases k with
    | zero => simp at hz; subst hz; rw [hx]; rfl
    | succ k => exact ih he k z hz
theorem Runs.consed (H d : Int) (n : Nat) {L : List (List Int)} {e : Option (List Int)} (h : Runs (nextL H) L e) : e = none → (∀ t ∈ L, t.length = n) →
    Runs (nextL H) (L.map (d :: ·)) (if d = H - 1 then none else some ((d + 1) :: List.replicate n (-1))) := by
  induction h with
  | one x e hx =>
    intro he hl
    refine .one _ _ ?_
    rw [he] at hx
    simp only [nextL, hx, hl x (by simp)]
  | cons x y r e hx hr ih =>
    intro he hl
    refine .cons _ _ _ _ ?_ (ih he fun t ht => hl t (by simp_all))
    simp only [nextL, hx]
def stowsL (H : Nat) : Nat → List (List Int)
  | 0 => [[]]
  | n + 1 => (List.range (H + 1)).flatMap fun (d : Nat) => (stowsL H n).map fun t => ((d : Int) - 1) :: t
theorem stowsL_mem (H : Nat) : ∀ n t, t ∈ stowsL H n → t.length = n ∧ ∀ y ∈ t, -1 ≤ y ∧ y < (H : Int)
  | 0, t, h => by simp [stowsL] at h; subst h; simp
  | n + 1, t, h => by
    simp only [stowsL, List.mem_flatMap, List.mem_range, List.mem_map] at h
    obtain ⟨d, hd, s, hs, rfl⟩ := h
    obtain ⟨h1, h2⟩ := stowsL_mem H n s hs
    refine ⟨by simp [h1], fun y hy => ?_⟩
    rcases List.mem_cons.1 hy with rfl | hy
    · omega
    · exact h2 y hy
theorem stowsL_head (H : Nat) : ∀ n, ∃ r, stowsL H n = List.replicate n (-1) :: r
  | 0 => ⟨[], rfl⟩
  | n + 1 => by
    obtain ⟨r, hr⟩ := stowsL_head H n
    simp only [stowsL, List.range_succ_eq_map, List.flatMap_cons, hr, List.map_cons, List.cons_append, List.replicate_succ]
    exact ⟨_, rfl⟩
theorem stowsL_runs (H : Nat) : ∀ n, Runs (nextL H) (stowsL H n) none
  | 0 => .one _ _ rfl
  | n + 1 => by
    have ih := stowsL_runs H n
    have hl : ∀ t ∈ stowsL H n, t.length = n := fun t ht => (stowsL_mem H n t ht).1
    have key : ∀ k, k ≤ H → Runs (nextL H) ((List.range (k + 1)).flatMap fun (d : Nat) => (stowsL H n).map fun t => ((d : Int) - 1) :: t) (if k = H then none else some ((k : Int) :: List.replicate n (-1))) := by
      intro k
      induction k with
      | zero =>
        intro hk
        have h := Runs.consed H ((0 : Nat) - 1) n ih rfl hl
        have e : (if (((0 : Nat) : Int) - 1) = (H : Int) - 1 then none else some ((((0 : Nat) : Int) - 1 + 1) :: List.replicate n (-1))) = (if 0 = H then none else some (((0 : Nat) : Int) :: List.replicate n (-1))) := by
          by_cases h0 : 0 = H
          · rw [if_pos h0, if_pos (by omega)]
          · rw [if_neg h0, if_neg (by omega)]; congr 2
        rw [e] at h
        simpa using h
      | succ k ihk =>
        intro hk
        have h1 := ihk (by omega)
        rw [if_neg (by omega)] at h1
        have h2 := Runs.consed H (((k + 1 : Nat) : Int) - 1) n ih rfl hl
        have e : (if (((k + 1 : Nat) : Int) - 1) = (H : Int) - 1 then none else some ((((k + 1 : Nat) : Int) - 1 + 1) :: List.replicate n (-1))) = (if k + 1 = H then none else some (((k + 1 : Nat) : Int) :: List.replicate n (-1))) := by
          by_cases h0 : k + 1 = H
          · rw [if_pos h0, if_pos (by omega)]
          · rw [if_neg h0, if_neg (by omega)]; congr 2; omega
        rw [e] at h2
        obtain ⟨r, hr⟩ := stowsL_head H n
        rw [List.range_succ, List.flatMap_append, List.flatMap_singleton]
        have hd : (((k + 1 : Nat) : Int) - 1) = (k : Int) := by omega
        rw [hr, List.map_cons, hd] at h2 ⊢
        rw [← hr]
        exact h1.app rfl h2
    have := key H (Nat.le_refl _)
    rw [if_pos rfl] at this
    exact this
theorem stowsL_next (H n k : Nat) (x : List Int) (h : (stowsL H n)[k]? = some x) : nextL H x = (stowsL H n)[k + 1]? := (stowsL_runs H n).get rfl k x h
def curL (t : List Int) (j : Nat) : List Int := t.take j ++ List.replicate (t.length - j) (-1)
theorem curL_all (t : List Int) : curL t t.length = t := by simp [curL]
theorem take_snoc (t : List Int) (j : Nat) (h : j < t.length) : t.take (j + 1) = t.take j ++ [t.getD j 0] := by
  rw [List.take_succ_eq_append_getElem h, List.getD, List.getElem?_eq_getElem h]; rfl
theorem curL_get (t : List Int) (j : Nat) (h : j < t.length) : (curL t (j + 1))[j]? = some (t.getD j 0) := by
  rw [curL, take_snoc t j h, List.append_assoc, List.getElem?_append_right (by simp; omega)]
  simp [Nat.min_eq_left (Nat.le_of_lt h)]
theorem curL_set (t : List Int) (j : Nat) (y : Int) (h : j < t.length) : (curL t (j + 1)).set j y = t.take j ++ y :: List.replicate (t.length - (j + 1)) (-1) := by
  rw [curL, take_snoc t j h, List.append_assoc, List.set_append_right _ _ (by simp; omega)]
  simp [Nat.min_eq_left (Nat.le_of_lt h)]
theorem curL_back (t : List Int) (j : Nat) (h : j < t.length) : (curL t (j + 1)).set j (-1) = curL t j := by
  rw [curL_set t j _ h, curL, show t.length - j = t.length - (j + 1) + 1 by omega, List.replicate_succ]
theorem full_back (t : List Int) (H : Int) (j : Nat) (h : j < t.length) (hf : t = t.take (j + 1) ++ List.replicate (t.length - (j + 1)) (H - 1)) (hd : t.getD j 0 = H - 1) : t = t.take j ++ List.replicate (t.length - j) (H - 1) := by
  have hf2 := hf
  rw [take_snoc t j h, hd, List.append_assoc] at hf2
  rw [show t.length - j = t.length - (j + 1) + 1 by omega, List.replicate_succ]
  exact hf2
theorem next_at (t : List Int) (H : Int) (j : Nat) (h : j < t.length) (hf : t = t.take (j + 1) ++ List.replicate (t.length - (j + 1)) (H - 1)) (hd : t.getD j 0 ≠ H - 1) : nextL H t = some ((curL t (j + 1)).set j (t.getD j 0 + 1)) := by
  rw [curL_set t j _ h]
  have hf2 := hf
  rw [take_snoc t j h, List.append_assoc] at hf2
  have h3 := nextL_at H (t.getD j 0) (t.take j) (t.length - (j + 1)) hd
  rw [show t.take j ++ t.getD j 0 :: List.replicate (t.length - (j + 1)) (H - 1) = t from hf2.symm] at h3
  exact h3
theorem next_none (t : List Int) (H : Int) (hf : t = t.take 0 ++ List.replicate (t.length - 0) (H - 1)) : nextL H t = none := by
  rw [hf]; simp only [List.take_zero, List.nil_append]; exact nextL_rep H _
theorem map_set_int (l : List Int) (j : Nat) (y : Int) : ((l.map (Value.int .i64)).toArray.setIfInBounds j (.int .i64 y)) = ((l.set j y).map (Value.int .i64)).toArray := by
  simp [List.map_set]
theorem enum_more {T : List (List Int)} {pre : List (Value × List Int)} {k : Nat} {t : List Int} (v : Value) (hp : pre.map (·.2) = T.take k) (ht : T[k]? = some t) : (pre ++ [(v, t)]).map (·.2) = T.take (k + 1) := by
  obtain ⟨h, e⟩ := List.getElem?_eq_some_iff.1 ht
  rw [List.map_append, hp, List.take_succ_eq_append_getElem h, e]; rfl
theorem enum_done {T : List (List Int)} {pre : List (Value × List Int)} {k : Nat} {t : List Int} (v : Value) (hp : pre.map (·.2) = T.take k) (ht : T[k]? = some t) (hn : T[k + 1]? = none) : (pre ++ [(v, t)]).map (·.2) = T := by
  rw [enum_more v hp ht]
  exact List.take_of_length_le (List.getElem?_eq_none_iff.1 hn)
end Go.Proofs.Ytodmemndaaiolaa.PC7
namespace Go.Proofs.Ytodmemndaaiolaa.PC7
open Go.RowKit Go.Proofs.YtodmemndaaiolaaW.PrintWords Go.Proofs.YtodmemndaaiolaaW.PrintLast Go.Proofs.YtodmemndaaiolaaW.PrintMore
attribute [local go_sem] max2_int min2_int max_two min_two max_three min_three max_four min_four
set_option linter.unusedVariables false
set_option linter.unusedSimpArgs false
def bits_Mul64.f (a0 : Int) (a1 : Int) : Option (Int × Int) := some (IntKind.u64.wrap ((IntKind.u64.wrap ((IntKind.u64.wrap ((a0 / 4294967296) * (a1 / 4294967296))) + ((IntKind.u64.wrap ((IntKind.u64.wrap ((a0 / 4294967296) * (Go.bits .and .u64 a1 4294967295))) + ((IntKind.u64.wrap ((Go.bits .and .u64 a0 4294967295) * (Go.bits .and .u64 a1 4294967295))) / 4294967296))) / 4294967296))) + ((IntKind.u64.wrap ((Go.bits .and .u64 (IntKind.u64.wrap ((IntKind.u64.wrap ((a0 / 4294967296) * (Go.bits .and .u64 a1 4294967295))) + ((IntKind.u64.wrap ((Go.bits .and .u64 a0 4294967295) * (Go.bits .and .u64 a1 4294967295))) / 4294967296))) 4294967295) + (IntKind.u64.wrap ((Go.bits .and .u64 a0 4294967295) * (a1 / 4294967296))))) / 4294967296)), IntKind.u64.wrap (a0 * a1))
set_option maxHeartbeats 8000000 in
set_option maxRecDepth 100000 in
theorem bits_Mul64.calls (a0 : Int) (a1 : Int) (r1 : Int) (r2 : Int) (w : World) (h : bits_Mul64.f a0 a1 = some (r1, r2)) :
  Calls Try.prog 92 #[.int .u64 a0, .int .u64 a1] w fun e w' => e = .returned (.tuple #[.int .u64 r1, .int .u64 r2]) ∧ Drawn0 w w' := by
 have H : (some (IntKind.u64.wrap ((IntKind.u64.wrap ((IntKind.u64.wrap ((a0 / 4294967296) * (a1 / 4294967296))) + ((IntKind.u64.wrap ((IntKind.u64.wrap ((a0 / 4294967296) * (Go.bits .and .u64 a1 4294967295))) + ((IntKind.u64.wrap ((Go.bits .and .u64 a0 4294967295) * (Go.bits .and .u64 a1 4294967295))) / 4294967296))) / 4294967296))) + ((IntKind.u64.wrap ((Go.bits .and .u64 (IntKind.u64.wrap ((IntKind.u64.wrap ((a0 / 4294967296) * (Go.bits .and .u64 a1 4294967295))) + ((IntKind.u64.wrap ((Go.bits .and .u64 a0 4294967295) * (Go.bits .and .u64 a1 4294967295))) / 4294967296))) 4294967295) + (IntKind.u64.wrap ((Go.bits .and .u64 a0 4294967295) * (a1 / 4294967296))))) / 4294967296)), IntKind.u64.wrap (a0 * a1))) = some (r1, r2) := h
 clear h
 simp only [Option.some.injEq, Prod.mk.injEq] at H
 obtain ⟨rfl, rfl⟩ := H
 go_enter Try.func92, Try.ntmps92
 go_wp2
 go_ret2
 exact ⟨by first | rfl | (simp; done) | (simp [*]; done), by repeat (first | exact Drawn0.refl _ | apply Drawn0.step)⟩
def bits_Mul.f (a0 : Int) (a1 : Int) : Option (Int × Int) := (bits_Mul64.f a0 a1).bind fun bt155 => (some (bt155.1, bt155.2))
set_option maxHeartbeats 8000000 in
set_option maxRecDepth 100000 in
theorem bits_Mul.calls (a0 : Int) (a1 : Int) (r1 : Int) (r2 : Int) (w : World) (h : bits_Mul.f a0 a1 = some (r1, r2)) :
  Calls Try.prog 90 #[.int .u64 a0, .int .u64 a1] w fun e w' => e = .returned (.tuple #[.int .u64 r1, .int .u64 r2]) ∧ Drawn0 w w' := by
 have H : ((bits_Mul64.f a0 a1).bind fun bt155 => (some (bt155.1, bt155.2))) = some (r1, r2) := h
 clear h
 replace H := Option.bind_eq_some_iff.mp H
 obtain ⟨⟨t155, t156⟩, A30, H⟩ := H
 replace H : (some (t155, t156)) = some (r1, r2) := H
 have A3 := Aside0.mk A30
 clear A30
 simp only [Option.some.injEq, Prod.mk.injEq] at H
 obtain ⟨rfl, rfl⟩ := H
 go_enter Try.func90, Try.ntmps90
 go_wp2_with (first | ((with_reducible refine gate_callee (f := 92) rfl ?_); refine goesL_ (some 25) rfl rfl Try.func92 (by kernel_rfl) rfl #[.int .u64 a0, .int .u64 a1] rfl (by (try simp only [List.map_toArray, List.map_cons, List.map_nil]); first | done | rfl | (simp only [List.length_drop, List.length_take]; rfl)) ?_; (with_reducible refine (bits_Mul64.calls a0 a1 t155 t156 _ A3.out).mono ?_); rintro e w' ⟨rfl, ⟨nd, rfl⟩⟩; refine ⟨_, rfl, ?_⟩))
 go_ret2
 exact ⟨by first | rfl | (simp; done) | (simp [*]; done), by repeat (first | exact Drawn0.refl _ | apply Drawn0.step)⟩
end Go.Proofs.Ytodmemndaaiolaa.PC7
namespace Go.Proofs.Ytodmemndaaiolaa.PC7
set_option linter.unusedVariables false
set_option linter.unusedSimpArgs false
open Go.RowKit Go.Proofs.YtodmemndaaiolaaW.PrintWords Go.Proofs.YtodmemndaaiolaaW.PrintLast Go.Proofs.YtodmemndaaiolaaW.PrintMore
theorem mul_one : ∀ n : Nat, n ≤ 6 → bits_Mul.f 1 (n : Int) = some (0, (n : Int))
 | 0, _ => by kernel_rfl
 | 1, _ => by kernel_rfl
 | 2, _ => by kernel_rfl
 | 3, _ => by kernel_rfl
 | 4, _ => by kernel_rfl
 | 5, _ => by kernel_rfl
 | 6, _ => by kernel_rfl
 | n + 7, h => by omega
def repL (n m : Nat) : List Value := List.replicate m (Value.int .i64 (-1)) ++ List.replicate (n - m) (Value.int .i64 0)
theorem repL_len (n m : Nat) (h : m ≤ n) : (repL n m).length = n := by simp [repL]; omega
theorem repL_zero (n : Nat) : madeCells #[Value.int .i64 0] n = (repL n 0).toArray := by
 apply Array.ext
 ·
  simp [size_madeCells, repL]
 ·
  intro i h1 h2
  simp [madeCells, repL, Nat.mod_one]
theorem repL_splice (n m k : Nat) (h : m + k ≤ n) : splice (repL n m) m (List.replicate k (Value.int .i64 (-1))) = repL n (m + k) := by
 unfold splice repL
 have h1 : (List.replicate m (Value.int .i64 (-1)) ++ List.replicate (n - m) (Value.int .i64 0)).take m = List.replicate m (Value.int .i64 (-1)) := by rw [List.take_append_of_le_length (by simp)]; simp
 rw [h1, List.length_replicate, List.drop_append, List.drop_of_length_le (by simp), List.nil_append, List.drop_replicate, ← List.append_assoc, List.replicate_append_replicate]
 congr 2
 simp
 omega
theorem repL_get (n m j : Nat) (h : j < m) : (repL n m)[j]? = some (Value.int .i64 (-1)) := by
 unfold repL
 rw [List.getElem?_append_left (by simpa using h)]
 simp [h]
set_option maxHeartbeats 8000000 in
set_option maxRecDepth 100000 in
theorem repeat_calls (gx n : Nat) (w : World) (hn : n ≤ 6) (hx : w.heap[gx]? = some (.cells #[.int .i64 (-1)] 3 (0, 0))) :
  Calls Try.prog 83 #[.slice (some ⟨gx, 0, none⟩) 1 1, .int .i64 (n : Int)] w fun e w' => ∃ g, e = .returned (.slice (some ⟨g, 0, none⟩) n n) ∧ w'.heap[g]? = some (.cells (List.replicate n (Value.int .i64 (-1))).toArray 3 (0, 0)) ∧ w.heap.size ≤ g ∧ Below w.heap.size w w' := by
 have HX := Aside0.mk hx
 have HM := Aside0.mk (mul_one n hn)
 have hnn : ¬ (n : Int) < 0 := by omega
 have hcv : IntKind.u64.wrap (n : Int) = (n : Int) := IntWalk.u64_in _ (by omega)
 have hci : IntKind.i64.wrap (n : Int) = (n : Int) := IntWalk.i64_in _ (by omega)
 have hbig : decide ((9223372036854775807 : Int) < (n : Int)) = false := decide_eq_false (by omega)
 clear hx
 go_enter Try.func83, Try.ntmps83
 go_wp2_with (fail)
 refine (bits_Mul.calls 1 (n : Int) 0 (n : Int) w HM.out).mono ?_
 rintro e w' ⟨rfl, ⟨m, rfl⟩⟩
 have hmk : ∀ W : World, (Instr.makeSlice 27 (.int .i64 (n : Int)) (.int .i64 (n : Int))).run Try.prog W = .ok (.slice (some ⟨W.heap.size, 0, none⟩) n n) (W.alloc (.cells (repL n 0).toArray 3)) := fun W => by
  rw [run_make_row' 27 3 (.int .i64 0) 8 Try.underlying27 info3 rfl .i64 .i64 n (by omega) (by omega) W, repL_zero]
 have hsz3 : (Try.prog.info? 3).map (·.size) = some 1 := by kernel_rfl
 have HSZ := Aside0.mk hsz3
 clear hsz3
 obtain ⟨w1, hw1⟩ : ∃ w1 : World, w1 = w.drewN m := ⟨_, rfl⟩
 have HB := Aside0.mk (show Below w.heap.size w w1 by rw [hw1]; exact pw_below_drewN (Below.refl _ _) m)
 rw [← hw1]
 clear hw1
 go_upto_region 7 with (fail)
 clear hmk
 obtain ⟨g, hg_⟩ : ∃ b, b = w1.heap.size := ⟨_, rfl⟩
 have Ng := Aside0.mk (blk_new w1 (.cells (repL n 0).toArray 3 (0, 0)))
 have hbw : Below w1.heap.size w1 (w1.alloc (.cells (repL n 0).toArray 3 (0, 0))) := below_alloc (Below.refl _ _) _
 have hgs_ : w.heap.size ≤ g := by rw [hg_]; exact HB.out.size
 generalize hw_ : w1.alloc (.cells (repL n 0).toArray 3 (0, 0)) = w2 at *
 rw [← hg_] at Ng ⊢
 replace HB := Aside0.mk (below_step HB.out hbw)
 have GEg : Aside0 (w.heap.size ≤ g) := ⟨hgs_⟩
 clear hbw hw_ hg_ hgs_
 have hcs : ∃ k, k = min 1 n := ⟨_, rfl⟩
 obtain ⟨k0, hk0⟩ := hcs
 have HXc := Aside0.mk (blk_below HX.out HB.out)
 have CL := Aside0.mk (show (List.replicate k0 (Value.int .i64 (-1))).length = Nat.min 1 n by rw [List.length_replicate, hk0])
 have CP := Aside0.mk (show 0 < (List.replicate k0 (Value.int .i64 (-1))).length → some (⟨g, 0, none⟩ : Addr) = some ⟨g, 0, none⟩ ∧ ∃ ad, some (⟨gx, 0, none⟩ : Addr) = some ad ∧ ∀ j v, (List.replicate k0 (Value.int .i64 (-1)))[j]? = some v → w2.cell? (ad.add j) = some v from fun hp => ⟨rfl, _, rfl, fun j v hj => by
  have hj0 : j < k0 := by
   have := (List.getElem?_eq_some_iff.1 hj).1
   simpa using this
  have : j = 0 := by omega
  subst this
  rw [List.getElem?_replicate] at hj
  rw [if_pos hj0] at hj
  injection hj with hj
  subst hj
  exact (blk_cell HXc.out 0).trans rfl⟩)
 have CF := Aside0.mk (show 0 + (List.replicate k0 (Value.int .i64 (-1))).length ≤ (repL n 0).length by rw [repL_len n 0 (by omega), List.length_replicate]; omega)
 have C1 := Aside0.mk (show ∀ v ∈ List.replicate k0 (Value.int .i64 (-1)), v.oneCell' = true from fun v hv => by rw [List.eq_of_mem_replicate hv]; rfl)
 go_wp2_with ((with_reducible refine gate_builtin (b := .copy) (xs := #[.tmp 31, .tmp 32]) rfl ?_); refine wpList_copy_splice rfl (.tmp 31) (.tmp 32) 27 27 rfl 3 Try.underlying27 HSZ.out (some ⟨g, 0, none⟩) (some ⟨gx, 0, none⟩) n n 1 1 rfl rfl g 0 (repL n 0) 3 Ng.out (List.replicate k0 (Value.int .i64 (-1))) CL.out CP.out CF.out C1.out w.heap.size w HB.out GEg.out ?_; intro w3 hid hb3; have B3 := Aside0.mk hid.out; have HB3 := Aside0.mk hb3; clear hid hb3)
 have B4 := Aside0.mk (show w3.heap[g]? = some (.cells (repL n k0).toArray 3 (0, 0)) by have h := repL_splice n 0 k0 (by omega); rw [Nat.zero_add] at h; rw [← h]; exact B3.out)
 clear Ng B3 CL CP CF C1 HB HXc
 go_loopg [8] n (fun gk v8 wr => ∃ m : Nat, m ≤ n ∧ (0 < m ∨ n = 0) ∧ n - m ≤ gk ∧ v8 = .int .i64 m ∧ Aside0 (wr.heap[g]? = some (.cells (repL n m).toArray 3 (0, 0))) ∧ Aside0 (Below w.heap.size w wr))
 case atStart => exact ⟨k0, by omega, by omega, by omega, by rw [hk0], B4, HB3⟩
 case round =>
  clear B4 HB3
  obtain ⟨m, hm, hm0, hgk, rfl, B3, HB⟩ := hrel
  by_cases hlt : m < n
  ·
   have hlz : (m : Int) < (n : Int) := by omega
   obtain ⟨k1, hk1⟩ : ∃ k, k = min m (n - m) := ⟨_, rfl⟩
   go_upto_region 9 with (fail)
   have hd_ := below_drew1 (Below.refl wr.heap.size wr)
   replace B3 := Aside0.mk (blk_drew B3.out)
   replace HB := Aside0.mk (below_step HB.out hd_)
   clear hd_
   have CL := Aside0.mk (show (List.replicate k1 (Value.int .i64 (-1))).length = Nat.min m (n - m) by rw [List.length_replicate, hk1])
   have CP := Aside0.mk (show 0 < (List.replicate k1 (Value.int .i64 (-1))).length → (if n = m then some (⟨g, 0, none⟩ : Addr) else some ⟨g, m, none⟩) = some ⟨g, m, none⟩ ∧ ∃ ad, some (⟨g, 0, none⟩ : Addr) = some ad ∧ ∀ j v, (List.replicate k1 (Value.int .i64 (-1)))[j]? = some v → wr.drew.cell? (ad.add j) = some v from fun hp => ⟨if_neg (by omega), _, rfl, fun j v hj => by
    have hj0 : j < k1 := by
     have := (List.getElem?_eq_some_iff.1 hj).1
     simpa using this
    rw [List.getElem?_replicate, if_pos hj0] at hj
    refine ((congrArg wr.drew.cell? (show Addr.add ⟨g, 0, none⟩ j = ⟨g, j, none⟩ by simp [Addr.add, eq_comm])).trans (blk_cell B3.out j)).trans ?_
    rw [List.getElem?_toArray, repL_get n m j (by omega)]
    exact hj⟩)
   have CF := Aside0.mk (show m + (List.replicate k1 (Value.int .i64 (-1))).length ≤ (repL n m).length by rw [repL_len n m hm, List.length_replicate]; omega)
   have C1 := Aside0.mk (show ∀ v ∈ List.replicate k1 (Value.int .i64 (-1)), v.oneCell' = true from fun v hv => by rw [List.eq_of_mem_replicate hv]; rfl)
   refine start_ (n := 10) (S := fun w' => True) (ds := [7]) #[false, false, false, false, false, false, false, false, false, false] (by kernel_rfl) rfl rfl trivial (fun hHeld => ?_)
   generalize wr.drew = wd at B3 HB CP hHeld ⊢
   refine pure_y 0 (some 38) (bz 10 1) ?_
   refine pure_y 1 (some 39) (bz 10 3) ?_
   refine pure_y 2 (some 40) (bz 10 7) ?_
   refine pure_y 3 (some 41) (bz 10 15) ?_
   refine pure_y 4 (some 42) (bz 10 31) ?_
   refine pure_y 5 (some 43) (bz 10 63) ?_
   refine pure_y 6 (some 44) (bz 10 127) ?_
   refine last_ (i := 7) (N := some 45) (bz 10 255) rfl rfl (by kernel_rfl) (by decide) (fun K hK => ?_)
   refine step_copy_splice rfl (.tmp 41) (.tmp 44) 27 27 rfl 3 Try.underlying27 HSZ.out _ _ _ _ _ _ rfl rfl g m (repL n m) 3 B3.out (List.replicate k1 (.int .i64 (-1))) CL.out CP.out CF.out C1.out w.heap.size w HB.out GEg.out ?_
   intro w' hid hb'
   have B5 := Aside0.mk hid.out
   have HB5 := Aside0.mk hb'
   clear hid hb'
   refine hK.out _ _ ?_
   clear hK K
   refine norm_ (a' := ?_) ?_ ?_; rotate_left; (show Act.put _ (some 45) _ = _; simp only [Act.put, put_x, i64_w, i32_w]; rfl)
   refine pure_y 8 (some 46) (bz 10 511) ?_
   refine pure_y 9 (some 8) (bz 10 1023) ?_
   refine done_ (by kernel_rfl) ?_
   clear CL CP CF C1 HB
   have B6 := Aside0.mk (show w'.heap[g]? = some (.cells (repL n (m + k1)).toArray 3 (0, 0)) by rw [← repL_splice n m k1 (by omega)]; exact B5.out)
   go_wp2
   go_roundg (n - (m + k1))
   case measure => omega
   case rel => exact ⟨m + k1, by omega, by omega, by omega, (congrArg (Value.int .i64) (by first | omega | (rw [IntWalk.wrap64_in _ (by omega)]; omega))), B6, HB5⟩
  ·
   have : m = n := by omega
   subst this
   go_wp2
   go_ret
   refine ⟨g, rfl, ?_, GEg.out, HB.out⟩
   have hb := B3.out
   unfold repL at hb
   rw [Nat.sub_self] at hb
   simpa using hb
set_option maxHeartbeats 8000000 in
set_option maxRecDepth 100000 in
theorem clone_calls (ad : Addr) (c : Nat) (l : List Int) (w : World) (hr : Kd.C (Kd.int .i64) w (some ad) l.length l) (hc : l.length ≤ c) (hl : l.length ≤ 1000000) :
  Calls Try.prog 84 #[.slice (some ad) l.length c] w fun e w' => ∃ v, e = .returned v ∧ Kd.R (Kd.int .i64) 3 w' w.heap.size (fun _ => True) v l ∧ Below w.heap.size w w' := by
 have HR0 := Aside0.mk hr
 clear hr
 obtain ⟨y0, hy0⟩ : ∃ y : List Int, y = [] := ⟨_, rfl⟩
 have hyl : y0.length = 0 := by rw [hy0]; rfl
 have HY := Aside0.mk hy0
 clear hy0
 have hnil : ∀ w : World, (binOp .eql 27 (.slice (some ad) l.length c) (.slice none 0 0)).run Try.prog w = .ok (.bool false) w := fun w => Lib.run_eql_slice_nil w 27 3 (some ad) l.length c 0 0 Try.underlying27
 go_enter Try.func84, Try.ntmps84
 go_wp2_with (first
  | ((with_reducible refine gate_dst (N := 5) rfl ?_); refine Kd.R_lit (Kd.int .i64) _ 3 ?hg (N := 5) ?hd (xs := ([] : List Int)) (inner := []) (ok := fun _ => True) (okp := fun _ => True) ?hr ?hp (fun _ hk => hk) trivial (Below.refl _ _) (Nat.le_refl _) (by simp) ?_; (case hd => rfl); (case hg => rfl); (case hr => first | (go_simp; done) | (go_simp; rfl)); (case hp => exact (Reps.none _ _)); intro v3 w3 ho hb hg_ hnew_; clear hg_ hnew_; rw [← HY.out] at ho; have HO := Aside0.mk ho; have HB := Aside0.mk hb; clear hb ho)
  | ((with_reducible refine gate_builtin (b := .append) (xs := #[.tmp 5, .tmp 6]) rfl ?_); at_builtin; refine Kd.R_append_rows (Kd.int .i64) (w0 := w) w.heap.size rfl (.tmp 5) (.tmp 6) 27 3 (.int .i64 0) 8 rfl Try.underlying27 info3 rfl (by decide) (by omega) v3 y0 l _ _ _ (fun _ => True) (fun _ => False) rfl rfl ?aO ?aR (fun _ _ h => h) (fun _ h => h.elim) ?aF ?aB ?aS ?aL ?_; (case aR => exact Kd.C_below HR0.out HB.out); (case aB => exact HB.out); (case aF => exact (fun _ _ => trivial)); (case aO => exact HO.out); (case aS => exact HB.out.size); (case aL => omega); intro v4 w5 ho hb hg hat; rw [HY.out, List.nil_append] at ho; have HO5 := Aside0.mk ho; have HB5 := Aside0.mk hb; clear ho hb hg hat))
 go_ret
 exact ⟨_, rfl, HO5.out, HB5.out⟩
end Go.Proofs.Ytodmemndaaiolaa.PC7
namespace Go.Proofs.Ytodmemndaaiolaa.PC7
set_option linter.unusedVariables false
set_option linter.unusedSimpArgs false
open Go.RowKit Go.Proofs.YtodmemndaaiolaaW.PrintWords Go.Proofs.YtodmemndaaiolaaW.PrintLast Go.Proofs.YtodmemndaaiolaaW.PrintMore
open Go.Shelf
attribute [local go_sem] Oper.semAt_some
def KpB (gb : Nat) (A B : World) : Prop := ∀ b o, b ≠ gb → A.heap[b]? = some o → o.isCells = true → B.heap[b]? = some o
def encStow (x : Value × List Int) : Array Value := #[x.1]
def RxS (n₀ : Nat) (L : List (List Int)) (b : Nat) (x : Value × List Int) (W : World) : Prop := x.2 ∈ L ∧ ∃ base, n₀ ≤ base ∧ b < base ∧ Kd.R (Kd.int .i64) 3 W base (fun _ => True) x.1 x.2
set_option maxHeartbeats 8000000 in
set_option maxRecDepth 100000 in
theorem clone_row (g N : Nat) (l : List Int) (w : World) (hb : w.heap[g]? = some (.cells (l.map (Value.int .i64)).toArray 3 (0, 0))) (hl : l.length = N) (hN : N ≤ 6) :
  Calls Try.prog 84 #[.slice (some ⟨g, 0, none⟩) N N] w fun e w' => ∃ v, e = .returned v ∧ Kd.R (Kd.int .i64) 3 w' w.heap.size (fun _ => True) v l ∧ Below w.heap.size w w' := by
 subst hl
 refine clone_calls ⟨g, 0, none⟩ l.length l w ?_ (Nat.le_refl _) (by omega)
 refine (Kd.R_reads' (R_of_owns .i64 (e := 3) (W := w) (base := 0) (v := .slice (some ⟨g, 0, none⟩) l.length l.length) (xs := l) ⟨by simp, .inr ⟨g, l.length, _, rfl, Nat.zero_le _, hb, Nat.le_refl _, by unfold maxLen; omega, by simp, by rw [Nat.mul_one]; exact List.take_of_length_le (by simp)⟩⟩)).2.2
set_option maxHeartbeats 8000000 in
set_option maxRecDepth 100000 in
theorem stowages_gives (n gv n₀ gbest : Nat) (hn : 1 ≤ n) (x : VoyV) (w : World) (hb : w.heap[gv]? = some (.cells #[.int .i64 x.light, .int .i64 x.under, .int .i64 x.trim, .slice x.A3 x.holds.length x.c3, .int .i64 x.leaves, .slice x.A5 x.sills.length x.c5, .slice x.A6 x.lots.length x.c6] 26 (0, 0))) (hne : gv ≠ gbest) (hlt : gbest < w.heap.size) (hH : x.holds.length ≤ 100) (hN : x.lots.length ≤ 6) (hn0 : n₀ ≤ w.heap.size) :
  GivesR n 82 #[.pointer (some ⟨gv, 0, none⟩)] encStow (RxS n₀ (stowsL x.holds.length x.lots.length)) (KpB gbest) (fun xs => xs.map (·.2) = stowsL x.holds.length x.lots.length) w := by
 intro l J W hW hJ hJs hY h0
 refine callsIn_wide.2 ?_
 have BV := Aside0.mk (blk_below hb hW)
 have HY := Aside0.mk hY
 have H0 := Aside0.mk h0
 have HW := Aside0.mk (Below.refl W.heap.size W)
 have HLT := Aside0.mk (show gbest < W.heap.size from Nat.lt_of_lt_of_le hlt hW.size)
 have HN0 := Aside0.mk (Nat.le_trans hn0 hW.size)
 have HNV := Aside0.mk (show gv < W.heap.size from blk_lt BV.out)
 clear hb hY h0 hW hlt hn0
 have hz6_ : (W.alloc (.cells #[.int .i64 (-1)] 3 (0, 0))).cell? ⟨gv, 6, none⟩ = some (.slice x.A6 x.lots.length x.c6) := (blk_cell (blk_below BV.out (below_alloc HW.out _)) 6).trans rfl
 go_enter Try.func82, Try.ntmps82
 go_wp2_with (fail)
 refine (repeat_calls W.heap.size x.lots.length _ hN (blk_new _ _)).mono ?_
 rintro e w1 ⟨g, rfl, hg1, hgs, hb1⟩
 have BG0 := Aside0.mk hg1
 have GE := Aside0.mk (show W.heap.size ≤ g by have := World.size_alloc W (.cells #[.int .i64 (-1)] 3 (0, 0)); omega)
 have HB1 := Aside0.mk (show Below W.heap.size W w1 from below_step (below_alloc (Below.refl _ _) _) hb1)
 have BV1 := Aside0.mk (blk_below BV.out HB1.out)
 have HJ1 := Aside0.mk (hJ g _ _ _ _ (H0.out g GE.out) (grown_of_below HB1.out none) (by simp))
 clear hg1 hgs hb1 hz6_ H0 HW BV
 go_wp2_with (fail)
 obtain ⟨T, hT⟩ : ∃ T : List (List Int), T = stowsL x.holds.length x.lots.length := ⟨_, rfl⟩
 obtain ⟨r0, hr0⟩ := stowsL_head x.holds.length x.lots.length
 have HTM := Aside0.mk (fun k t (h : (stowsL x.holds.length x.lots.length)[k]? = some t) => stowsL_mem _ _ t (List.mem_of_getElem? h))
 have HTN := Aside0.mk (stowsL_next x.holds.length x.lots.length)
 rw [← hT] at hr0 HTM HTN
 have HTQ := Aside0.mk hT
 have HT0 := Aside0.mk (show T[0]? = some (List.replicate x.lots.length (-1)) by rw [hr0]; rfl)
 have HTT := Aside0.mk (show 0 < T.length by rw [hr0]; simp)
 clear hr0 r0 hT
 go_loopg [4] T.length (fun gk v4 wr => ∃ k : Nat, ∃ pre : List (Value × List Int), ∃ t : List Int, k < T.length ∧ T.length - k ≤ gk + 1 ∧ Aside0 (pre.map (·.2) = T.take k) ∧ Aside0 (T[k]? = some t) ∧ Aside0 (J g pre wr) ∧ Aside0 (wr.heap[g]? = some (.cells (t.map (Value.int .i64)).toArray 3 (0, 0))) ∧ Aside0 (wr.heap[gv]? = some (.cells #[.int .i64 x.light, .int .i64 x.under, .int .i64 x.trim, .slice x.A3 x.holds.length x.c3, .int .i64 x.leaves, .slice x.A5 x.sills.length x.c5, .slice x.A6 x.lots.length x.c6] 26 (0, 0))))
 case atStart => exact ⟨0, [], _, HTT.out, by omega, ⟨rfl⟩, HT0, HJ1, ⟨by rw [BG0.out]; simp⟩, BV1⟩
 case round =>
  clear BG0 HB1 BV1 HJ1 HT0 HTT
  obtain ⟨k, pre, t, hk, hgk, HPR, HTK, HJP, BG, BV⟩ := hrel
  obtain ⟨htl, hte⟩ := HTM.out k t HTK.out
  have HTE := Aside0.mk hte
  clear hte
  refine (wpIn_wide (n := n)).1 ?_
  gi_wp2
  refine ⟨trivial, callsIn_wide.2 ((clone_row g x.lots.length t wr BG.out htl hN).mono ?_)⟩
  rintro e w2 ⟨v, rfl, hR, hb2⟩
  have hgl : g < wr.heap.size := blk_lt BG.out
  have hRX : RxS n₀ (stowsL x.holds.length x.lots.length) g (v, t) w2 := ⟨by rw [← HTQ.out]; exact List.mem_of_getElem? HTK.out, wr.heap.size, by have := HN0.out; have := GE.out; omega, hgl, hR⟩
  have BG2 := Aside0.mk (blk_below BG.out hb2)
  have BV2 := Aside0.mk (blk_below BV.out hb2)
  have hJ2 := hJ g _ _ _ _ HJP.out (grown_of_below hb2 none) (by simp)
  obtain ⟨fn, tmps, assign, body, hy, hRR⟩ := HY.out g pre (v, t) w2 GE.out hJ2 hRX
  dsimp only [encStow] at hy
  have HRR := Aside0.mk hRR
  clear hRR hJ2 hRX hR hb2 hgl BG BV HJP
  gi_wp2
  refine HRR.out.mono ?_
  rintro e W3 ⟨rfl, hJ3, hk3⟩
  have HJ3 := Aside0.mk hJ3
  have BG3 := Aside0.mk (hk3 g _ (by have := HLT.out; have := GE.out; omega) BG2.out rfl)
  have BV3 := Aside0.mk (hk3 gv _ hne BV2.out rfl)
  clear hJ3 hk3 HRR hy BG2 BV2
  gi_wp2
  refine wpIn_wide.2 ?_
  have HN := Aside0.mk (HTN.out k t HTK.out)
  go_loopg [4] x.lots.length (fun gk2 v4 wr2 => ∃ j : Nat, j ≤ x.lots.length ∧ j ≤ gk2 ∧ v4 = .int .i64 ((j : Int) - 1) ∧ Aside0 (t = t.take j ++ List.replicate (t.length - j) ((x.holds.length : Int) - 1)) ∧ Aside0 (J g (pre ++ [(v, t)]) wr2) ∧ Aside0 (wr2.heap[g]? = some (.cells ((curL t j).map (Value.int .i64)).toArray 3 (0, 0))) ∧ Aside0 (wr2.heap[gv]? = some (.cells #[.int .i64 x.light, .int .i64 x.under, .int .i64 x.trim, .slice x.A3 x.holds.length x.c3, .int .i64 x.leaves, .slice x.A5 x.sills.length x.c5, .slice x.A6 x.lots.length x.c6] 26 (0, 0))))
  case atStart => exact ⟨x.lots.length, Nat.le_refl _, Nat.le_refl _, rfl, ⟨by rw [← htl]; simp⟩, HJ3, ⟨by rw [← htl, curL_all]; exact BG3.out⟩, BV3⟩
  case round =>
   clear BG3 BV3 HJ3
   obtain ⟨j, hj, hgk2, rfl, HF, HJP, BG, BV⟩ := hrel
   cases j with
   | zero =>
    have HDN := Aside0.mk (enum_done v HPR.out HTK.out (HN.out.symm.trans (next_none t _ HF.out)))
    go_upto_region 3 with (fail)
    go_quiet (fail)
    have HJ4 := Aside0.mk (hJ g _ _ _ _ HJP.out (grown_of_below (pw_below_drewN (Below.refl _ _) nq) none) (by simp))
    obtain ⟨wq, hwq⟩ : ∃ wq : World, wq = wr.drewN nq := ⟨_, rfl⟩
    rw [← hwq] at HJ4 ⊢
    clear hwq
    go_wp2
    refine wpIn_wide.2 ?_
    go_wp2
    refine bodyPost_ret (results_none rfl _ _ _) rfl ?_
    exact ⟨⟨_, rfl⟩, g, _, GE.out, by rw [← HTQ.out]; exact HDN.out, HJ4.out⟩
   | succ j =>
    rw [show ((j + 1 : Nat) : Int) - 1 = (j : Int) by omega]
    have hjl : j < t.length := by omega
    have hjz : (j : Int) < (x.lots.length : Int) := by omega
    have hge : decide ((0 : Int) ≤ (j : Int)) = true := decide_eq_true (by omega)
    have HG := Aside0.mk (curL_get t j hjl)
    have HC := Aside0.mk (curL_back t j hjl)
    have hcl : wr.cell? ⟨g, j, none⟩ = some (.int .i64 (t.getD j 0)) := (blk_cell BG.out j).trans (by rw [List.getElem?_toArray, List.getElem?_map, HG.out]; rfl)
    have hz3 : wr.cell? ⟨gv, 3, none⟩ = some (.slice x.A3 x.holds.length x.c3) := (blk_cell BV.out 3).trans rfl
    have HI := Aside0.mk (HTE.out (t.getD j 0) (by rw [List.getD, List.getElem?_eq_getElem hjl]; exact List.getElem_mem hjl))
    by_cases hd : t.getD j 0 = (x.holds.length : Int) - 1
    ·
     have HFB := Aside0.mk (full_back t _ j hjl HF.out hd)
     rw [hd] at hcl
     clear HF HI
     go_upto_region 3 with (fail)
     go_quiet (fail)
     have HJ4 := Aside0.mk (hJ g _ _ _ _ HJP.out (grown_of_below (pw_below_drewN (Below.refl _ _) nq) none) (by simp))
     have BG4 := Aside0.mk (blk_drewN BG.out nq)
     have BV4 := Aside0.mk (blk_drewN BV.out nq)
     obtain ⟨wq, hwq⟩ : ∃ wq : World, wq = wr.drewN nq := ⟨_, rfl⟩
     rw [← hwq] at HJ4 BG4 BV4 ⊢
     clear hwq hcl hz3 BG BV HJP
     have hcl : wq.cell? ⟨g, j, none⟩ = some (.int .i64 ((x.holds.length : Int) - 1)) := (blk_cell BG4.out j).trans (by rw [List.getElem?_toArray, List.getElem?_map, HG.out, hd]; rfl)
     have HSJ := Aside0.mk (hJs g _ _ j (.int .i64 (-1)) GE.out HJ4.out (by rw [hcl]; simp))
     have BG5 := Aside0.mk (blk_put BG4.out j (.int .i64 (-1)) ((map_set_int (curL t (j + 1)) j (-1)).trans (by rw [HC.out])))
     have BV5 := Aside0.mk (blk_far BV4.out (p := ⟨g, j, none⟩) (by have := HNV.out; have := GE.out; show gv ≠ g; omega) (.int .i64 (-1)))
     have hfz := blk_frozen BG4.out
     clear HG
     go_wp2
     go_roundg j
     case measure => omega
     case rel => exact ⟨j, by omega, Nat.le_refl _, rfl, HFB, HSJ, BG5, BV5⟩
    ·
     have HNX := Aside0.mk (next_at t _ j hjl HF.out hd)
     have hdi := HI.out
     clear HF HI
     generalize t.getD j 0 = d at *
     have hdb : (d == (x.holds.length : Int) - 1) = false := beq_eq_false_iff_ne.2 hd
     go_upto_region 3 with (fail)
     go_quiet (fail)
     have HJ4 := Aside0.mk (hJ g _ _ _ _ HJP.out (grown_of_below (pw_below_drewN (Below.refl _ _) nq) none) (by simp))
     have BG4 := Aside0.mk (blk_drewN BG.out nq)
     have BV4 := Aside0.mk (blk_drewN BV.out nq)
     obtain ⟨wq, hwq⟩ : ∃ wq : World, wq = wr.drewN nq := ⟨_, rfl⟩
     rw [← hwq] at HJ4 BG4 BV4 ⊢
     have hcq : wq.cell? ⟨g, j, none⟩ = some (.int .i64 d) := (blk_cell BG4.out j).trans (by rw [List.getElem?_toArray, List.getElem?_map, HG.out]; rfl)
     clear hwq hcl hz3 BG BV HJP
     have HSJ := Aside0.mk (hJs g _ _ j (.int .i64 (d + 1)) GE.out HJ4.out (by rw [hcq]; simp))
     have BG5 := Aside0.mk (blk_put BG4.out j (.int .i64 (d + 1)) (map_set_int (curL t (j + 1)) j (d + 1)))
     have BV5 := Aside0.mk (blk_far BV4.out (p := ⟨g, j, none⟩) (by have := HNV.out; have := GE.out; show gv ≠ g; omega) (.int .i64 (d + 1)))
     have hfz := blk_frozen BG4.out
     have HK1 := Aside0.mk (HN.out.symm.trans HNX.out)
     have HLK := Aside0.mk (List.getElem?_eq_some_iff.1 HK1.out).1
     have HMO := Aside0.mk (enum_more v HPR.out HTK.out)
     have hgx := HLK.out
     clear HG
     go_wp2
     refine wpIn_wide.2 ?_
     go_wp2
     go_roundg (T.length - (k + 2))
     case measure => omega
     case rel => exact ⟨k + 1, _, _, HLK.out, by omega, HMO, HK1, HSJ, BG5, BV5⟩
end Go.Proofs.Ytodmemndaaiolaa.PC7
namespace Go.Proofs.Ytodmemndaaiolaa.PC7
set_option linter.unusedVariables false
open Go.RowKit Go.Proofs.YtodmemndaaiolaaW.PrintLast
section
variable {P : Program} {ops : Array Oper} {Q : Exit → Act → World → Prop} {md : Region.Mode} {S : World → Prop} {ds : List Nat} {l n : Nat}
theorem opIn_of_wp {o : Oper} {a : Act} {w : World} {K : Act → World → Prop} (hd : ∀ c, o.op ≠ .defer c) (h : o.wp P a w K Q) : o.wpIn (Fence.wide.inRound l) n P a w K Q := by
  refine ⟨fun _ _ => trivial, ?_⟩
  rw [Oper.semAt_eq _ _ _ hd]
  unfold Oper.wp at h
  have hdep : (Fence.wide.inRound l).depth.isSome = true → 1 ≤ n := fun hh => by simp [Fence.wide, Fence.inRound] at hh
  generalize (execOp a.eval o).run P w = r at h ⊢
  cases r with
  | ok x w' =>
    cases x with
    | value v => exact h
    | skip => exact h
    | defer d => exact h
    | enter f args => exact ⟨hdep, (callsIn_wide.2 h).inRound l⟩
    | row row args =>
      refine ⟨hdep, fun c cs _ => ?_⟩
      obtain ⟨v, w2, hr, hs⟩ := h c cs
      exact ⟨v, w2, hr, stepsIn_wide.2 hs⟩
    | round l' f tmps assign body => exact h.elim
    | _ => exact h.elim
  | halt x w' =>
    cases x with
    | panic v => exact h
    | _ => exact h.elim
theorem opIn_of {i : Nat} {a : Act} {w : World} {K : Act → World → Prop} (hd : ∀ o, ops[i]? = some o → ∀ c, o.op ≠ .defer c) (hL : ¬ LetsOut Q) (h : wpOp P ops Q i K a w) : wpOpIn (Fence.wide.inRound l) n P ops Q i K a w := by
  unfold wpOp at h
  unfold wpOpIn
  cases ho : ops[i]? with
  | none => rw [ho] at h; exact h
  | some o =>
    rw [ho] at h
    simp only at h ⊢
    by_cases hw : Region.wanted o (yielded ops a.tmps) = true
    · rw [if_pos hw] at h ⊢
      rcases h with h | ⟨_, h⟩
      · exact opIn_of_wp (hd o ho) h
      · exact absurd h hL
    · rw [if_neg hw] at h ⊢
      exact ⟨fun _ _ => trivial, h⟩
theorem anyIn_of (hd : ∀ (i : Nat) (o : Oper), ops[i]? = some o → ∀ c, o.op ≠ .defer c) (hL : ¬ LetsOut Q) : ∀ (fuel : Nat) (listed : Array Bool) (a : Act) (w : World), wpAny P md ops Q fuel listed a w → wpAnyIn (Fence.wide.inRound l) n P md ops Q fuel listed a w
  | 0, _, _, _, h => h
  | fuel + 1, listed, a, w, h => ⟨h.1, fun i hi => opIn_of (hd i) hL (wpOp_mono (fun a' w' h' => anyIn_of hd hL fuel _ a' w' h') (h.2 i hi))⟩
def noDefer (ops : Array Oper) : Bool := ops.all fun o => match o.op with | .defer _ => false | _ => true
theorem noDefer_spec (h : noDefer ops = true) : ∀ (i : Nat) (o : Oper), ops[i]? = some o → ∀ c, o.op ≠ .defer c := by
  intro i o ho c hc
  have := Array.all_eq_true_iff_forall_mem.1 h o (Array.mem_of_getElem? ho)
  rw [hc] at this
  cases this
theorem startR_ {id m : Nat} {a : Act} {w : World} (l₀ : Array Bool) (hdf : noDefer ops = true) (hL : ¬ LetsOut Q) (hm : P.follows .mixedOrders = true) (hn : ops.size = m) (hl : Array.replicate m false = l₀) (hS : S w.drew)
    (h : S w.drew → wpAnyLast P .any ops Q S ds m l₀ a w.drew) : (Code.region id ops true).wpIn (Fence.wide.inRound l) n P Q a w := by
  subst hn
  subst hl
  exact wpIn_region_any hm (anyIn_of (noDefer_spec hdf) hL _ _ _ _ (wpAny_of_last _ _ _ _ (h hS)))
end
end Go.Proofs.Ytodmemndaaiolaa.PC7
namespace Go.Proofs.Ytodmemndaaiolaa.PC7
open Go.RowKit Go.Proofs.YtodmemndaaiolaaW.PrintWords Go.Proofs.YtodmemndaaiolaaW.PrintLast Go.Proofs.YtodmemndaaiolaaW.PrintMore
attribute [local go_sem] max2_int min2_int max_two min_two max_three min_three max_four min_four
set_option linter.unusedVariables false
set_option linter.unusedSimpArgs false
def ship_level.f (k : Nat) (a0_0 : Int) (a0_1 : Int) (a0_2 : Int) (l0_3 : List (S85)) (a0_4 : Int) (l0_5 : List (S59)) (l0_6 : List (S79)) (a1_0 : Int) (a1_1 : Int) : Option (Bool) := (ship_greatest.f k a1_1 (([wrap64 (-a1_0)] : List Int))).bind fun t154 => (some (decide (t154 ≤ (wrap64 (1000 * a0_2)))))
theorem ship_level.mono : ∀ a0 a1 a2 a3 a4 a5 a6 a7 a8 k, LeO (ship_level.f k a0 a1 a2 a3 a4 a5 a6 a7 a8) (ship_level.f (k + 1) a0 a1 a2 a3 a4 a5 a6 a7 a8) := by
 intro a0 a1 a2 a3 a4 a5 a6 a7 a8 k
 unfold ship_level.f
 repeat' first
   | (with_reducible exact ship_greatest.mono _ _ _)
   | (with_reducible exact LeO.refl _)
   | (with_reducible exact LeO.none _)
   | (with_reducible refine LeO.ite ?_ ?_)
   | (with_reducible refine LeO.bind ?_ (fun _ => ?_))
   | exact ship_greatest.mono _ _ _
   | exact LeO.none _
   | refine LeO.ite ?_ ?_
   | refine LeO.bind ?_ (fun _ => ?_)
def ship_level.T1 : Bool × List (List Nat × List Nat) := (true, [([], []), ([0], [0]), ([], []), ([2], [2]), ([3], [3]), ([4], [4]), ([1, 5], [1, 5]), ([], []), ([7], [7]), ([8], [8]), ([6, 9], [6, 9]), ([10, 6, 0, 1, 2, 3, 4, 5, 6, 7, 8, 9, 10], [10])])
def ship_level.B1 : List Nat := [0, 1, 0, 4, 12, 28, 63, 0, 128, 384, 1023, 2047]
theorem ship_level.tab1 : rtab .any (opsOf Try.f64 1) = ship_level.T1 := by kernel_rfl
theorem ship_level.bits1 : waitsOk ship_level.T1.2 ship_level.B1 = true := by kernel_rfl
set_option maxHeartbeats 8000000 in
set_option maxRecDepth 100000 in
theorem ship_level.calls (k : Nat) (a0_0 : Int) (a0_1 : Int) (a0_2 : Int) (A0_3 : Option Addr) (c0_3 : Nat) (l0_3 : List (S85)) (a0_4 : Int) (A0_5 : Option Addr) (c0_5 : Nat) (l0_5 : List (S59)) (A0_6 : Option Addr) (c0_6 : Nat) (l0_6 : List (S79)) (a1_0 : Int) (a1_1 : Int) (r : Bool) (w : World) (hr0_3 : Kd.C k85 w A0_3 l0_3.length l0_3) (hc0_3 : l0_3.length ≤ c0_3) (hr0_5 : Kd.C k59 w A0_5 l0_5.length l0_5) (hc0_5 : l0_5.length ≤ c0_5) (hr0_6 : Kd.C k79 w A0_6 l0_6.length l0_6) (hc0_6 : l0_6.length ≤ c0_6) (h : ship_level.f k a0_0 a0_1 a0_2 l0_3 a0_4 l0_5 l0_6 a1_0 a1_1 = some r) :
  Calls Try.prog 64 #[.agg #[.int .i64 a0_0, .int .i64 a0_1, .int .i64 a0_2, .slice A0_3 l0_3.length c0_3, .int .i64 a0_4, .slice A0_5 l0_5.length c0_5, .slice A0_6 l0_6.length c0_6], .agg #[.int .i64 a1_0, .int .i64 a1_1]] w fun e w' => e = .returned (.bool r) ∧ Below w.heap.size w w' := by
 have hu26 := Try.underlying26
 have hu56 := Try.underlying56
 have HR0_3 := Aside0.mk hr0_3
 have HC0_3 := Aside0.mk hc0_3
 clear hr0_3 hc0_3
 have HR0_5 := Aside0.mk hr0_5
 have HC0_5 := Aside0.mk hc0_5
 clear hr0_5 hc0_5
 have HR0_6 := Aside0.mk hr0_6
 have HC0_6 := Aside0.mk hc0_6
 clear hr0_6 hc0_6
 have HB := Aside0.mk (Below.refl w.heap.size w)
 have H : ((ship_greatest.f k a1_1 (([wrap64 (-a1_0)] : List Int))).bind fun t154 => (some (decide (t154 ≤ (wrap64 (1000 * a0_2)))))) = some r := h
 clear h
 obtain ⟨y151, hy151⟩ : ∃ y_ : List Int, y_ = (([wrap64 (-a1_0)] : List Int)) := ⟨_, rfl⟩
 replace H : ((ship_greatest.f k a1_1 y151).bind fun t154 => (some (decide (t154 ≤ (wrap64 (1000 * a0_2)))))) = some r := by first | (rw [hy151]; with_reducible exact H) | (have H2_ := (Option.bind_some _ _).symm.trans H; rw [hy151]; with_reducible exact H2_) | (have H2_ := (Option.bind_some _ _).symm.trans H; with_reducible exact H2_) | with_reducible exact H | (rw [hy151]; exact H) | exact H
 have Ny151 := Aside0.mk hy151
 clear hy151
 replace H := Option.bind_eq_some_iff.mp H
 obtain ⟨t154, A30, H⟩ := H
 replace H : (some (decide (t154 ≤ (wrap64 (1000 * a0_2))))) = some r := H
 have A3 := Aside0.mk A30
 clear A30
 obtain rfl := Option.some.inj H
 go_enter Try.func64, Try.ntmps64
 try go_wp2_with (first | ((with_reducible refine gate_dst (N := 2) rfl ?_); refine box_event ?hg (N := 2) ?hd (cs := #[.int .i64 a0_0, .int .i64 a0_1, .int .i64 a0_2, .slice A0_3 l0_3.length c0_3, .int .i64 a0_4, .slice A0_5 l0_5.length c0_5, .slice A0_6 l0_6.length c0_6]) (t := 26) ?hr ?_; (case hd => rfl); (case hg => rfl); (case hr => first | (go_simp; done) | (go_simp; rfl)); intro gb149 hg w4 hbox hb; have BK149 := Aside0.mk (hbox); have GW149 := Aside0.mk ((by rw [hg]; exact (below_size (below_x HB.out)) : w.heap.size ≤ gb149)); have GE149 := Aside0.mk ((by rw [hg]; exact (below_size (below_x HB.out)) : w.heap.size ≤ gb149)); replace HB := Aside0.mk (below_step (below_x HB.out) hb); clear hb hbox hg) | ((with_reducible refine gate_dst (N := 3) rfl ?_); refine box_event ?hg (N := 3) ?hd (cs := #[.int .i64 a1_0, .int .i64 a1_1]) (t := 56) ?hr ?_; (case hd => rfl); (case hg => rfl); (case hr => first | (go_simp; done) | (go_simp; rfl)); intro gb150 hg w5 hbox hb; have BK150 := Aside0.mk (hbox); have GW150 := Aside0.mk ((by rw [hg]; exact (below_size (by exact below_y HB.out)) : w.heap.size ≤ gb150)); have GE150 := Aside0.mk ((by rw [hg]; exact (below_size (by exact below_y HB.out)) : w.heap.size ≤ gb150)); replace HB := bl_x HB hb; have NB149_150 := Aside0.mk ((by rw [hg]; exact Nat.ne_of_lt (blk_lt (g := gb149) (o := .cells #[.int .i64 a0_0, .int .i64 a0_1, .int .i64 a0_2, .slice A0_3 l0_3.length c0_3, .int .i64 a0_4, .slice A0_5 l0_5.length c0_5, .slice A0_6 l0_6.length c0_6] 26 (0, 0)) (blk_x BK149.out)) : gb149 ≠ gb150)); have NB150_149 := Aside0.mk ((by rw [hg]; exact Nat.ne_of_gt (blk_lt (g := gb149) (o := .cells #[.int .i64 a0_0, .int .i64 a0_1, .int .i64 a0_2, .slice A0_3 l0_3.length c0_3, .int .i64 a0_4, .slice A0_5 l0_5.length c0_5, .slice A0_6 l0_6.length c0_6] 26 (0, 0)) (blk_x BK149.out)) : gb150 ≠ gb149)); replace BK149 := Aside0.mk (blk_below (blk_x BK149.out) hb); clear hb hbox hg))
 replace BK149 := Aside0.mk (blk_drew BK149.out)
 replace BK150 := Aside0.mk (blk_drew BK150.out)
 replace HB := Aside0.mk (below_drew1 HB.out)
 refine start_ (n := 12) (S := fun w' => w'.cell? ⟨gb150, 0, none⟩ = some (.int .i64 a1_0) ∧ w'.cell? ⟨gb150, 1, none⟩ = some (.int .i64 a1_1) ∧ w'.cell? ⟨gb149, 0, none⟩ = some (.int .i64 a0_0) ∧ w'.cell? ⟨gb149, 1, none⟩ = some (.int .i64 a0_1) ∧ w'.cell? ⟨gb149, 2, none⟩ = some (.int .i64 a0_2) ∧ w'.cell? ⟨gb149, 3, none⟩ = some (.slice A0_3 l0_3.length c0_3) ∧ w'.cell? ⟨gb149, 4, none⟩ = some (.int .i64 a0_4) ∧ w'.cell? ⟨gb149, 5, none⟩ = some (.slice A0_5 l0_5.length c0_5) ∧ w'.cell? ⟨gb149, 6, none⟩ = some (.slice A0_6 l0_6.length c0_6)) (ds := []) #[false, false, false, false, false, false, false, false, false, false, false, false] (by kernel_rfl) rfl rfl ⟨(blk_cell BK150.out 0).trans rfl, (blk_cell BK150.out 1).trans rfl, (blk_cell BK149.out 0).trans rfl, (blk_cell BK149.out 1).trans rfl, (blk_cell BK149.out 2).trans rfl, (blk_cell BK149.out 3).trans rfl, (blk_cell BK149.out 4).trans rfl, (blk_cell BK149.out 5).trans rfl, (blk_cell BK149.out 6).trans rfl⟩ (fun hHeld => ?_); refine with_tabW ship_level.tab1 ship_level.bits1 (fun HT_ HW_ => ?_)
 generalize w5.drew = w6 at BK149 BK150 HB hHeld ⊢
 refine pure_t 0 (some 5) (bz 12 1) HT_ ?_
 refine pure_t 2 (some 7) (bz 12 5) HT_ ?_
 refine pure_t 7 (some 12) (bz 12 133) HT_ ?_
 refine take_ (i := 1) (N := some 6) (v := ?_) (a' := ?_) (bz 12 135) rfl rfl (take_ofW HT_.out HW_.out (by kernel_rfl)) (fun _ _ _ h => h) (Or.inl ⟨by rfl, ?_⟩) hHeld ?_ ?_
 rotate_left; (rintro w' ⟨s0, s1, s2, s3, s4, s5, s6, s7, s8⟩; go_simp; with_reducible rfl); rotate_left; (simp only [Act.put, put_x, i64_w, i32_w]; rfl)
 refine take_ (i := 3) (N := some 8) (v := ?_) (a' := ?_) (bz 12 143) rfl rfl (take_ofW HT_.out HW_.out (by kernel_rfl)) (fun _ _ _ h => h) (Or.inl ⟨by rfl, ?_⟩) hHeld ?_ ?_
 rotate_left; (rintro w' ⟨s0, s1, s2, s3, s4, s5, s6, s7, s8⟩; go_simp; with_reducible rfl); rotate_left; (simp only [Act.put, put_x, i64_w, i32_w]; rfl)
 refine pure_t 4 (some 9) (bz 12 159) HT_ ?_
 refine take_ (i := 8) (N := some 13) (v := ?_) (a' := ?_) (bz 12 415) rfl rfl (take_ofW HT_.out HW_.out (by kernel_rfl)) (fun _ _ _ h => h) (Or.inl ⟨by rfl, ?_⟩) hHeld ?_ ?_
 rotate_left; (rintro w' ⟨s0, s1, s2, s3, s4, s5, s6, s7, s8⟩; go_simp; with_reducible rfl); rotate_left; (simp only [Act.put, put_x, i64_w, i32_w]; rfl)
 refine pure_t 9 (some 14) (bz 12 927) HT_ ?_
 refine one_ (i := 5) (N := some 10) (bz 12 959) rfl rfl (one_of HT_.out (by kernel_rfl)) (by decide) (fun K hK => ?_)
 refine Kd.R_lit_step (Kd.int .i64) _ 3 ?hg (N := 10) ?hd (xs := ([wrap64 (-a1_0)] : List Int)) (inner := [.int .i64 (wrap64 (-a1_0))]) (ok := fun _ => True) (okp := fun _ => True) ?hr ?hp (fun _ hk => hk) trivial (Below.refl _ _) (Nat.le_refl _) (by simp) ?_; (case hd => rfl); (case hg => rfl); (case hr => first | (go_simp; done) | (go_simp; rfl)); (case hp => exact (Reps.one (show Kd.M (Kd.int .i64) _ _ _ (wrap64 (-a1_0)) [.int .i64 (wrap64 (-a1_0))] from rfl) (Reps.none _ _)))
 intro v152 w7 ho8 hb hg_ hnew_
 clear hg_ hnew_
 (first | rw [← Ny151.out] at ho8 | (simp only [Int.reduceToNat] at ho8; rw [← Ny151.out] at ho8))
 have HO153 := Aside0.mk (Kd.R_lower ho8 (below_size (by exact below_y HB.out)))
 replace BK149 := Aside0.mk (blk_below (blk_x BK149.out) hb)
 replace BK150 := Aside0.mk (blk_below (blk_x BK150.out) hb)
 replace HB := bl_x HB hb
 clear hb ho8
 obtain ⟨Ao9, co9, eo9⟩ := Kd.R_slice HO153.out
 (first | subst eo9 | (injection eo9 with f1_ f2_ f3_; have f4_ := f1_.symm; have f5_ := f3_.symm; clear f1_ f2_ f3_; subst f4_; subst f5_))
 refine hK.out _ _ ⟨(blk_cell BK150.out 0).trans rfl, (blk_cell BK150.out 1).trans rfl, (blk_cell BK149.out 0).trans rfl, (blk_cell BK149.out 1).trans rfl, (blk_cell BK149.out 2).trans rfl, (blk_cell BK149.out 3).trans rfl, (blk_cell BK149.out 4).trans rfl, (blk_cell BK149.out 5).trans rfl, (blk_cell BK149.out 6).trans rfl⟩ (fun hHeld => ?_)
 clear hK K
 refine norm_ (a' := ?_) ?_ ?_; rotate_left; (show Act.put _ (some 10) _ = _; simp only [Act.put, put_x, i64_w, i32_w]; rfl)
 refine one_ (i := 6) (N := some 11) (bz 12 1023) rfl rfl (one_of HT_.out (by kernel_rfl)) (by decide) (fun K hK => ?_)
 refine goes_ Try.func79 (by kernel_rfl) rfl #[.int .i64 a1_1, .slice Ao9 y151.length co9] (by rfl) rfl rfl (by (try simp only [List.map_toArray, List.map_cons, List.map_nil]); first | done | rfl | (simp only [List.length_drop, List.length_take]; rfl)) ?_
 with_reducible refine (ship_greatest.calls k a1_1 _ _ y151 t154 _ ?side1 ?side2 A3.out).mono ?_
 (case side1 => exact Kd.C_y (Kd.R_reads' HO153.out).2.2)
 (case side2 => exact (Kd.R_reads' HO153.out).2.1)
 rintro e w10 ⟨rfl, hb⟩
 refine ⟨_, rfl, ?_⟩
 replace HO153 := Aside0.mk (Kd.R_below (Kd.R_x HO153.out) hb)
 replace BK149 := Aside0.mk (blk_below (blk_x BK149.out) hb)
 replace BK150 := Aside0.mk (blk_below (blk_x BK150.out) hb)
 replace HB := bl_x HB hb
 (try clear hb)
 (try clear hb2)
 (try clear hk)
 (try clear hi)
 refine hK.out _ _ ⟨(blk_cell BK150.out 0).trans rfl, (blk_cell BK150.out 1).trans rfl, (blk_cell BK149.out 0).trans rfl, (blk_cell BK149.out 1).trans rfl, (blk_cell BK149.out 2).trans rfl, (blk_cell BK149.out 3).trans rfl, (blk_cell BK149.out 4).trans rfl, (blk_cell BK149.out 5).trans rfl, (blk_cell BK149.out 6).trans rfl⟩ (fun hHeld => ?_)
 clear hK K
 refine norm_ (a' := ?_) ?_ ?_; rotate_left; (show Act.put _ (some 11) _ = _; simp only [Act.put, put_x, i64_w, i32_w]; rfl)
 refine pure_t 10 (some 15) (bz 12 2047) HT_ ?_
 refine pure_t 11 (some 4) (bz 12 4095) HT_ ?_
 refine done_ (done_of HT_.out (by kernel_rfl)) ?_
 try go_wp2
 go_ret
 exact ⟨by first | rfl | (simp [errW_none, errW_some] <;> rfl) | (simp [*, errW_none, errW_some] <;> rfl), by exact below_y HB.out⟩
def ship_apart.l0 : Nat → List Int → Int → Int → Int → Int → Int → List (S85) → Int → List (S59) → List (S79) → Int → Int → Option (Int × Int)
 | 0, _, _, _, _, _, _, _, _, _, _, _, _ => none
 | k + 1, x10, x11, x12, x141000, x141001, x141002, x141003, x141004, x141005, x141006, x143000, x143001 => if x12 < x11 then (if 0 ≤ x12 then (if x12 < (x10.length : Int) then (if (rd x10 x12) < 0 then (ship_apart.l0 k x10 x11 (wrap64 (x12 + 1)) x141000 x141001 x141002 x141003 x141004 x141005 x141006 x143000 x143001) else (if x12 < (x141006.length : Int) then (if 0 ≤ (rd x10 x12) then (if (rd x10 x12) < (x141003.length : Int) then (ship_apart.l0 k x10 x11 (wrap64 (x12 + 1)) x141000 x141001 x141002 x141003 x141004 x141005 x141006 (wrap64 (x143000 + (mn (wrap64 (((rd_T79 x141006 x12).f0.f0) * (wrap64 (((rd_T85 x141003 (rd x10 x12)).f1) - ((rd_T85 x141003 (rd x10 x12)).f2))))) (wrap64 (((rd_T79 x141006 x12).f0.f1) * (wrap64 (((rd_T85 x141003 (rd x10 x12)).f1) - ((rd_T85 x141003 (rd x10 x12)).f2)))))))) (wrap64 (x143001 + (mx (wrap64 (((rd_T79 x141006 x12).f0.f0) * (wrap64 (((rd_T85 x141003 (rd x10 x12)).f1) - ((rd_T85 x141003 (rd x10 x12)).f2))))) (wrap64 (((rd_T79 x141006 x12).f0.f1) * (wrap64 (((rd_T85 x141003 (rd x10 x12)).f1) - ((rd_T85 x141003 (rd x10 x12)).f2))))))))) else (none)) else (none)) else (none))) else (none)) else (none)) else (some (x143000, x143001))
def ship_apart.f (k : Nat) (a0_0 : Int) (a0_1 : Int) (a0_2 : Int) (l0_3 : List (S85)) (a0_4 : Int) (l0_5 : List (S59)) (l0_6 : List (S79)) (l1 : List Int) : Option (Int × Int) := ship_apart.l0 k l1 (l1.length : Int) 0 a0_0 a0_1 a0_2 l0_3 a0_4 l0_5 l0_6 0 0
theorem ship_apart.mono_l : ∀ k, (∀ y0 y1 y2 y3 y4 y5 y6 y7 y8 y9 y10 y11, LeO (ship_apart.l0 k y0 y1 y2 y3 y4 y5 y6 y7 y8 y9 y10 y11) (ship_apart.l0 (k + 1) y0 y1 y2 y3 y4 y5 y6 y7 y8 y9 y10 y11))
 | 0 => fun _ _ _ _ _ _ _ _ _ _ _ _ r h => by simp [ship_apart.l0] at h
 | k + 1 => by
  have ih0 := ship_apart.mono_l k
  ·
   intro y0 y1 y2 y3 y4 y5 y6 y7 y8 y9 y10 y11
   unfold ship_apart.l0
   repeat' first
   | (with_reducible exact ih0 _ _ _ _ _ _ _ _ _ _ _ _)
   | (with_reducible exact LeO.refl _)
   | (with_reducible exact LeO.none _)
   | (with_reducible refine LeO.ite ?_ ?_)
   | (with_reducible refine LeO.bind ?_ (fun _ => ?_))
   | exact ih0 _ _ _ _ _ _ _ _ _ _ _ _
   | exact LeO.none _
   | refine LeO.ite ?_ ?_
   | refine LeO.bind ?_ (fun _ => ?_)
theorem ship_apart.mono : ∀ a0 a1 a2 a3 a4 a5 a6 a7 k, LeO (ship_apart.f k a0 a1 a2 a3 a4 a5 a6 a7) (ship_apart.f (k + 1) a0 a1 a2 a3 a4 a5 a6 a7) := by
 intro a0 a1 a2 a3 a4 a5 a6 a7 k
 have ih0 := ship_apart.mono_l k
 unfold ship_apart.f
 repeat' first
   | (with_reducible exact ih0 _ _ _ _ _ _ _ _ _ _ _ _)
   | (with_reducible exact LeO.refl _)
   | (with_reducible exact LeO.none _)
   | (with_reducible refine LeO.ite ?_ ?_)
   | (with_reducible refine LeO.bind ?_ (fun _ => ?_))
   | exact ih0 _ _ _ _ _ _ _ _ _ _ _ _
   | exact LeO.none _
   | refine LeO.ite ?_ ?_
   | refine LeO.bind ?_ (fun _ => ?_)
def ship_apart.T6 : Bool × List (List Nat × List Nat) := (true, [([], []), ([0], [0]), ([], []), ([1, 2], [1, 2]), ([3], [3]), ([4], [4]), ([], []), ([6], [6]), ([], []), ([7, 8], [7, 8]), ([9], [9]), ([10], [10]), ([], []), ([12], [12]), ([], []), ([13, 14], [13, 14]), ([15], [15]), ([16], [16]), ([11, 17], [11, 17]), ([], []), ([19, 5, 0, 1, 2, 3, 4, 5, 19], [5, 19]), ([18, 20, 0, 1, 2, 3, 4, 5, 6, 7, 8, 9, 10, 11, 12, 13, 14, 15, 16, 17, 18, 19, 20], [18])])
def ship_apart.B6 : List Nat := [0, 1, 0, 7, 15, 31, 0, 64, 0, 448, 960, 1984, 0, 4096, 0, 28672, 61440, 126976, 262080, 0, 524351, 2097151]
theorem ship_apart.tab6 : rtab .any (opsOf Try.f65 6) = ship_apart.T6 := by kernel_rfl
theorem ship_apart.bits6 : waitsOk ship_apart.T6.2 ship_apart.B6 = true := by kernel_rfl
set_option maxHeartbeats 8000000 in
set_option maxRecDepth 100000 in
theorem ship_apart.calls (k : Nat) (a0_0 : Int) (a0_1 : Int) (a0_2 : Int) (A0_3 : Option Addr) (c0_3 : Nat) (l0_3 : List (S85)) (a0_4 : Int) (A0_5 : Option Addr) (c0_5 : Nat) (l0_5 : List (S59)) (A0_6 : Option Addr) (c0_6 : Nat) (l0_6 : List (S79)) (A1 : Option Addr) (c1 : Nat) (l1 : List Int) (r1 : Int) (r2 : Int) (w : World) (hr0_3 : Kd.C k85 w A0_3 l0_3.length l0_3) (hc0_3 : l0_3.length ≤ c0_3) (hr0_5 : Kd.C k59 w A0_5 l0_5.length l0_5) (hc0_5 : l0_5.length ≤ c0_5) (hr0_6 : Kd.C k79 w A0_6 l0_6.length l0_6) (hc0_6 : l0_6.length ≤ c0_6) (hr1 : Kd.C (Kd.int .i64) w A1 l1.length l1) (hc1 : l1.length ≤ c1) (h : ship_apart.f k a0_0 a0_1 a0_2 l0_3 a0_4 l0_5 l0_6 l1 = some (r1, r2)) :
  Calls Try.prog 65 #[.agg #[.int .i64 a0_0, .int .i64 a0_1, .int .i64 a0_2, .slice A0_3 l0_3.length c0_3, .int .i64 a0_4, .slice A0_5 l0_5.length c0_5, .slice A0_6 l0_6.length c0_6], .slice A1 l1.length c1] w fun e w' => e = .returned (.agg #[.int .i64 r1, .int .i64 r2]) ∧ Below w.heap.size w w' := by
 have hu26 := Try.underlying26
 have hu56 := Try.underlying56
 have HR0_3 := Aside0.mk hr0_3
 have HC0_3 := Aside0.mk hc0_3
 clear hr0_3 hc0_3
 have HR0_5 := Aside0.mk hr0_5
 have HC0_5 := Aside0.mk hc0_5
 clear hr0_5 hc0_5
 have HR0_6 := Aside0.mk hr0_6
 have HC0_6 := Aside0.mk hc0_6
 clear hr0_6 hc0_6
 have HR1 := Aside0.mk hr1
 have HC1 := Aside0.mk hc1
 clear hr1 hc1
 have HB := Aside0.mk (Below.refl w.heap.size w)
 have H : (ship_apart.l0 k l1 (l1.length : Int) 0 a0_0 a0_1 a0_2 l0_3 a0_4 l0_5 l0_6 0 0) = some (r1, r2) := h
 clear h
 have H' := Aside0.mk H
 clear H
 go_enter Try.func65, Try.ntmps65
 go_wp2_with (first | ((with_reducible refine gate_dst (N := 2) rfl ?_); refine box_event ?hg (N := 2) ?hd (cs := #[.int .i64 a0_0, .int .i64 a0_1, .int .i64 a0_2, .slice A0_3 l0_3.length c0_3, .int .i64 a0_4, .slice A0_5 l0_5.length c0_5, .slice A0_6 l0_6.length c0_6]) (t := 26) ?hr ?_; (case hd => rfl); (case hg => rfl); (case hr => first | (go_simp; done) | (go_simp; rfl)); intro gb140 hg w3 hbox hb; have BK140 := Aside0.mk (hbox); have GW140 := Aside0.mk ((by rw [hg]; exact (below_size (below_x HB.out)) : w.heap.size ≤ gb140)); have GE140 := Aside0.mk ((by rw [hg]; exact (below_size (below_x HB.out)) : w.heap.size ≤ gb140)); replace HB := Aside0.mk (below_step (below_x HB.out) hb); clear hb hbox hg) | ((with_reducible refine gate_dst (N := 4) rfl ?_); refine box_event ?hg (N := 4) ?hd (cs := #[.int .i64 0, .int .i64 0]) (t := 56) ?hr ?_; (case hd => rfl); (case hg => rfl); (case hr => first | (go_simp; done) | (go_simp; rfl)); intro gb141 hg w4 hbox hb; have BK141 := Aside0.mk (hbox); have GW141 := Aside0.mk ((by rw [hg]; exact (below_size (by exact below_y HB.out)) : w.heap.size ≤ gb141)); have GE141 := Aside0.mk ((by rw [hg]; exact (below_size (by exact below_y HB.out)) : w.heap.size ≤ gb141)); replace HB := bl_x HB hb; have NB140_141 := Aside0.mk ((by rw [hg]; exact Nat.ne_of_lt (blk_lt (g := gb140) (o := .cells #[.int .i64 a0_0, .int .i64 a0_1, .int .i64 a0_2, .slice A0_3 l0_3.length c0_3, .int .i64 a0_4, .slice A0_5 l0_5.length c0_5, .slice A0_6 l0_6.length c0_6] 26 (0, 0)) (blk_x BK140.out)) : gb140 ≠ gb141)); have NB141_140 := Aside0.mk ((by rw [hg]; exact Nat.ne_of_gt (blk_lt (g := gb140) (o := .cells #[.int .i64 a0_0, .int .i64 a0_1, .int .i64 a0_2, .slice A0_3 l0_3.length c0_3, .int .i64 a0_4, .slice A0_5 l0_5.length c0_5, .slice A0_6 l0_6.length c0_6] 26 (0, 0)) (blk_x BK140.out)) : gb141 ≠ gb140)); replace BK140 := Aside0.mk (blk_below (blk_x BK140.out) hb); clear hb hbox hg) | ((with_reducible refine gate_dst (N := 5) rfl ?_); refine box_event ?hg (N := 5) ?hd (cs := #[.int .i64 0, .int .i64 0]) (t := 56) ?hr ?_; (case hd => rfl); (case hg => rfl); (case hr => first | (go_simp; done) | (go_simp; rfl)); intro gb142 hg w5 hbox hb; have BK142 := Aside0.mk (hbox); have GW142 := Aside0.mk ((by rw [hg]; exact (below_size (by exact below_y HB.out)) : w.heap.size ≤ gb142)); have GE142 := Aside0.mk ((by rw [hg]; exact (below_size (by exact below_y HB.out)) : w.heap.size ≤ gb142)); replace HB := bl_x HB hb; have NB140_142 := Aside0.mk ((by rw [hg]; exact Nat.ne_of_lt (blk_lt (g := gb140) (o := .cells #[.int .i64 a0_0, .int .i64 a0_1, .int .i64 a0_2, .slice A0_3 l0_3.length c0_3, .int .i64 a0_4, .slice A0_5 l0_5.length c0_5, .slice A0_6 l0_6.length c0_6] 26 (0, 0)) (blk_x BK140.out)) : gb140 ≠ gb142)); have NB142_140 := Aside0.mk ((by rw [hg]; exact Nat.ne_of_gt (blk_lt (g := gb140) (o := .cells #[.int .i64 a0_0, .int .i64 a0_1, .int .i64 a0_2, .slice A0_3 l0_3.length c0_3, .int .i64 a0_4, .slice A0_5 l0_5.length c0_5, .slice A0_6 l0_6.length c0_6] 26 (0, 0)) (blk_x BK140.out)) : gb142 ≠ gb140)); replace BK140 := Aside0.mk (blk_below (blk_x BK140.out) hb); have NB141_142 := Aside0.mk ((by rw [hg]; exact Nat.ne_of_lt (blk_lt (g := gb141) (o := .cells #[.int .i64 0, .int .i64 0] 56 (0, 0)) (blk_x BK141.out)) : gb141 ≠ gb142)); have NB142_141 := Aside0.mk ((by rw [hg]; exact Nat.ne_of_gt (blk_lt (g := gb141) (o := .cells #[.int .i64 0, .int .i64 0] 56 (0, 0)) (blk_x BK141.out)) : gb142 ≠ gb141)); replace BK141 := Aside0.mk (blk_below (blk_x BK141.out) hb); clear hb hbox hg))
 go_loopg [12] k (fun kq v12 w' => ∃ (x12_1 : Int) (x143000_1 : Int) (x143001_1 : Int), v12 = .int .i64 x12_1 ∧ Aside0 (ship_apart.l0 kq l1 (l1.length : Int) x12_1 a0_0 a0_1 a0_2 l0_3 a0_4 l0_5 l0_6 x143000_1 x143001_1 = some (r1, r2)) ∧ Aside0 (kq ≤ k) ∧ Aside0 (w'.heap[gb140]? = some (.cells #[.int .i64 a0_0, .int .i64 a0_1, .int .i64 a0_2, (.slice A0_3 l0_3.length c0_3), .int .i64 a0_4, (.slice A0_5 l0_5.length c0_5), (.slice A0_6 l0_6.length c0_6)] 26 (0, 0))) ∧ Aside0 (w'.heap[gb141]? = some (.cells #[.int .i64 0, .int .i64 0] 56 (0, 0))) ∧ Aside0 (w'.heap[gb142]? = some (.cells #[.int .i64 x143000_1, .int .i64 x143001_1] 56 (0, 0))) ∧ Aside0 (Below w.heap.size w w'))
 case atStart => exact ⟨(0), (0), (0), (by first | rfl | (simp; done) | (simp [*]; done)), H', ⟨Nat.le_refl _⟩, ⟨blk_x BK140.out⟩, ⟨blk_x BK141.out⟩, ⟨blk_x BK142.out⟩, ⟨by exact below_y HB.out⟩⟩
 case round =>
  clear H'
  obtain ⟨x12_1, x143000_1, x143001_1, rfl, HA, HK1, BK140, BK141, BK142, HB⟩ := hrel
  cases gk with
  | zero => exact absurd HA.out (by simp [ship_apart.l0])
  | succ k1 =>
   have H := HA.out
   clear HA
   simp only [ship_apart.l0] at H
   by_cases c6 : x12_1 < (l1.length : Int)
   ·
    rw [if_pos c6] at H
    have c6b0 : decide (x12_1 < (l1.length : Int)) = true := decide_eq_true c6
    clear c6
    by_cases c7 : 0 ≤ x12_1
    ·
     rw [if_pos c7] at H
     have c7b0 : decide (0 ≤ x12_1) = true := decide_eq_true c7
     clear c7
     by_cases c8 : x12_1 < (l1.length : Int)
     ·
      rw [if_pos c8] at H
      have c8b0 : decide (x12_1 < (l1.length : Int)) = true := decide_eq_true c8
      clear c8
      by_cases c9 : (rd l1 x12_1) < 0
      ·
       rw [if_pos c9] at H
       have c9b0 : decide ((rd l1 x12_1) < 0) = true := decide_eq_true c9
       clear c9
       have H' := Aside0.mk H
       clear H
       have p143 : 0 ≤ (x12_1 : Int) := of_x
       have q143 : x12_1 < (l1.length : Int) := of_x
       obtain ⟨ad143, e143, hx143_0⟩ := Kd.at_int HR1.out x12_1 p143 q143
       cases e143
       replace hx143_0 := cell_x HB hx143_0
       replace p143 := eq_true p143
       replace q143 := eq_true q143
       go_wp2
       go_roundg k1
       case measure => have := HK1.out; omega
       case rel => exact ⟨(wrap64 (x12_1 + 1)), (x143000_1), (x143001_1), (by first | rfl | (simp; done) | (simp [*]; done)), H', ⟨by have := HK1.out; omega⟩, ⟨blk_x BK140.out⟩, ⟨blk_x BK141.out⟩, ⟨blk_x BK142.out⟩, ⟨by exact below_y HB.out⟩⟩
      ·
       rw [if_neg c9] at H
       have c9b0 : decide ((rd l1 x12_1) < 0) = false := decide_eq_false c9
       clear c9
       by_cases c10 : x12_1 < (l0_6.length : Int)
       ·
        rw [if_pos c10] at H
        have c10b0 : decide (x12_1 < (l0_6.length : Int)) = true := decide_eq_true c10
        clear c10
        by_cases c11 : 0 ≤ (rd l1 x12_1)
        ·
         rw [if_pos c11] at H
         have c11b0 : decide (0 ≤ (rd l1 x12_1)) = true := decide_eq_true c11
         clear c11
         by_cases c12 : (rd l1 x12_1) < (l0_3.length : Int)
         ·
          rw [if_pos c12] at H
          have c12b0 : decide ((rd l1 x12_1) < (l0_3.length : Int)) = true := decide_eq_true c12
          clear c12
          obtain ⟨ji13, hji13⟩ : ∃ j_ : Int, (mn (wrap64 (((rd_T79 l0_6 x12_1).f0.f0) * (wrap64 (((rd_T85 l0_3 (rd l1 x12_1)).f1) - ((rd_T85 l0_3 (rd l1 x12_1)).f2))))) (wrap64 (((rd_T79 l0_6 x12_1).f0.f1) * (wrap64 (((rd_T85 l0_3 (rd l1 x12_1)).f1) - ((rd_T85 l0_3 (rd l1 x12_1)).f2)))))) = j_ := ⟨_, rfl⟩
          replace H : (ship_apart.l0 k1 l1 (l1.length : Int) (wrap64 (x12_1 + 1)) a0_0 a0_1 a0_2 l0_3 a0_4 l0_5 l0_6 (wrap64 (x143000_1 + (ji13))) (wrap64 (x143001_1 + (mx (wrap64 (((rd_T79 l0_6 x12_1).f0.f0) * (wrap64 (((rd_T85 l0_3 (rd l1 x12_1)).f1) - ((rd_T85 l0_3 (rd l1 x12_1)).f2))))) (wrap64 (((rd_T79 l0_6 x12_1).f0.f1) * (wrap64 (((rd_T85 l0_3 (rd l1 x12_1)).f1) - ((rd_T85 l0_3 (rd l1 x12_1)).f2))))))))) = some (r1, r2) := by first | (rw [hji13] at H; exact H) | (simp only [hji13] at H ⊢; exact H)
          have hji13_ : (if (wrap64 (((rd_T79 l0_6 x12_1).f0.f1) * (wrap64 (((rd_T85 l0_3 (rd l1 x12_1)).f1) - ((rd_T85 l0_3 (rd l1 x12_1)).f2))))) < (wrap64 (((rd_T79 l0_6 x12_1).f0.f0) * (wrap64 (((rd_T85 l0_3 (rd l1 x12_1)).f1) - ((rd_T85 l0_3 (rd l1 x12_1)).f2))))) then (wrap64 (((rd_T79 l0_6 x12_1).f0.f1) * (wrap64 (((rd_T85 l0_3 (rd l1 x12_1)).f1) - ((rd_T85 l0_3 (rd l1 x12_1)).f2))))) else (wrap64 (((rd_T79 l0_6 x12_1).f0.f0) * (wrap64 (((rd_T85 l0_3 (rd l1 x12_1)).f1) - ((rd_T85 l0_3 (rd l1 x12_1)).f2)))))) = ji13 := hji13
          obtain ⟨ji14, hji14⟩ : ∃ j_ : Int, (mx (wrap64 (((rd_T79 l0_6 x12_1).f0.f0) * (wrap64 (((rd_T85 l0_3 (rd l1 x12_1)).f1) - ((rd_T85 l0_3 (rd l1 x12_1)).f2))))) (wrap64 (((rd_T79 l0_6 x12_1).f0.f1) * (wrap64 (((rd_T85 l0_3 (rd l1 x12_1)).f1) - ((rd_T85 l0_3 (rd l1 x12_1)).f2)))))) = j_ := ⟨_, rfl⟩
          replace H : (ship_apart.l0 k1 l1 (l1.length : Int) (wrap64 (x12_1 + 1)) a0_0 a0_1 a0_2 l0_3 a0_4 l0_5 l0_6 (wrap64 (x143000_1 + (ji13))) (wrap64 (x143001_1 + (ji14)))) = some (r1, r2) := by first | (rw [hji14] at H; exact H) | (simp only [hji14] at H ⊢; exact H)
          have hji14_ : (if (wrap64 (((rd_T79 l0_6 x12_1).f0.f0) * (wrap64 (((rd_T85 l0_3 (rd l1 x12_1)).f1) - ((rd_T85 l0_3 (rd l1 x12_1)).f2))))) < (wrap64 (((rd_T79 l0_6 x12_1).f0.f1) * (wrap64 (((rd_T85 l0_3 (rd l1 x12_1)).f1) - ((rd_T85 l0_3 (rd l1 x12_1)).f2))))) then (wrap64 (((rd_T79 l0_6 x12_1).f0.f1) * (wrap64 (((rd_T85 l0_3 (rd l1 x12_1)).f1) - ((rd_T85 l0_3 (rd l1 x12_1)).f2))))) else (wrap64 (((rd_T79 l0_6 x12_1).f0.f0) * (wrap64 (((rd_T85 l0_3 (rd l1 x12_1)).f1) - ((rd_T85 l0_3 (rd l1 x12_1)).f2)))))) = ji14 := hji14
          have H' := Aside0.mk H
          clear H
          have p143 : 0 ≤ (x12_1 : Int) := of_x
          have q143 : x12_1 < (l1.length : Int) := of_x
          obtain ⟨ad143, e143, hx143_0⟩ := Kd.at_int HR1.out x12_1 p143 q143
          cases e143
          replace hx143_0 := cell_x HB hx143_0
          replace p143 := eq_true p143
          replace q143 := eq_true q143
          try go_wp2
          replace BK140 := Aside0.mk (blk_drew BK140.out)
          replace BK141 := Aside0.mk (blk_drew BK141.out)
          replace BK142 := Aside0.mk (blk_drew BK142.out)
          replace HB := Aside0.mk (below_drew1 HB.out)
          have p144 : 0 ≤ (x12_1 : Int) := of_x
          have q144 : x12_1 < (l0_6.length : Int) := of_x
          obtain ⟨ad144, e144, hx144_0, hx144_1, hx144_2⟩ := at_T79 HR0_6.out x12_1 p144 q144
          have hw144_2 := hx144_2
          have hw144_1 := hx144_1
          have hw144_0 := hx144_0
          cases e144
          replace hx144_0 := cell_x HB hx144_0
          replace hx144_1 := cell_x HB hx144_1
          replace hx144_2 := cell_x HB hx144_2
          replace p144 := eq_true p144
          replace q144 := eq_true q144
          have p145 : 0 ≤ ((rd l1 x12_1) : Int) := of_x
          have q145 : (rd l1 x12_1) < (l0_3.length : Int) := of_x
          obtain ⟨ad145, e145, hx145_0, hx145_1, hx145_2⟩ := at_T85 HR0_3.out (rd l1 x12_1) p145 q145
          have hw145_2 := hx145_2
          have hw145_1 := hx145_1
          have hw145_0 := hx145_0
          cases e145
          replace hx145_0 := cell_x HB hx145_0
          replace hx145_1 := cell_x HB hx145_1
          replace hx145_2 := cell_x HB hx145_2
          replace p145 := eq_true p145
          replace q145 := eq_true q145
          have p146 : 0 ≤ ((rd l1 x12_1) : Int) := of_x
          have q146 : (rd l1 x12_1) < (l0_3.length : Int) := of_x
          obtain ⟨ad146, e146, hx146_0, hx146_1, hx146_2⟩ := at_T85 HR0_3.out (rd l1 x12_1) p146 q146
          have hw146_2 := hx146_2
          have hw146_1 := hx146_1
          have hw146_0 := hx146_0
          obtain rfl : ad145 = ad146 := (by injection e146)
          replace hx146_0 := cell_x HB hx146_0
          replace hx146_1 := cell_x HB hx146_1
          replace hx146_2 := cell_x HB hx146_2
          replace p146 := eq_true p146
          replace q146 := eq_true q146
          refine start_ (n := 22) (S := fun w' => w'.cell? ⟨gb140, 0, none⟩ = some (.int .i64 a0_0) ∧ w'.cell? ⟨gb140, 1, none⟩ = some (.int .i64 a0_1) ∧ w'.cell? ⟨gb140, 2, none⟩ = some (.int .i64 a0_2) ∧ w'.cell? ⟨gb140, 3, none⟩ = some (.slice (some ad145) l0_3.length c0_3) ∧ w'.cell? ⟨gb140, 4, none⟩ = some (.int .i64 a0_4) ∧ w'.cell? ⟨gb140, 5, none⟩ = some (.slice A0_5 l0_5.length c0_5) ∧ w'.cell? ⟨gb140, 6, none⟩ = some (.slice (some ad144) l0_6.length c0_6) ∧ w'.cell? (ad144.add ((x12_1).toNat * 3)) = some (.int .i64 ((rd_T79 l0_6 x12_1).f0.f0)) ∧ w'.cell? ⟨(ad144.add ((x12_1).toNat * 3)).block, (ad144.add ((x12_1).toNat * 3)).off + 1, none⟩ = some (.int .i64 ((rd_T79 l0_6 x12_1).f0.f1)) ∧ w'.cell? ⟨(ad144.add ((x12_1).toNat * 3)).block, (ad144.add ((x12_1).toNat * 3)).off + 2, none⟩ = some (.int .i64 ((rd_T79 l0_6 x12_1).f1)) ∧ w'.cell? (ad145.add (((rd l1 x12_1)).toNat * 3)) = some (.int .i64 ((rd_T85 l0_3 (rd l1 x12_1)).f0)) ∧ w'.cell? ⟨(ad145.add (((rd l1 x12_1)).toNat * 3)).block, (ad145.add (((rd l1 x12_1)).toNat * 3)).off + 1, none⟩ = some (.int .i64 ((rd_T85 l0_3 (rd l1 x12_1)).f1)) ∧ w'.cell? ⟨(ad145.add (((rd l1 x12_1)).toNat * 3)).block, (ad145.add (((rd l1 x12_1)).toNat * 3)).off + 2, none⟩ = some (.int .i64 ((rd_T85 l0_3 (rd l1 x12_1)).f2)) ∧ w'.cell? (ad145.add (((rd l1 x12_1)).toNat * 3)) = some (.int .i64 ((rd_T85 l0_3 (rd l1 x12_1)).f0)) ∧ w'.cell? ⟨(ad145.add (((rd l1 x12_1)).toNat * 3)).block, (ad145.add (((rd l1 x12_1)).toNat * 3)).off + 1, none⟩ = some (.int .i64 ((rd_T85 l0_3 (rd l1 x12_1)).f1)) ∧ w'.cell? ⟨(ad145.add (((rd l1 x12_1)).toNat * 3)).block, (ad145.add (((rd l1 x12_1)).toNat * 3)).off + 2, none⟩ = some (.int .i64 ((rd_T85 l0_3 (rd l1 x12_1)).f2))) (ds := []) #[false, false, false, false, false, false, false, false, false, false, false, false, false, false, false, false, false, false, false, false, false, false] (by kernel_rfl) rfl rfl ⟨(blk_cell BK140.out 0).trans rfl, (blk_cell BK140.out 1).trans rfl, (blk_cell BK140.out 2).trans rfl, (blk_cell BK140.out 3).trans rfl, (blk_cell BK140.out 4).trans rfl, (blk_cell BK140.out 5).trans rfl, (blk_cell BK140.out 6).trans rfl, ((HB.out.cell (World.block_lt_of_cell? w _ hw144_0)).trans hw144_0), ((HB.out.cell (World.block_lt_of_cell? w _ hw144_1)).trans hw144_1), ((HB.out.cell (World.block_lt_of_cell? w _ hw144_2)).trans hw144_2), ((HB.out.cell (World.block_lt_of_cell? w _ hw145_0)).trans hw145_0), ((HB.out.cell (World.block_lt_of_cell? w _ hw145_1)).trans hw145_1), ((HB.out.cell (World.block_lt_of_cell? w _ hw145_2)).trans hw145_2), ((HB.out.cell (World.block_lt_of_cell? w _ hw146_0)).trans hw146_0), ((HB.out.cell (World.block_lt_of_cell? w _ hw146_1)).trans hw146_1), ((HB.out.cell (World.block_lt_of_cell? w _ hw146_2)).trans hw146_2)⟩ (fun hHeld => ?_); refine with_tabW ship_apart.tab6 ship_apart.bits6 (fun HT_ HW_ => ?_)
          generalize wr.drew = w15 at BK140 BK141 BK142 HB hx144_0 hx144_1 hx144_2 hx145_0 hx145_1 hx145_2 hx146_0 hx146_1 hx146_2 hHeld ⊢
          refine pure_t 0 (some 19) (bz 22 1) HT_ ?_
          refine pure_t 2 (some 21) (bz 22 5) HT_ ?_
          refine pure_t 6 (some 25) (bz 22 69) HT_ ?_
          refine pure_t 8 (some 27) (bz 22 325) HT_ ?_
          refine pure_t 12 (some 31) (bz 22 4421) HT_ ?_
          refine pure_t 14 (some 33) (bz 22 20805) HT_ ?_
          refine take_ (i := 1) (N := some 20) (v := ?_) (a' := ?_) (bz 22 20807) rfl rfl (take_ofW HT_.out HW_.out (by kernel_rfl)) (fun _ _ _ h => h) (Or.inl ⟨by rfl, ?_⟩) hHeld ?_ ?_
          rotate_left; (rintro w' ⟨s0, s1, s2, s3, s4, s5, s6, s7, s8, s9, s10, s11, s12, s13, s14, s15⟩; go_simp; with_reducible rfl); rotate_left; (simp only [Act.put, put_x, i64_w, i32_w]; rfl)
          refine pure_t 3 (some 22) (bz 22 20815) HT_ ?_
          refine pure_t 4 (some 23) (bz 22 20831) HT_ ?_
          refine take_ (i := 5) (N := some 24) (v := ?_) (a' := ?_) (bz 22 20863) rfl rfl (take_ofW HT_.out HW_.out (by kernel_rfl)) (fun _ _ _ h => h) (Or.inl ⟨by rfl, ?_⟩) hHeld ?_ ?_
          rotate_left; (rintro w' ⟨s0, s1, s2, s3, s4, s5, s6, s7, s8, s9, s10, s11, s12, s13, s14, s15⟩; go_simp; with_reducible rfl); rotate_left; (simp only [Act.put, put_x, i64_w, i32_w]; rfl)
          refine take_ (i := 7) (N := some 26) (v := ?_) (a' := ?_) (bz 22 20991) rfl rfl (take_ofW HT_.out HW_.out (by kernel_rfl)) (fun _ _ _ h => h) (Or.inl ⟨by rfl, ?_⟩) hHeld ?_ ?_
          rotate_left; (rintro w' ⟨s0, s1, s2, s3, s4, s5, s6, s7, s8, s9, s10, s11, s12, s13, s14, s15⟩; go_simp; with_reducible rfl); rotate_left; (simp only [Act.put, put_x, i64_w, i32_w]; rfl)
          refine pure_t 9 (some 28) (bz 22 21503) HT_ ?_
          refine pure_t 10 (some 29) (bz 22 22527) HT_ ?_
          refine take_ (i := 11) (N := some 30) (v := ?_) (a' := ?_) (bz 22 24575) rfl rfl (take_ofW HT_.out HW_.out (by kernel_rfl)) (fun _ _ _ h => h) (Or.inl ⟨by rfl, ?_⟩) hHeld ?_ ?_
          rotate_left; (rintro w' ⟨s0, s1, s2, s3, s4, s5, s6, s7, s8, s9, s10, s11, s12, s13, s14, s15⟩; go_simp; with_reducible rfl); rotate_left; (simp only [Act.put, put_x, i64_w, i32_w]; rfl)
          refine take_ (i := 13) (N := some 32) (v := ?_) (a' := ?_) (bz 22 32767) rfl rfl (take_ofW HT_.out HW_.out (by kernel_rfl)) (fun _ _ _ h => h) (Or.inl ⟨by rfl, ?_⟩) hHeld ?_ ?_
          rotate_left; (rintro w' ⟨s0, s1, s2, s3, s4, s5, s6, s7, s8, s9, s10, s11, s12, s13, s14, s15⟩; go_simp; with_reducible rfl); rotate_left; (simp only [Act.put, put_x, i64_w, i32_w]; rfl)
          refine pure_t 15 (some 34) (bz 22 65535) HT_ ?_
          refine pure_t 16 (some 35) (bz 22 131071) HT_ ?_
          refine take_ (i := 17) (N := some 36) (v := ?_) (a' := ?_) (bz 22 262143) rfl rfl (take_ofW HT_.out HW_.out (by kernel_rfl)) (fun _ _ _ h => h) (Or.inl ⟨by rfl, ?_⟩) hHeld ?_ ?_
          rotate_left; (rintro w' ⟨s0, s1, s2, s3, s4, s5, s6, s7, s8, s9, s10, s11, s12, s13, s14, s15⟩; go_simp; with_reducible rfl); rotate_left; (simp only [Act.put, put_x, i64_w, i32_w]; rfl)
          refine pure_t 18 (some 37) (bz 22 524287) HT_ ?_
          refine one_ (i := 19) (N := some 8) (bz 22 1048575) rfl rfl (one_of HT_.out (by kernel_rfl)) (by decide) (fun K hK => ?_)
          refine box_step ?hg (N := 8) ?hd (cs := #[.int .i64 0, .int .i64 0]) (t := 56) ?hr ?_; (case hd => rfl); (case hg => rfl); (case hr => first | (go_simp; done) | (go_simp; rfl))
          intro gb147 hg w16 hbox hb
          have BK147 := Aside0.mk (hbox)
          have GW147 := Aside0.mk ((by rw [hg]; exact (below_size (by exact below_y HB.out)) : w.heap.size ≤ gb147))
          have GE147 := Aside0.mk ((by rw [hg]; exact (below_size (by exact below_y HB.out)) : w.heap.size ≤ gb147))
          replace HB := bl_x HB hb
          have NB140_147 := Aside0.mk ((by rw [hg]; exact Nat.ne_of_lt (blk_lt (g := gb140) (o := .cells #[.int .i64 a0_0, .int .i64 a0_1, .int .i64 a0_2, .slice (some ad145) l0_3.length c0_3, .int .i64 a0_4, .slice A0_5 l0_5.length c0_5, .slice (some ad144) l0_6.length c0_6] 26 (0, 0)) (blk_x BK140.out)) : gb140 ≠ gb147))
          have NB147_140 := Aside0.mk ((by rw [hg]; exact Nat.ne_of_gt (blk_lt (g := gb140) (o := .cells #[.int .i64 a0_0, .int .i64 a0_1, .int .i64 a0_2, .slice (some ad145) l0_3.length c0_3, .int .i64 a0_4, .slice A0_5 l0_5.length c0_5, .slice (some ad144) l0_6.length c0_6] 26 (0, 0)) (blk_x BK140.out)) : gb147 ≠ gb140))
          replace BK140 := Aside0.mk (blk_below (blk_x BK140.out) hb)
          have NB141_147 := Aside0.mk ((by rw [hg]; exact Nat.ne_of_lt (blk_lt (g := gb141) (o := .cells #[.int .i64 0, .int .i64 0] 56 (0, 0)) (blk_x BK141.out)) : gb141 ≠ gb147))
          have NB147_141 := Aside0.mk ((by rw [hg]; exact Nat.ne_of_gt (blk_lt (g := gb141) (o := .cells #[.int .i64 0, .int .i64 0] 56 (0, 0)) (blk_x BK141.out)) : gb147 ≠ gb141))
          replace BK141 := Aside0.mk (blk_below (blk_x BK141.out) hb)
          have NB142_147 := Aside0.mk ((by rw [hg]; exact Nat.ne_of_lt (blk_lt (g := gb142) (o := .cells #[.int .i64 x143000_1, .int .i64 x143001_1] 56 (0, 0)) (blk_x BK142.out)) : gb142 ≠ gb147))
          have NB147_142 := Aside0.mk ((by rw [hg]; exact Nat.ne_of_gt (blk_lt (g := gb142) (o := .cells #[.int .i64 x143000_1, .int .i64 x143001_1] 56 (0, 0)) (blk_x BK142.out)) : gb147 ≠ gb142))
          replace BK142 := Aside0.mk (blk_below (blk_x BK142.out) hb)
          clear hb hbox hg
          refine hK.out _ _ ⟨(blk_cell BK140.out 0).trans rfl, (blk_cell BK140.out 1).trans rfl, (blk_cell BK140.out 2).trans rfl, (blk_cell BK140.out 3).trans rfl, (blk_cell BK140.out 4).trans rfl, (blk_cell BK140.out 5).trans rfl, (blk_cell BK140.out 6).trans rfl, ((HB.out.cell (World.block_lt_of_cell? w _ hw144_0)).trans hw144_0), ((HB.out.cell (World.block_lt_of_cell? w _ hw144_1)).trans hw144_1), ((HB.out.cell (World.block_lt_of_cell? w _ hw144_2)).trans hw144_2), ((HB.out.cell (World.block_lt_of_cell? w _ hw145_0)).trans hw145_0), ((HB.out.cell (World.block_lt_of_cell? w _ hw145_1)).trans hw145_1), ((HB.out.cell (World.block_lt_of_cell? w _ hw145_2)).trans hw145_2), ((HB.out.cell (World.block_lt_of_cell? w _ hw146_0)).trans hw146_0), ((HB.out.cell (World.block_lt_of_cell? w _ hw146_1)).trans hw146_1), ((HB.out.cell (World.block_lt_of_cell? w _ hw146_2)).trans hw146_2)⟩ (fun hHeld => ?_)
          clear hK K
          refine norm_ (a' := ?_) ?_ ?_; rotate_left; (show Act.put _ (some 8) _ = _; simp only [Act.put, put_x, i64_w, i32_w]; rfl)
          refine one_ (i := 20) (N := none) (bz 22 2097151) rfl rfl (one_of HT_.out (by kernel_rfl)) (by decide) (fun K hK => ?_)
          have hs17 : w16.cell? ⟨gb147, 0, none⟩ = some (.int .i64 0) := (blk_cell BK147.out 0).trans rfl
          have hfs17 := blk_frozen BK147.out 0
          have hns17_0 := NB140_147.out
          have hns17_1 := NB141_147.out
          have hns17_2 := NB142_147.out
          have hms17_0 := NB147_140.out
          have hms17_1 := NB147_141.out
          have hms17_2 := NB147_142.out
          have hs18 : w16.cell? ⟨gb147, 1, none⟩ = some (.int .i64 0) := (blk_cell BK147.out 1).trans rfl
          have hfs18 := blk_frozen BK147.out 1
          have hns18_0 := NB140_147.out
          have hns18_1 := NB141_147.out
          have hns18_2 := NB142_147.out
          have hms18_0 := NB147_140.out
          have hms18_1 := NB147_141.out
          have hms18_2 := NB147_142.out
          refine skip_ (w1 := ?_) (by rfl) rfl ?_ ?_
          rotate_left
          ·
           go_simp
           rfl
          refine hK.out _ _ ⟨((cell_far (p := ⟨gb147, _, none⟩) NB140_147.out _).trans (((cell_far (p := ⟨gb147, _, none⟩) NB140_147.out _).trans (hHeld.1)))), ((cell_far (p := ⟨gb147, _, none⟩) NB140_147.out _).trans (((cell_far (p := ⟨gb147, _, none⟩) NB140_147.out _).trans (hHeld.2.1)))), ((cell_far (p := ⟨gb147, _, none⟩) NB140_147.out _).trans (((cell_far (p := ⟨gb147, _, none⟩) NB140_147.out _).trans (hHeld.2.2.1)))), ((cell_far (p := ⟨gb147, _, none⟩) NB140_147.out _).trans (((cell_far (p := ⟨gb147, _, none⟩) NB140_147.out _).trans (hHeld.2.2.2.1)))), ((cell_far (p := ⟨gb147, _, none⟩) NB140_147.out _).trans (((cell_far (p := ⟨gb147, _, none⟩) NB140_147.out _).trans (hHeld.2.2.2.2.1)))), ((cell_far (p := ⟨gb147, _, none⟩) NB140_147.out _).trans (((cell_far (p := ⟨gb147, _, none⟩) NB140_147.out _).trans (hHeld.2.2.2.2.2.1)))), ((cell_far (p := ⟨gb147, _, none⟩) NB140_147.out _).trans (((cell_far (p := ⟨gb147, _, none⟩) NB140_147.out _).trans (hHeld.2.2.2.2.2.2.1)))), ((cell_far (p := ⟨gb147, _, none⟩) (by first | exact Nat.ne_of_lt (Nat.lt_of_lt_of_le (by have := World.block_lt_of_cell? _ _ hw144_0; first | rwa [add_block] at this | exact this) GW147.out) | (rw [add_block]; exact Nat.ne_of_lt (Nat.lt_of_lt_of_le (by have := World.block_lt_of_cell? _ _ hw144_0; first | rwa [add_block] at this | exact this) GW147.out)) | (show (Addr.add _ _).block ≠ _; rw [add_block]; exact Nat.ne_of_lt (Nat.lt_of_lt_of_le (by have := World.block_lt_of_cell? _ _ hw144_0; first | rwa [add_block] at this | exact this) GW147.out)) | (dsimp only; exact Nat.ne_of_lt (Nat.lt_of_lt_of_le (by have := World.block_lt_of_cell? _ _ hw144_0; first | rwa [add_block] at this | exact this) GW147.out))) _).trans (((cell_far (p := ⟨gb147, _, none⟩) (by first | exact Nat.ne_of_lt (Nat.lt_of_lt_of_le (by have := World.block_lt_of_cell? _ _ hw144_0; first | rwa [add_block] at this | exact this) GW147.out) | (rw [add_block]; exact Nat.ne_of_lt (Nat.lt_of_lt_of_le (by have := World.block_lt_of_cell? _ _ hw144_0; first | rwa [add_block] at this | exact this) GW147.out)) | (show (Addr.add _ _).block ≠ _; rw [add_block]; exact Nat.ne_of_lt (Nat.lt_of_lt_of_le (by have := World.block_lt_of_cell? _ _ hw144_0; first | rwa [add_block] at this | exact this) GW147.out)) | (dsimp only; exact Nat.ne_of_lt (Nat.lt_of_lt_of_le (by have := World.block_lt_of_cell? _ _ hw144_0; first | rwa [add_block] at this | exact this) GW147.out))) _).trans (hHeld.2.2.2.2.2.2.2.1)))), ((cell_far (p := ⟨gb147, _, none⟩) (by first | exact Nat.ne_of_lt (Nat.lt_of_lt_of_le (by have := World.block_lt_of_cell? _ _ hw144_1; first | rwa [add_block] at this | exact this) GW147.out) | (rw [add_block]; exact Nat.ne_of_lt (Nat.lt_of_lt_of_le (by have := World.block_lt_of_cell? _ _ hw144_1; first | rwa [add_block] at this | exact this) GW147.out)) | (show (Addr.add _ _).block ≠ _; rw [add_block]; exact Nat.ne_of_lt (Nat.lt_of_lt_of_le (by have := World.block_lt_of_cell? _ _ hw144_1; first | rwa [add_block] at this | exact this) GW147.out)) | (dsimp only; exact Nat.ne_of_lt (Nat.lt_of_lt_of_le (by have := World.block_lt_of_cell? _ _ hw144_1; first | rwa [add_block] at this | exact this) GW147.out))) _).trans (((cell_far (p := ⟨gb147, _, none⟩) (by first | exact Nat.ne_of_lt (Nat.lt_of_lt_of_le (by have := World.block_lt_of_cell? _ _ hw144_1; first | rwa [add_block] at this | exact this) GW147.out) | (rw [add_block]; exact Nat.ne_of_lt (Nat.lt_of_lt_of_le (by have := World.block_lt_of_cell? _ _ hw144_1; first | rwa [add_block] at this | exact this) GW147.out)) | (show (Addr.add _ _).block ≠ _; rw [add_block]; exact Nat.ne_of_lt (Nat.lt_of_lt_of_le (by have := World.block_lt_of_cell? _ _ hw144_1; first | rwa [add_block] at this | exact this) GW147.out)) | (dsimp only; exact Nat.ne_of_lt (Nat.lt_of_lt_of_le (by have := World.block_lt_of_cell? _ _ hw144_1; first | rwa [add_block] at this | exact this) GW147.out))) _).trans (hHeld.2.2.2.2.2.2.2.2.1)))), ((cell_far (p := ⟨gb147, _, none⟩) (by first | exact Nat.ne_of_lt (Nat.lt_of_lt_of_le (by have := World.block_lt_of_cell? _ _ hw144_2; first | rwa [add_block] at this | exact this) GW147.out) | (rw [add_block]; exact Nat.ne_of_lt (Nat.lt_of_lt_of_le (by have := World.block_lt_of_cell? _ _ hw144_2; first | rwa [add_block] at this | exact this) GW147.out)) | (show (Addr.add _ _).block ≠ _; rw [add_block]; exact Nat.ne_of_lt (Nat.lt_of_lt_of_le (by have := World.block_lt_of_cell? _ _ hw144_2; first | rwa [add_block] at this | exact this) GW147.out)) | (dsimp only; exact Nat.ne_of_lt (Nat.lt_of_lt_of_le (by have := World.block_lt_of_cell? _ _ hw144_2; first | rwa [add_block] at this | exact this) GW147.out))) _).trans (((cell_far (p := ⟨gb147, _, none⟩) (by first | exact Nat.ne_of_lt (Nat.lt_of_lt_of_le (by have := World.block_lt_of_cell? _ _ hw144_2; first | rwa [add_block] at this | exact this) GW147.out) | (rw [add_block]; exact Nat.ne_of_lt (Nat.lt_of_lt_of_le (by have := World.block_lt_of_cell? _ _ hw144_2; first | rwa [add_block] at this | exact this) GW147.out)) | (show (Addr.add _ _).block ≠ _; rw [add_block]; exact Nat.ne_of_lt (Nat.lt_of_lt_of_le (by have := World.block_lt_of_cell? _ _ hw144_2; first | rwa [add_block] at this | exact this) GW147.out)) | (dsimp only; exact Nat.ne_of_lt (Nat.lt_of_lt_of_le (by have := World.block_lt_of_cell? _ _ hw144_2; first | rwa [add_block] at this | exact this) GW147.out))) _).trans (hHeld.2.2.2.2.2.2.2.2.2.1)))), ((cell_far (p := ⟨gb147, _, none⟩) (by first | exact Nat.ne_of_lt (Nat.lt_of_lt_of_le (by have := World.block_lt_of_cell? _ _ hw145_0; first | rwa [add_block] at this | exact this) GW147.out) | (rw [add_block]; exact Nat.ne_of_lt (Nat.lt_of_lt_of_le (by have := World.block_lt_of_cell? _ _ hw145_0; first | rwa [add_block] at this | exact this) GW147.out)) | (show (Addr.add _ _).block ≠ _; rw [add_block]; exact Nat.ne_of_lt (Nat.lt_of_lt_of_le (by have := World.block_lt_of_cell? _ _ hw145_0; first | rwa [add_block] at this | exact this) GW147.out)) | (dsimp only; exact Nat.ne_of_lt (Nat.lt_of_lt_of_le (by have := World.block_lt_of_cell? _ _ hw145_0; first | rwa [add_block] at this | exact this) GW147.out))) _).trans (((cell_far (p := ⟨gb147, _, none⟩) (by first | exact Nat.ne_of_lt (Nat.lt_of_lt_of_le (by have := World.block_lt_of_cell? _ _ hw145_0; first | rwa [add_block] at this | exact this) GW147.out) | (rw [add_block]; exact Nat.ne_of_lt (Nat.lt_of_lt_of_le (by have := World.block_lt_of_cell? _ _ hw145_0; first | rwa [add_block] at this | exact this) GW147.out)) | (show (Addr.add _ _).block ≠ _; rw [add_block]; exact Nat.ne_of_lt (Nat.lt_of_lt_of_le (by have := World.block_lt_of_cell? _ _ hw145_0; first | rwa [add_block] at this | exact this) GW147.out)) | (dsimp only; exact Nat.ne_of_lt (Nat.lt_of_lt_of_le (by have := World.block_lt_of_cell? _ _ hw145_0; first | rwa [add_block] at this | exact this) GW147.out))) _).trans (hHeld.2.2.2.2.2.2.2.2.2.2.1)))), ((cell_far (p := ⟨gb147, _, none⟩) (by first | exact Nat.ne_of_lt (Nat.lt_of_lt_of_le (by have := World.block_lt_of_cell? _ _ hw145_1; first | rwa [add_block] at this | exact this) GW147.out) | (rw [add_block]; exact Nat.ne_of_lt (Nat.lt_of_lt_of_le (by have := World.block_lt_of_cell? _ _ hw145_1; first | rwa [add_block] at this | exact this) GW147.out)) | (show (Addr.add _ _).block ≠ _; rw [add_block]; exact Nat.ne_of_lt (Nat.lt_of_lt_of_le (by have := World.block_lt_of_cell? _ _ hw145_1; first | rwa [add_block] at this | exact this) GW147.out)) | (dsimp only; exact Nat.ne_of_lt (Nat.lt_of_lt_of_le (by have := World.block_lt_of_cell? _ _ hw145_1; first | rwa [add_block] at this | exact this) GW147.out))) _).trans (((cell_far (p := ⟨gb147, _, none⟩) (by first | exact Nat.ne_of_lt (Nat.lt_of_lt_of_le (by have := World.block_lt_of_cell? _ _ hw145_1; first | rwa [add_block] at this | exact this) GW147.out) | (rw [add_block]; exact Nat.ne_of_lt (Nat.lt_of_lt_of_le (by have := World.block_lt_of_cell? _ _ hw145_1; first | rwa [add_block] at this | exact this) GW147.out)) | (show (Addr.add _ _).block ≠ _; rw [add_block]; exact Nat.ne_of_lt (Nat.lt_of_lt_of_le (by have := World.block_lt_of_cell? _ _ hw145_1; first | rwa [add_block] at this | exact this) GW147.out)) | (dsimp only; exact Nat.ne_of_lt (Nat.lt_of_lt_of_le (by have := World.block_lt_of_cell? _ _ hw145_1; first | rwa [add_block] at this | exact this) GW147.out))) _).trans (hHeld.2.2.2.2.2.2.2.2.2.2.2.1)))), ((cell_far (p := ⟨gb147, _, none⟩) (by first | exact Nat.ne_of_lt (Nat.lt_of_lt_of_le (by have := World.block_lt_of_cell? _ _ hw145_2; first | rwa [add_block] at this | exact this) GW147.out) | (rw [add_block]; exact Nat.ne_of_lt (Nat.lt_of_lt_of_le (by have := World.block_lt_of_cell? _ _ hw145_2; first | rwa [add_block] at this | exact this) GW147.out)) | (show (Addr.add _ _).block ≠ _; rw [add_block]; exact Nat.ne_of_lt (Nat.lt_of_lt_of_le (by have := World.block_lt_of_cell? _ _ hw145_2; first | rwa [add_block] at this | exact this) GW147.out)) | (dsimp only; exact Nat.ne_of_lt (Nat.lt_of_lt_of_le (by have := World.block_lt_of_cell? _ _ hw145_2; first | rwa [add_block] at this | exact this) GW147.out))) _).trans (((cell_far (p := ⟨gb147, _, none⟩) (by first | exact Nat.ne_of_lt (Nat.lt_of_lt_of_le (by have := World.block_lt_of_cell? _ _ hw145_2; first | rwa [add_block] at this | exact this) GW147.out) | (rw [add_block]; exact Nat.ne_of_lt (Nat.lt_of_lt_of_le (by have := World.block_lt_of_cell? _ _ hw145_2; first | rwa [add_block] at this | exact this) GW147.out)) | (show (Addr.add _ _).block ≠ _; rw [add_block]; exact Nat.ne_of_lt (Nat.lt_of_lt_of_le (by have := World.block_lt_of_cell? _ _ hw145_2; first | rwa [add_block] at this | exact this) GW147.out)) | (dsimp only; exact Nat.ne_of_lt (Nat.lt_of_lt_of_le (by have := World.block_lt_of_cell? _ _ hw145_2; first | rwa [add_block] at this | exact this) GW147.out))) _).trans (hHeld.2.2.2.2.2.2.2.2.2.2.2.2.1)))), ((cell_far (p := ⟨gb147, _, none⟩) (by first | exact Nat.ne_of_lt (Nat.lt_of_lt_of_le (by have := World.block_lt_of_cell? _ _ hw146_0; first | rwa [add_block] at this | exact this) GW147.out) | (rw [add_block]; exact Nat.ne_of_lt (Nat.lt_of_lt_of_le (by have := World.block_lt_of_cell? _ _ hw146_0; first | rwa [add_block] at this | exact this) GW147.out)) | (show (Addr.add _ _).block ≠ _; rw [add_block]; exact Nat.ne_of_lt (Nat.lt_of_lt_of_le (by have := World.block_lt_of_cell? _ _ hw146_0; first | rwa [add_block] at this | exact this) GW147.out)) | (dsimp only; exact Nat.ne_of_lt (Nat.lt_of_lt_of_le (by have := World.block_lt_of_cell? _ _ hw146_0; first | rwa [add_block] at this | exact this) GW147.out))) _).trans (((cell_far (p := ⟨gb147, _, none⟩) (by first | exact Nat.ne_of_lt (Nat.lt_of_lt_of_le (by have := World.block_lt_of_cell? _ _ hw146_0; first | rwa [add_block] at this | exact this) GW147.out) | (rw [add_block]; exact Nat.ne_of_lt (Nat.lt_of_lt_of_le (by have := World.block_lt_of_cell? _ _ hw146_0; first | rwa [add_block] at this | exact this) GW147.out)) | (show (Addr.add _ _).block ≠ _; rw [add_block]; exact Nat.ne_of_lt (Nat.lt_of_lt_of_le (by have := World.block_lt_of_cell? _ _ hw146_0; first | rwa [add_block] at this | exact this) GW147.out)) | (dsimp only; exact Nat.ne_of_lt (Nat.lt_of_lt_of_le (by have := World.block_lt_of_cell? _ _ hw146_0; first | rwa [add_block] at this | exact this) GW147.out))) _).trans (hHeld.2.2.2.2.2.2.2.2.2.2.2.2.2.1)))), ((cell_far (p := ⟨gb147, _, none⟩) (by first | exact Nat.ne_of_lt (Nat.lt_of_lt_of_le (by have := World.block_lt_of_cell? _ _ hw146_1; first | rwa [add_block] at this | exact this) GW147.out) | (rw [add_block]; exact Nat.ne_of_lt (Nat.lt_of_lt_of_le (by have := World.block_lt_of_cell? _ _ hw146_1; first | rwa [add_block] at this | exact this) GW147.out)) | (show (Addr.add _ _).block ≠ _; rw [add_block]; exact Nat.ne_of_lt (Nat.lt_of_lt_of_le (by have := World.block_lt_of_cell? _ _ hw146_1; first | rwa [add_block] at this | exact this) GW147.out)) | (dsimp only; exact Nat.ne_of_lt (Nat.lt_of_lt_of_le (by have := World.block_lt_of_cell? _ _ hw146_1; first | rwa [add_block] at this | exact this) GW147.out))) _).trans (((cell_far (p := ⟨gb147, _, none⟩) (by first | exact Nat.ne_of_lt (Nat.lt_of_lt_of_le (by have := World.block_lt_of_cell? _ _ hw146_1; first | rwa [add_block] at this | exact this) GW147.out) | (rw [add_block]; exact Nat.ne_of_lt (Nat.lt_of_lt_of_le (by have := World.block_lt_of_cell? _ _ hw146_1; first | rwa [add_block] at this | exact this) GW147.out)) | (show (Addr.add _ _).block ≠ _; rw [add_block]; exact Nat.ne_of_lt (Nat.lt_of_lt_of_le (by have := World.block_lt_of_cell? _ _ hw146_1; first | rwa [add_block] at this | exact this) GW147.out)) | (dsimp only; exact Nat.ne_of_lt (Nat.lt_of_lt_of_le (by have := World.block_lt_of_cell? _ _ hw146_1; first | rwa [add_block] at this | exact this) GW147.out))) _).trans (hHeld.2.2.2.2.2.2.2.2.2.2.2.2.2.2.1)))), ((cell_far (p := ⟨gb147, _, none⟩) (by first | exact Nat.ne_of_lt (Nat.lt_of_lt_of_le (by have := World.block_lt_of_cell? _ _ hw146_2; first | rwa [add_block] at this | exact this) GW147.out) | (rw [add_block]; exact Nat.ne_of_lt (Nat.lt_of_lt_of_le (by have := World.block_lt_of_cell? _ _ hw146_2; first | rwa [add_block] at this | exact this) GW147.out)) | (show (Addr.add _ _).block ≠ _; rw [add_block]; exact Nat.ne_of_lt (Nat.lt_of_lt_of_le (by have := World.block_lt_of_cell? _ _ hw146_2; first | rwa [add_block] at this | exact this) GW147.out)) | (dsimp only; exact Nat.ne_of_lt (Nat.lt_of_lt_of_le (by have := World.block_lt_of_cell? _ _ hw146_2; first | rwa [add_block] at this | exact this) GW147.out))) _).trans (((cell_far (p := ⟨gb147, _, none⟩) (by first | exact Nat.ne_of_lt (Nat.lt_of_lt_of_le (by have := World.block_lt_of_cell? _ _ hw146_2; first | rwa [add_block] at this | exact this) GW147.out) | (rw [add_block]; exact Nat.ne_of_lt (Nat.lt_of_lt_of_le (by have := World.block_lt_of_cell? _ _ hw146_2; first | rwa [add_block] at this | exact this) GW147.out)) | (show (Addr.add _ _).block ≠ _; rw [add_block]; exact Nat.ne_of_lt (Nat.lt_of_lt_of_le (by have := World.block_lt_of_cell? _ _ hw146_2; first | rwa [add_block] at this | exact this) GW147.out)) | (dsimp only; exact Nat.ne_of_lt (Nat.lt_of_lt_of_le (by have := World.block_lt_of_cell? _ _ hw146_2; first | rwa [add_block] at this | exact this) GW147.out))) _).trans (hHeld.2.2.2.2.2.2.2.2.2.2.2.2.2.2.2))))⟩ (fun hHeld => ?_)
          clear hK K
          refine pure_t 21 (some 9) (bz 22 4194303) HT_ ?_
          refine done_ (done_of HT_.out (by kernel_rfl)) ?_
          have hnb19 := NB142_140.out
          have hnc19 := NB140_142.out
          have hnb20 := NB142_141.out
          have hnc20 := NB141_142.out
          have hnb21 := NB142_147.out
          have hnc21 := NB147_142.out
          obtain ⟨_, _⟩ := cz2 BK142
          have hfz22_0 := blk_frozen BK142.out
          have hnb23 := NB147_140.out
          have hnc23 := NB140_147.out
          have hnb24 := NB147_141.out
          have hnc24 := NB141_147.out
          obtain ⟨_, _⟩ := cz2 BK147
          have hfz25_0 := blk_frozen BK147.out
          try go_wp2
          go_roundg k1
          case measure => have := HK1.out; omega
          case rel => exact ⟨(wrap64 (x12_1 + 1)), (wrap64 (x143000_1 + (ji13))), (wrap64 (x143001_1 + (ji14))), (by first | rfl | (simp; done) | (simp [*]; done)), H', ⟨by have := HK1.out; omega⟩, ⟨blk_w BK140.out⟩, ⟨blk_w BK141.out⟩, ⟨by (with_reducible repeat (first | refine blk_drewN ?_ _ | refine blk_drew ?_ | refine blk_alloc ?_ _)); refine blk_put (cs := #[.int .i64 (wrap64 (x143000_1 + (ji13))), .int .i64 x143001_1]) ?_ 1 _ rfl; (with_reducible repeat (first | refine blk_drewN ?_ _ | refine blk_drew ?_ | refine blk_alloc ?_ _)); refine blk_put (cs := #[.int .i64 x143000_1, .int .i64 x143001_1]) ?_ 0 _ rfl; exact blk_w BK142.out⟩, ⟨by exact below_y HB.out⟩⟩
         ·
          rw [if_neg c12] at H
          exact absurd H (by simp)
        ·
         rw [if_neg c11] at H
         exact absurd H (by simp)
       ·
        rw [if_neg c10] at H
        exact absurd H (by simp)
     ·
      rw [if_neg c8] at H
      exact absurd H (by simp)
    ·
     rw [if_neg c7] at H
     exact absurd H (by simp)
   ·
    rw [if_neg c6] at H
    have c6b0 : decide (x12_1 < (l1.length : Int)) = false := decide_eq_false c6
    clear c6
    simp only [Option.some.injEq, Prod.mk.injEq] at H
    obtain ⟨rfl, rfl⟩ := H
    have hnb26 := NB142_140.out
    have hnc26 := NB140_142.out
    have hnb27 := NB142_141.out
    have hnc27 := NB141_142.out
    obtain ⟨_, _⟩ := cz2 BK142
    have hfz28_0 := blk_frozen BK142.out
    have hnb29 := NB141_140.out
    have hnc29 := NB140_141.out
    obtain ⟨_, _⟩ := cz2 BK141
    have hfz30_0 := blk_frozen BK141.out
    go_wp2
    refine bodyPost_ret (results_cell_row rfl _ _ gb141 56 #[.int .i64 x143000_1, .int .i64 x143001_1] (0, 0) _ rfl (by (with_reducible repeat (first | refine blk_drewN ?_ _ | refine blk_drew ?_ | refine blk_alloc ?_ _)); refine blk_put (cs := #[.int .i64 x143000_1, .int .i64 0]) ?_ 1 _ rfl; (with_reducible repeat (first | refine blk_drewN ?_ _ | refine blk_drew ?_ | refine blk_alloc ?_ _)); refine blk_put (cs := #[.int .i64 0, .int .i64 0]) ?_ 0 _ rfl; (with_reducible repeat (first | refine blk_drewN ?_ _ | refine blk_drew ?_ | refine blk_alloc ?_ _)); exact BK141.out) Try.underlying56 rfl (by kernel_rfl)) rfl ?_
    exact ⟨by first | rfl | (simp [errW_none, errW_some] <;> rfl) | (simp [*, errW_none, errW_some] <;> rfl), by exact below_y HB.out⟩
end Go.Proofs.Ytodmemndaaiolaa.PC7
namespace Go.Proofs.Ytodmemndaaiolaa.PC7
set_option linter.unusedVariables false
set_option linter.unusedSimpArgs false
open Go.RowKit Go.Shelf Go.Proofs.YtodmemndaaiolaaW.PrintWords Go.Proofs.YtodmemndaaiolaaW.PrintLast Go.Proofs.YtodmemndaaiolaaW.PrintMore
section
variable (light under trim : Int) (holds : List S85) (leaves : Int) (sills : List S59) (lots : List S79)
noncomputable def chkE : Option Int := limO fun k => ship_Check.f k light under trim holds leaves sills lots
noncomputable def chkS (s : List Int) : Option Int := limO fun k => ship_checkStowage.f k light under trim holds leaves sills lots s
noncomputable def apartE (s : List Int) : Option (Int × Int) := limO fun k => ship_apart.f k light under trim holds leaves sills lots s
noncomputable def levelE (y z : Int) : Option Bool := limO fun k => ship_level.f k light under trim holds leaves sills lots y z
noncomputable def goodO (s : List Int) : Option Bool :=
  (chkS light under trim holds leaves sills lots s).bind fun e => if e = 0 then (apartE light under trim holds leaves sills lots s).bind fun x => (levelE light under trim holds leaves sills lots x.1 x.2).bind fun b =>
    if b = true then (ladenO light holds lots s).bind fun q => some (!decide ((sailO under leaves sills q false).length < sills.length)) else some false else some false
noncomputable def goodB (s : List Int) : Bool := (goodO light under trim holds leaves sills lots s).getD false
end
theorem goodO_some (light under trim : Int) (holds : List S85) (leaves : Int) (sills : List S59) (lots : List S79) (s : List Int) (h : (goodO light under trim holds leaves sills lots s).isSome = true) : goodO light under trim holds leaves sills lots s = some (goodB light under trim holds leaves sills lots s) := by
  unfold goodB
  cases hg : goodO light under trim holds leaves sills lots s with
  | none => rw [hg] at h; cases h
  | some b => rfl
def worthGo (lots : List S79) : Nat → List Int → Int → Int
  | _, [], a => a
  | i, h :: t, a => worthGo lots (i + 1) t (if 0 ≤ h then wrap64 (a + (lots.getD i z79).f1) else a)
def bestOf (good : List Int → Bool) (worth : List Int → Int) (L : List (List Int)) (b : List Int × Int) : List Int × Int := L.foldl (fun b t => if good t = true then (if b.2 < worth t then (t, worth t) else b) else b) b
theorem bestOf_snoc (good : List Int → Bool) (worth : List Int → Int) (L : List (List Int)) (b : List Int × Int) (t : List Int) : bestOf good worth (L ++ [t]) b = if good t = true then (if (bestOf good worth L b).2 < worth t then (t, worth t) else bestOf good worth L b) else bestOf good worth L b := by
  unfold bestOf
  rw [List.foldl_append]
  rfl
open Classical in
noncomputable def ship_Best.f (a0_0 : Int) (a0_1 : Int) (a0_2 : Int) (l0_3 : List (S85)) (a0_4 : Int) (l0_5 : List (S59)) (l0_6 : List (S79)) : Option (List Int × Int × Int) :=
  (chkE a0_0 a0_1 a0_2 l0_3 a0_4 l0_5 l0_6).bind fun e => if e = 0 then (if l0_3.length ≤ 100 ∧ l0_6.length ≤ 6 ∧ lensOK l0_5 ∧ (∀ t, t ∈ stowsL l0_3.length l0_6.length → (goodO a0_0 a0_1 a0_2 l0_3 a0_4 l0_5 l0_6 t).isSome = true) then
    some ((bestOf (goodB a0_0 a0_1 a0_2 l0_3 a0_4 l0_5 l0_6) (fun t => worthGo l0_6 0 t 0) (stowsL l0_3.length l0_6.length) ([], -1)).1, (bestOf (goodB a0_0 a0_1 a0_2 l0_3 a0_4 l0_5 l0_6) (fun t => worthGo l0_6 0 t 0) (stowsL l0_3.length l0_6.length) ([], -1)).2, 0) else none) else some ([], 0, e)
theorem R_kept {k : IntKind} {e : Nat} {W W1 : World} {base : Nat} {v : Value} {xs : List Int} (h : Kd.R (Kd.int k) e W base (fun _ => True) v xs)
    (hm : ∀ b, base ≤ b → (∃ (cells : Array Value) (t : TypeId), W.heap[b]? = some (.cells cells t (0, 0)) ∧ t = e) → W1.heap[b]? = W.heap[b]?) : Kd.R (Kd.int k) e W1 base (fun _ => True) v xs := by
  refine Kd.R_mono (Kd.R_step (Kd.R_bound h) (fun b hb hlt => ?_)) (fun _ _ => trivial)
  obtain ⟨_, h1, _, q, hq, cells, hc⟩ := hb
  exact hm b h1 ⟨cells, _, hc, by simpa [Kd.int, Kd.scalar] using hq⟩
def BestI (w0 : World) (g6 gb : Nat) (cs : Array Value) (good : List Int → Bool) (worth : List Int → Int) (b : Nat) (pre : List (Value × List Int)) (W : World) : Prop :=
  ∃ A n c, W.heap[g6]? = some (.cells #[.slice A n c, .int .i64 (bestOf good worth (pre.map (·.2)) ([], -1)).2] 104 (0, 0)) ∧ (∃ base, w0.heap.size ≤ base ∧ b < base ∧ Kd.R (Kd.int .i64) 3 W base (fun _ => True) (.slice A n c) (bestOf good worth (pre.map (·.2)) ([], -1)).1) ∧
    W.heap[gb]? = some (.cells cs 26 (0, 0)) ∧ Below w0.heap.size w0 W
theorem BestI.own {w0 : World} {g6 gb B : Nat} {cs : Array Value} {good : List Int → Bool} {worth : List Int → Int} (hB : w0.heap.size ≤ B) (b : Nat) : OwnFrom B (BestI w0 g6 gb cs good worth b) := by
  intro s W W' row hs hg hr
  obtain ⟨A, n, c, h1, ⟨base, hb1, hb2, h2⟩, h3, h4⟩ := hs
  have hno : ∀ {k : Nat} {cells : Array Value} {t : TypeId}, W.heap[k]? = some (.cells cells t (0, 0)) → W'.heap[k]? = W.heap[k]? := fun {k cells t} hk => hg.block k (blk_lt hk) (fun e => by
    obtain ⟨_, o, ho, hc⟩ := hr k e.symm
    rw [hk] at ho; cases ho; cases hc)
  refine ⟨A, n, c, (hno h1).trans h1, ⟨base, hb1, hb2, R_kept h2 fun k _ ⟨cells, t, hk, _⟩ => hno hk⟩, (hno h3).trans h3, ?_⟩
  exact (ownFrom_below (β := List (Value × List Int)) (Nat.le_refl _) hB) s W W' row h4 hg hr
theorem BestI.set {w0 : World} {g6 gb B : Nat} {cs : Array Value} {good : List Int → Bool} {worth : List Int → Int} (hB : w0.heap.size ≤ B) (h6 : g6 < B) (hb : gb < B) (b : Nat) (pre : List (Value × List Int)) (W : World) (i : Nat) (v : Value) (hbB : B ≤ b)
    (hs : BestI w0 g6 gb cs good worth b pre W) : BestI w0 g6 gb cs good worth b pre (W.setCell ⟨b, i, none⟩ v) := by
  obtain ⟨A, n, c, h1, ⟨base, hb1, hb2, h2⟩, h3, h4⟩ := hs
  refine ⟨A, n, c, (Below.heap_setCell _ _ _ _ (by show g6 ≠ b; omega)).trans h1, ⟨base, hb1, hb2, R_kept h2 fun k hk _ => Below.heap_setCell _ _ _ _ (by show k ≠ b; omega)⟩, (Below.heap_setCell _ _ _ _ (by show gb ≠ b; omega)).trans h3, below_set h4 (by show w0.heap.size ≤ b; omega)⟩
theorem keeps_of_below {W W' : World} (h : Below W.heap.size W W') : KeepsOthers W W' := ⟨h.size, fun k o hk _ => (h.block k (Array.getElem?_eq_some_iff.1 hk).1).trans hk⟩
theorem kpB_of_below {g : Nat} {W W' : World} (h : Below W.heap.size W W') : KpB g W W' := fun k o _ hk _ => (h.block k (Array.getElem?_eq_some_iff.1 hk).1).trans hk
theorem kpB_set {g i : Nat} {v : Value} (W : World) : KpB g W (W.setCell ⟨g, i, none⟩ v) := fun k o hk h _ => (Below.heap_setCell _ _ _ _ hk).trans h
theorem kpB_trans {g : Nat} {A B C : World} (h : KpB g A B) (k : KpB g B C) : KpB g A C := fun b o hb hA hc => k b o hb (h b o hb hA hc) hc
theorem kpB_obj {g : Nat} (W : World) (l : Nat) (o o' : Obj) (hl : W.heap[l]? = some o) (hc : o.isCells = false) : KpB g W (W.putObj l o') := fun b o2 _ h h2 => by
  have : b ≠ l := fun e => by subst e; rw [hl] at h; cases h; rw [hc] at h2; cases h2
  exact (World.putObj_heap_other this).trans h
theorem rxS_obj (n₀ : Nat) (L : List (List Int)) (b : Nat) (x : Value × List Int) (W : World) (l : Nat) (o o' : Obj) (hl : W.heap[l]? = some o) (hc : o.isCells = false) (h : RxS n₀ L b x W) : RxS n₀ L b x (W.putObj l o') := by
  obtain ⟨hm, base, h1, h2, hr⟩ := h
  refine ⟨hm, base, h1, h2, R_kept hr fun k _ ⟨cells, t, hk, _⟩ => World.putObj_heap_other (fun e => ?_)⟩
  subst e; rw [hl] at hk; cases hk; cases hc
theorem BestI.first {w0 W : World} {g6 gb : Nat} {cs : Array Value} {good : List Int → Bool} {worth : List Int → Int} (b : Nat) (hb : w0.heap.size ≤ b) (h6 : W.heap[g6]? = some (.cells #[.slice none 0 0, .int .i64 (-1)] 104 (0, 0))) (hk : W.heap[gb]? = some (.cells cs 26 (0, 0))) (hB : Below w0.heap.size w0 W) :
    BestI w0 g6 gb cs good worth b [] W := ⟨none, 0, 0, h6, ⟨b + 1, by omega, by omega, R_of_owns .i64 (World.ownsRow_nil _ _ _ _)⟩, hk, hB⟩
theorem BestI.below {w0 W W' : World} {g6 gb b : Nat} {cs : Array Value} {good : List Int → Bool} {worth : List Int → Int} {pre : List (Value × List Int)} {v : Value} {t : List Int} (h : BestI w0 g6 gb cs good worth b pre W) (hB : Below W.heap.size W W')
    (hp : good t = false) : BestI w0 g6 gb cs good worth b (pre ++ [(v, t)]) W' := by
  obtain ⟨A, n, c, h1, ⟨base, hb1, hb2, h2⟩, h3, h4⟩ := h
  have hno : ∀ {k : Nat} {cells : Array Value} {t : TypeId}, W.heap[k]? = some (.cells cells t (0, 0)) → W'.heap[k]? = W.heap[k]? := fun {k cells t} hk => hB.block k (blk_lt hk)
  have e : bestOf good worth ((pre ++ [(v, t)]).map (·.2)) ([], -1) = bestOf good worth (pre.map (·.2)) ([], -1) := by
    rw [List.map_append]; show bestOf good worth (pre.map (·.2) ++ [t]) _ = _; rw [bestOf_snoc, if_neg (by rw [hp]; simp)]
  refine ⟨A, n, c, by rw [e]; exact (hno h1).trans h1, ⟨base, hb1, hb2, by rw [e]; exact R_kept h2 fun k _ ⟨cells, t, hk, _⟩ => hno hk⟩, (hno h3).trans h3, h4.trans (hB.mono h4.size)⟩
theorem BestI.weighed {w0 W W' : World} {g6 gb b : Nat} {cs : Array Value} {good : List Int → Bool} {worth : List Int → Int} {pre : List (Value × List Int)} {t : List Int} {A : Option Addr} {n c : Nat} {At : Option Addr} {nt ct : Nat}
    (h1 : W.heap[g6]? = some (.cells #[.slice A n c, .int .i64 (bestOf good worth (pre.map (·.2)) ([], -1)).2] 104 (0, 0)))
    (h2 : ∃ base, w0.heap.size ≤ base ∧ b < base ∧ Kd.R (Kd.int .i64) 3 W base (fun _ => True) (.slice A n c) (bestOf good worth (pre.map (·.2)) ([], -1)).1)
    (ht : ∃ base, w0.heap.size ≤ base ∧ b < base ∧ Kd.R (Kd.int .i64) 3 W base (fun _ => True) (.slice At nt ct) t)
    (h3 : W.heap[gb]? = some (.cells cs 26 (0, 0))) (h4 : Below w0.heap.size w0 W) (hg6 : w0.heap.size ≤ g6) (hne : gb ≠ g6) (hB : Below W.heap.size W W') (hp : good t = true) (v : Value) (u : Value)
    (hu : u = if (bestOf good worth (pre.map (·.2)) ([], -1)).2 < worth t then .agg #[.slice At nt ct, .int .i64 (worth t)] else .agg #[.slice A n c, .int .i64 (bestOf good worth (pre.map (·.2)) ([], -1)).2]) :
    ∃ A' n' c' y, u = .agg #[.slice A' n' c', .int .i64 y] ∧
      BestI w0 g6 gb cs good worth b (pre ++ [(v, t)]) ((W'.setCell ⟨g6, 0, none⟩ (.slice A' n' c')).setCell ⟨g6, 1, none⟩ (.int .i64 y)) ∧
      KeepsOthers W ((W'.setCell ⟨g6, 0, none⟩ (.slice A' n' c')).setCell ⟨g6, 1, none⟩ (.int .i64 y)) ∧ KpB g6 W ((W'.setCell ⟨g6, 0, none⟩ (.slice A' n' c')).setCell ⟨g6, 1, none⟩ (.int .i64 y)) := by
  have hno : ∀ {k : Nat} {cells : Array Value} {t : TypeId}, W.heap[k]? = some (.cells cells t (0, 0)) → W'.heap[k]? = W.heap[k]? := fun {k cells t} hk => hB.block k (blk_lt hk)
  have e : bestOf good worth ((pre ++ [(v, t)]).map (·.2)) ([], -1) = if (bestOf good worth (pre.map (·.2)) ([], -1)).2 < worth t then (t, worth t) else bestOf good worth (pre.map (·.2)) ([], -1) := by
    rw [List.map_append]; show bestOf good worth (pre.map (·.2) ++ [t]) _ = _; rw [bestOf_snoc, if_pos hp]
  have key : ∀ (A' : Option Addr) (n' c' : Nat) (l : List Int) (y : Int), (∃ base, w0.heap.size ≤ base ∧ b < base ∧ Kd.R (Kd.int .i64) 3 W base (fun _ => True) (.slice A' n' c') l) → bestOf good worth ((pre ++ [(v, t)]).map (·.2)) ([], -1) = (l, y) →
      BestI w0 g6 gb cs good worth b (pre ++ [(v, t)]) ((W'.setCell ⟨g6, 0, none⟩ (.slice A' n' c')).setCell ⟨g6, 1, none⟩ (.int .i64 y)) ∧
      KeepsOthers W ((W'.setCell ⟨g6, 0, none⟩ (.slice A' n' c')).setCell ⟨g6, 1, none⟩ (.int .i64 y)) ∧ KpB g6 W ((W'.setCell ⟨g6, 0, none⟩ (.slice A' n' c')).setCell ⟨g6, 1, none⟩ (.int .i64 y)) := by
    rintro A' n' c' l y ⟨base, hb1, hb2, hr⟩ he
    refine ⟨⟨A', n', c', ?_, ⟨base, hb1, hb2, ?_⟩, ?_, ?_⟩, ((keeps_of_below hB).trans (KeepsOthers.setCell _ _ _)).trans (KeepsOthers.setCell _ _ _), kpB_trans (kpB_trans (kpB_of_below hB) (kpB_set _)) (kpB_set _)⟩
    · rw [he]; exact blk_put (cs' := #[.slice A' n' c', .int .i64 y]) (blk_set ((hno h1).trans h1) 0 (.slice A' n' c')) 1 (.int .i64 y) rfl
    · rw [he]
      refine R_kept hr fun k _ ⟨cells, t', hk, ht3⟩ => ?_
      by_cases hk6 : k = g6
      · subst hk6
        rw [h1] at hk
        injection hk with hk
        injection hk with _ hk
        exact absurd (hk.trans ht3) (by decide)
      · exact ((Below.heap_setCell _ _ _ _ hk6).trans (Below.heap_setCell _ _ _ _ hk6)).trans (hno hk)
    · exact blk_far (blk_far ((hno h3).trans h3) (p := ⟨g6, 0, none⟩) hne _) (p := ⟨g6, 1, none⟩) hne _
    · exact below_set (below_set (h4.trans (hB.mono h4.size)) hg6) hg6
  by_cases hlt : (bestOf good worth (pre.map (·.2)) ([], -1)).2 < worth t
  · rw [if_pos hlt] at hu e
    exact ⟨At, nt, ct, worth t, hu, key _ _ _ t _ ht e⟩
  · rw [if_neg hlt] at hu e
    exact ⟨A, n, c, _, hu, key _ _ _ _ _ h2 (e.trans rfl)⟩
end Go.Proofs.Ytodmemndaaiolaa.PC7
namespace Go.Proofs.Ytodmemndaaiolaa.PC7
set_option linter.unusedVariables false
set_option linter.unusedSimpArgs false
open Go.RowKit Go.Proofs.YtodmemndaaiolaaW.PrintWords Go.Proofs.YtodmemndaaiolaaW.PrintLast Go.Proofs.YtodmemndaaiolaaW.PrintMore
set_option maxHeartbeats 8000000 in
set_option maxRecDepth 100000 in
theorem stowages_calls (x : VoyV) (w : World) :
  Calls Try.prog 62 #[.agg #[.int .i64 x.light, .int .i64 x.under, .int .i64 x.trim, .slice x.A3 x.holds.length x.c3, .int .i64 x.leaves, .slice x.A5 x.sills.length x.c5, .slice x.A6 x.lots.length x.c6]] w fun e w' => ∃ gv, e = .returned (.func (.func 82) #[] #[.pointer (some ⟨gv, 0, none⟩)]) ∧ w.heap.size ≤ gv ∧ w'.heap[gv]? = some (.cells #[.int .i64 x.light, .int .i64 x.under, .int .i64 x.trim, .slice x.A3 x.holds.length x.c3, .int .i64 x.leaves, .slice x.A5 x.sills.length x.c5, .slice x.A6 x.lots.length x.c6] 26 (0, 0)) ∧ Below w.heap.size w w' := by
 have hu26 := Try.underlying26
 have hmf : ∀ (fn : Fn) (first cap : Array Value) (w : World), (Instr.makeFunc fn first cap).run Try.prog w = .ok (.func fn first cap) w := fun _ _ _ _ => rfl
 go_enter Try.func62, Try.ntmps62
 go_wp2_with (((with_reducible refine gate_dst (N := 1) rfl ?_); refine box_event ?hg (N := 1) ?hd (cs := #[.int .i64 x.light, .int .i64 x.under, .int .i64 x.trim, .slice x.A3 x.holds.length x.c3, .int .i64 x.leaves, .slice x.A5 x.sills.length x.c5, .slice x.A6 x.lots.length x.c6]) (t := 26) ?hr ?_; (case hd => rfl); (case hg => rfl); (case hr => first | (go_simp; done) | (go_simp; rfl)); intro gb hg w2 hbox hb; have BK := Aside0.mk hbox; have HB := Aside0.mk hb; have GE : Aside0 (w.heap.size ≤ gb) := ⟨Nat.le_of_eq hg.symm⟩; clear hg hbox hb))
 go_ret
 exact ⟨gb, rfl, GE.out, BK.out, HB.out⟩
set_option maxHeartbeats 8000000 in
set_option maxRecDepth 100000 in
theorem more_calls (Ab : Option Addr) (nb cb : Nat) (b : Int) (Aa : Option Addr) (na ca : Nat) (a : Int) (w : World) :
  Calls Try.prog 67 #[.agg #[.slice Ab nb cb, .int .i64 b], .agg #[.slice Aa na ca, .int .i64 a]] w fun e w' => e = .returned (.bool (decide (a < b))) ∧ Below w.heap.size w w' := by
 have hu104 := Try.underlying104
 go_enter Try.func67, Try.ntmps67
 go_wp2_with (first
  | ((with_reducible refine gate_dst (N := 2) rfl ?_); refine box_event ?hg (N := 2) ?hd (cs := #[.slice Ab nb cb, .int .i64 b]) (t := 104) ?hr ?_; (case hd => rfl); (case hg => rfl); (case hr => first | (go_simp; done) | (go_simp; rfl)); intro g2 hg w2 hbox hb; have B2 := Aside0.mk hbox; have HB := Aside0.mk hb; clear hg hbox hb)
  | ((with_reducible refine gate_dst (N := 3) rfl ?_); refine box_event ?hg (N := 3) ?hd (cs := #[.slice Aa na ca, .int .i64 a]) (t := 104) ?hr ?_; (case hd => rfl); (case hg => rfl); (case hr => first | (go_simp; done) | (go_simp; rfl)); intro g3 hg w3 hbox hb; have B3 := Aside0.mk hbox; replace B2 := Aside0.mk (blk_below B2.out hb); replace HB := Aside0.mk (below_step HB.out hb); have hz2_ := (blk_cell B2.out 1).trans rfl; have hz3_ := (blk_cell B3.out 1).trans rfl; clear hg hbox hb))
 go_ret
 exact ⟨rfl, HB.out⟩
set_option maxHeartbeats 8000000 in
set_option maxRecDepth 100000 in
theorem better_calls (Aa : Option Addr) (na ca : Nat) (a : Int) (Ab : Option Addr) (nb cb : Nat) (b : Int) (w : World) :
  Calls Try.prog 66 #[.agg #[.slice Aa na ca, .int .i64 a], .agg #[.slice Ab nb cb, .int .i64 b], .func (.func 67) #[] #[]] w fun e w' => e = .returned (if a < b then .agg #[.slice Ab nb cb, .int .i64 b] else .agg #[.slice Aa na ca, .int .i64 a]) ∧ Below w.heap.size w w' := by
 have hu104 := Try.underlying104
 go_enter Try.func66, Try.ntmps66
 go_wp2_with (first
  | ((with_reducible refine gate_dst (N := 3) rfl ?_); refine box_event ?hg (N := 3) ?hd (cs := #[.slice Aa na ca, .int .i64 a]) (t := 104) ?hr ?_; (case hd => rfl); (case hg => rfl); (case hr => first | (go_simp; done) | (go_simp; rfl)); intro g3 hg w2 hbox hb; have B3 := Aside0.mk hbox; have HB := Aside0.mk hb; clear hg hbox hb)
  | ((with_reducible refine gate_dst (N := 4) rfl ?_); refine box_event ?hg (N := 4) ?hd (cs := #[.slice Ab nb cb, .int .i64 b]) (t := 104) ?hr ?_; (case hd => rfl); (case hg => rfl); (case hr => first | (go_simp; done) | (go_simp; rfl)); intro g4 hg w3 hbox hb; have B4 := Aside0.mk hbox; replace B3 := Aside0.mk (blk_below B3.out hb); replace HB := Aside0.mk (below_step HB.out hb); clear hg hbox hb)
  | ((with_reducible refine gate_dst (N := 6) rfl ?_); refine box_event ?hg (N := 6) ?hd (cs := #[.slice none 0 0, .int .i64 0]) (t := 104) ?hr ?_; (case hd => rfl); (case hg => rfl); (case hr => first | (go_simp; done) | (go_simp; rfl)); intro g6 hg w4 hbox hb; have B6 := Aside0.mk hbox; have GE6 : Aside0 (w.heap.size ≤ g6) := ⟨by rw [hg]; exact HB.out.size⟩; have N3 : Aside0 (g6 ≠ g3) := ⟨by have := blk_lt B3.out; omega⟩; have N4 : Aside0 (g6 ≠ g4) := ⟨by have := blk_lt B4.out; omega⟩; replace B3 := Aside0.mk (blk_below B3.out hb); replace B4 := Aside0.mk (blk_below B4.out hb); replace HB := Aside0.mk (below_step HB.out hb); have hz3_ := (blk_cell B3.out 0).trans rfl; have hz31_ := (blk_cell B3.out 1).trans rfl; have hz4_ := (blk_cell B4.out 0).trans rfl; have hz41_ := (blk_cell B4.out 1).trans rfl; clear hg hbox hb))
 refine (more_calls Ab nb cb b Aa na ca a w4).mono ?_
 rintro e w5 ⟨rfl, hb5⟩
 replace B3 := Aside0.mk (blk_below B3.out hb5)
 replace B4 := Aside0.mk (blk_below B4.out hb5)
 replace B6 := Aside0.mk (blk_below B6.out hb5)
 replace HB := Aside0.mk (below_step HB.out hb5)
 clear hb5 hz3_ hz31_ hz4_ hz41_
 have hz3_ : w5.cell? ⟨g3, 0, none⟩ = some (.slice Aa na ca) := (blk_cell B3.out 0).trans rfl
 have hz31_ : w5.cell? ⟨g3, 1, none⟩ = some (.int .i64 a) := (blk_cell B3.out 1).trans rfl
 have hz4_ : w5.cell? ⟨g4, 0, none⟩ = some (.slice Ab nb cb) := (blk_cell B4.out 0).trans rfl
 have hz41_ : w5.cell? ⟨g4, 1, none⟩ = some (.int .i64 b) := (blk_cell B4.out 1).trans rfl
 have hz6_ : w5.cell? ⟨g6, 0, none⟩ = some (.slice none 0 0) := (blk_cell B6.out 0).trans rfl
 have hz61_ : w5.cell? ⟨g6, 1, none⟩ = some (.int .i64 0) := (blk_cell B6.out 1).trans rfl
 have hf6_ := blk_frozen B6.out
 have P : ∀ (A : Option Addr) (n c : Nat) (y : Int), Aside0 ((((w5.setCell ⟨g6, 0, none⟩ (.slice A n c)).setCell ⟨g6, 1, none⟩ (.int .i64 y)).heap[g6]? = some (.cells #[.slice A n c, .int .i64 y] 104 (0, 0))) ∧ Below w.heap.size w ((w5.setCell ⟨g6, 0, none⟩ (.slice A n c)).setCell ⟨g6, 1, none⟩ (.int .i64 y))) := fun A n c y =>
  ⟨blk_put (cs' := #[.slice A n c, .int .i64 y]) (blk_set B6.out 0 (.slice A n c)) 1 (.int .i64 y) rfl, below_set (below_set HB.out GE6.out) GE6.out⟩
 by_cases hab : a < b
 ·
  have P1 := P Ab nb cb b
  clear P
  have hz : decide (a < b) = true := decide_eq_true hab
  go_wp2
  have hq0 := (blk_cell P1.out.1 0).trans rfl
  have hq1 := (blk_cell P1.out.1 1).trans rfl
  refine bodyPost_ret (v := .agg #[.slice Ab nb cb, .int .i64 b]) ?_ rfl ?_
  ·
   simp [results, Try.results66, go_sem, hq0, hq1]
  ·
   exact ⟨by first | rfl | rw [if_pos hab], P1.out.2⟩
 ·
  have P1 := P Aa na ca a
  clear P
  have hz : decide (a < b) = false := decide_eq_false hab
  go_wp2
  have hq0 := (blk_cell P1.out.1 0).trans rfl
  have hq1 := (blk_cell P1.out.1 1).trans rfl
  refine bodyPost_ret (v := .agg #[.slice Aa na ca, .int .i64 a]) ?_ rfl ?_
  ·
   simp [results, Try.results66, go_sem, hq0, hq1]
  ·
   exact ⟨by first | rfl | rw [if_neg (by omega)], P1.out.2⟩
end Go.Proofs.Ytodmemndaaiolaa.PC7
namespace Go.Proofs.Ytodmemndaaiolaa.PC7
set_option linter.unusedVariables false
set_option linter.unusedSimpArgs false
open Go.RowKit Go.Proofs.YtodmemndaaiolaaW.PrintWords Go.Proofs.YtodmemndaaiolaaW.PrintLast Go.Proofs.YtodmemndaaiolaaW.PrintMore
open Go.Shelf
attribute [local go_sem] Oper.semAt_some
set_option maxHeartbeats 8000000 in
set_option maxRecDepth 100000 in
theorem best_calls (x : VoyV) (r1 : List Int) (r2 r3 : Int) (w : World) (hx : x.Ok w) (h : ship_Best.f x.light x.under x.trim x.holds x.leaves x.sills x.lots = some (r1, r2, r3)) :
  Calls Try.prog 28 #[.agg #[.int .i64 x.light, .int .i64 x.under, .int .i64 x.trim, .slice x.A3 x.holds.length x.c3, .int .i64 x.leaves, .slice x.A5 x.sills.length x.c5, .slice x.A6 x.lots.length x.c6]] w fun e w' => ∃ v0_ : Value, e = .returned (.tuple #[v0_, .int .i64 r2, .int .i64 r3]) ∧ Kd.R (Kd.int .i64) 3 w' w.heap.size (fun _ => True) v0_ r1 ∧ Below w.heap.size w w' := by
 have hu26 := Try.underlying26
 have hu104 := Try.underlying104
 have hu56 := Try.underlying56
 unfold ship_Best.f at h
 replace h := Option.bind_eq_some_iff.1 h
 obtain ⟨er, hst0, h⟩ := h
 obtain ⟨ks, hst⟩ := limO_ev hst0
 clear hst0
 have HX := Aside0.mk hx
 have HST := Aside0.mk hst
 have H := Aside0.mk h
 clear hx hst h
 refine (callsIn_wide (n := 6)).1 ?_
 refine callsIn_of_wp_marks Try.func28 rfl trivial ?_ rfl
 simp only [Try.ntmps28, List.size_toArray, List.length_cons, List.length_nil, Nat.reduceAdd, Nat.reduceSub, Array.replicate_succ, Array.replicate_zero, List.push_toArray, List.append_toArray, List.nil_append, List.cons_append]
 refine wpIn_wide.2 ?_
 go_wp2_with (((with_reducible refine gate_dst (N := 1) rfl ?_); refine box_event ?hg (N := 1) ?hd (cs := #[.int .i64 x.light, .int .i64 x.under, .int .i64 x.trim, .slice x.A3 x.holds.length x.c3, .int .i64 x.leaves, .slice x.A5 x.sills.length x.c5, .slice x.A6 x.lots.length x.c6]) (t := 26) ?hr ?_; (case hd => rfl); (case hg => rfl); (case hr => first | (go_simp; done) | (go_simp; rfl)); intro gb hg w2 hbox hb; have BK := Aside0.mk hbox; have HB := Aside0.mk hb; have GE : Aside0 (w.heap.size ≤ gb) := ⟨Nat.le_of_eq hg.symm⟩; have hz0_ := (blk_cell BK.out 0).trans rfl; have hz1_ := (blk_cell BK.out 1).trans rfl; have hz2_ := (blk_cell BK.out 2).trans rfl; have hz3_ := (blk_cell BK.out 3).trans rfl; have hz4_ := (blk_cell BK.out 4).trans rfl; have hz5_ := (blk_cell BK.out 5).trans rfl; have hz6_ := (blk_cell BK.out 6).trans rfl; clear hg hbox hb))
 refine (ship_Check.calls ks x.light x.under x.trim x.A3 x.c3 x.holds x.leaves x.A5 x.c5 x.sills x.A6 x.c6 x.lots er w2 (HX.out.below HB.out).h (HX.out.below HB.out).hc (HX.out.below HB.out).s (HX.out.below HB.out).sc (HX.out.below HB.out).l (HX.out.below HB.out).lc HST.out).mono ?_
 rintro e w3 ⟨rfl, hb3⟩
 replace BK := Aside0.mk (blk_below BK.out hb3)
 replace HB := Aside0.mk (below_step HB.out hb3)
 clear hb3 hz0_ hz1_ hz2_ hz3_ hz4_ hz5_ hz6_
 by_cases her : er = 0
 case neg =>
  have hh := H.out
  rw [if_neg her] at hh
  have hnb : (er == 0) = false := beq_eq_false_iff_ne.2 her
  simp only [Option.some.injEq, Prod.mk.injEq] at hh
  obtain ⟨rfl, rfl, rfl⟩ := hh
  clear her H
  go_wp2
  exact ⟨.tuple #[.slice none 0 0, .int .i64 0, .int .i64 er], by simp [results, Try.results28, go_sem], _, rfl, R_of_owns .i64 (World.ownsRow_nil _ _ _ _), HB.out⟩
 subst her
 have hh := H.out
 rw [if_pos rfl] at hh
 by_cases hc : x.holds.length ≤ 100 ∧ x.lots.length ≤ 6 ∧ lensOK x.sills ∧ (∀ t, t ∈ stowsL x.holds.length x.lots.length → (goodO x.light x.under x.trim x.holds x.leaves x.sills x.lots t).isSome = true)
 case neg => rw [if_neg hc] at hh; cases hh
 rw [if_pos hc] at hh
 obtain ⟨hH, hN, hLS, hGO⟩ := hc
 have HLN := Aside0.mk (SailLens.of hLS)
 have HGO := Aside0.mk hGO
 obtain ⟨good, hgood⟩ : ∃ g, g = goodB x.light x.under x.trim x.holds x.leaves x.sills x.lots := ⟨_, rfl⟩
 obtain ⟨worth, hworth⟩ : ∃ g : List Int → Int, g = fun t => worthGo x.lots 0 t 0 := ⟨_, rfl⟩
 rw [← hgood, ← hworth] at hh
 simp only [Option.some.injEq, Prod.mk.injEq] at hh
 have HH := Aside0.mk hh
 have HGD := Aside0.mk hgood
 have HWD := Aside0.mk hworth
 clear hh H hLS hGO hgood hworth
 go_upto_region 5 with (first
  | ((with_reducible refine gate_dst (N := 6) rfl ?_); refine box_event ?hg (N := 6) ?hd (cs := #[.slice none 0 0, .int .i64 0]) (t := 104) ?hr ?_; (case hd => rfl); (case hg => rfl); (case hr => first | (go_simp; done) | (go_simp; rfl)); intro g6 hg w4 hbox hb; have B6 := Aside0.mk hbox; have GE6 : Aside0 (w.heap.size ≤ g6) := ⟨by rw [hg]; exact HB.out.size⟩; have N6 : Aside0 (gb ≠ g6) := ⟨by have := blk_lt BK.out; omega⟩; replace BK := Aside0.mk (blk_below BK.out hb); replace HB := Aside0.mk (below_step HB.out hb); have hy0_ : w4.cell? ⟨g6, 0, none⟩ = some (.slice none 0 0) := (blk_cell B6.out 0).trans rfl; have hy1_ : w4.cell? ⟨g6, 1, none⟩ = some (.int .i64 0) := (blk_cell B6.out 1).trans rfl; have hfy_ := blk_frozen B6.out; clear hg hbox hb))
 have C6 := Aside0.mk (blk_put (cs' := #[.slice none 0 0, .int .i64 (-1)]) (blk_set B6.out 0 (.slice none 0 0)) 1 (.int .i64 (-1)) rfl)
 have CK := Aside0.mk (blk_far (blk_far BK.out (p := ⟨g6, 0, none⟩) N6.out (.slice none 0 0)) (p := ⟨g6, 1, none⟩) N6.out (.int .i64 (-1)))
 have CB : Aside0 (Below w.heap.size w ((w4.setCell ⟨g6, 0, none⟩ (.slice none 0 0)).setCell ⟨g6, 1, none⟩ (.int .i64 (-1)))) := ⟨below_set (below_set HB.out GE6.out) GE6.out⟩
 clear hy0_ hy1_ hfy_ B6 BK HB
 generalize (w4.setCell ⟨g6, 0, none⟩ (.slice none 0 0)).setCell ⟨g6, 1, none⟩ (.int .i64 (-1)) = w5 at *
 have hz0_ := (blk_cell CK.out 0).trans rfl
 have hz1_ := (blk_cell CK.out 1).trans rfl
 have hz2_ := (blk_cell CK.out 2).trans rfl
 have hz3_ := (blk_cell CK.out 3).trans rfl
 have hz4_ := (blk_cell CK.out 4).trans rfl
 have hz5_ := (blk_cell CK.out 5).trans rfl
 have hz6_ := (blk_cell CK.out 6).trans rfl
 go_wp2_with (fail)
 refine (stowages_calls x w5).mono ?_
 rintro e w6 ⟨gv, rfl, hgv, hbv, hb6⟩
 have BV := Aside0.mk hbv
 have NV : Aside0 (gv ≠ g6) := ⟨by have := blk_lt C6.out; omega⟩
 have LV := Aside0.mk (blk_lt C6.out)
 replace C6 := Aside0.mk (blk_below C6.out hb6)
 replace CK := Aside0.mk (blk_below CK.out hb6)
 replace CB := Aside0.mk (below_step CB.out hb6)
 clear hgv hbv hb6 hz0_ hz1_ hz2_ hz3_ hz4_ hz5_ hz6_
 go_wp2
 refine (wpIn_wide (n := 6)).1 ?_
 have LT6 := Aside0.mk (blk_lt C6.out)
 have LTK := Aside0.mk (blk_lt CK.out)
 refine range_gives (n := 6) (gf := 82) (lb := #[.pointer (some ⟨gv, 0, none⟩)]) (by decide) rfl (enters_of Try.func82 (by kernel_rfl) rfl)
  (stowages_gives 5 gv w.heap.size g6 (by decide) x w6 BV.out NV.out LT6.out hH hN CB.out.size) kpB_trans kpB_obj (rxS_obj _ _) (Below.refl _ _) (fun _ => rfl) (BestI w g6 gb #[.int .i64 x.light, .int .i64 x.under, .int .i64 x.trim, .slice x.A3 x.holds.length x.c3, .int .i64 x.leaves, .slice x.A5 x.sills.length x.c5, .slice x.A6 x.lots.length x.c6] good worth) (fun b => BestI.own CB.out.size b)
  (fun b pre A i v hb hi _ => BestI.set CB.out.size LT6.out LTK.out b pre A i v hb hi) (fun b hb => BestI.first b (Nat.le_trans CB.out.size hb) C6.out CK.out CB.out)
  (fun p => { tmps := List.toArray (.agg #[.int .i64 x.light, .int .i64 x.under, .int .i64 x.trim, .slice x.A3 x.holds.length x.c3, .int .i64 x.leaves, .slice x.A5 x.sills.length x.c5, .slice x.A6 x.lots.length x.c6] :: .pointer (some ⟨gb, 0, none⟩) :: .slice none 0 0 :: .int .i64 0 :: .int .i64 0 :: .int .i64 0 :: .pointer (some ⟨g6, 0, none⟩) :: p.1 :: undef :: undef :: undef :: .agg #[.int .i64 x.light, .int .i64 x.under, .int .i64 x.trim, .slice x.A3 x.holds.length x.c3, .int .i64 x.leaves, .slice x.A5 x.sills.length x.c5, .slice x.A6 x.lots.length x.c6] :: .int .i64 0 :: .int .i64 0 :: .bool false :: undef :: .agg #[.slice none 0 0, .int .i64 (-1)] :: .agg #[.int .i64 x.light, .int .i64 x.under, .int .i64 x.trim, .slice x.A3 x.holds.length x.c3, .int .i64 x.leaves, .slice x.A5 x.sills.length x.c5, .slice x.A6 x.lots.length x.c6] :: .func (.func 82) #[] #[.pointer (some ⟨gv, 0, none⟩)] :: p.1 :: undef :: undef :: undef :: undef :: undef :: undef :: undef :: undef :: undef :: undef :: undef :: undef :: undef :: undef :: undef :: undef :: undef :: undef :: undef :: undef :: undef :: undef :: undef :: undef :: undef :: undef :: undef :: undef :: undef :: undef :: undef :: undef :: undef :: undef :: undef :: undef :: undef :: undef :: undef :: undef :: undef :: undef :: undef :: undef :: undef :: undef :: undef :: undef :: undef :: undef :: undef :: undef :: []), defers := [] }) ?assign ?body ?done
 case assign =>
  intro l p W K hK
  unfold encStow
  gi_wp2
  exact hK
 case body =>
  rintro l b pre ⟨v, t⟩ W hb ⟨A, n, c, h6, hR, hbk, hB⟩ ⟨hmem, hR2⟩
  obtain ⟨base2, hn2, hlt2, hRv⟩ := hR2
  replace hRv : Kd.R (Kd.int .i64) 3 W base2 (fun _ => True) v t := hRv
  replace hmem : t ∈ stowsL x.holds.length x.lots.length := hmem
  dsimp only
  obtain ⟨Av, cv, hv⟩ := Kd.R_slice hRv
  subst hv
  have HRV := Aside0.mk hRv
  have HCT := Aside0.mk (Kd.R_reads' hRv).2.2
  have HCL := Aside0.mk (Kd.R_reads' hRv).2.1
  have H6 := Aside0.mk h6
  have HR6 := Aside0.mk hR
  have HBK := Aside0.mk hbk
  have HBB := Aside0.mk hB
  have HBN := Aside0.mk (And.intro hn2 hlt2)
  have HBI : Aside0 (BestI w g6 gb #[.int .i64 x.light, .int .i64 x.under, .int .i64 x.trim, .slice x.A3 x.holds.length x.c3, .int .i64 x.leaves, .slice x.A5 x.sills.length x.c5, .slice x.A6 x.lots.length x.c6] good worth b pre W) := ⟨⟨A, n, c, h6, hR, hbk, hB⟩⟩
  have HTL := Aside0.mk (stowsL_mem _ _ t hmem).1
  have hg := goodO_some _ _ _ _ _ _ _ t (HGO.out t hmem)
  rw [← HGD.out] at hg
  have HBW := Aside0.mk (below_drew1 (Below.refl W.heap.size W))
  have HXW := Aside0.mk (HX.out.below hB)
  clear hRv h6 hR hbk hB hn2 hlt2 hmem
  unfold goodO at hg
  obtain ⟨e1, he1, hg1⟩ := Option.bind_eq_some_iff.1 hg
  obtain ⟨k1, hk1⟩ := limO_ev he1
  have HK1 := Aside0.mk hk1
  clear hg he1 hk1
  have hk0_ : W.drew.cell? ⟨gb, 0, none⟩ = some (.int .i64 x.light) := (blk_cell (blk_drew HBK.out) 0).trans rfl
  have hk1_ : W.drew.cell? ⟨gb, 1, none⟩ = some (.int .i64 x.under) := (blk_cell (blk_drew HBK.out) 1).trans rfl
  have hk2_ : W.drew.cell? ⟨gb, 2, none⟩ = some (.int .i64 x.trim) := (blk_cell (blk_drew HBK.out) 2).trans rfl
  have hk3_ : W.drew.cell? ⟨gb, 3, none⟩ = some (.slice x.A3 x.holds.length x.c3) := (blk_cell (blk_drew HBK.out) 3).trans rfl
  have hk4_ : W.drew.cell? ⟨gb, 4, none⟩ = some (.int .i64 x.leaves) := (blk_cell (blk_drew HBK.out) 4).trans rfl
  have hk5_ : W.drew.cell? ⟨gb, 5, none⟩ = some (.slice x.A5 x.sills.length x.c5) := (blk_cell (blk_drew HBK.out) 5).trans rfl
  have hk6_ : W.drew.cell? ⟨gb, 6, none⟩ = some (.slice x.A6 x.lots.length x.c6) := (blk_cell (blk_drew HBK.out) 6).trans rfl
  by_cases h1 : e1 = 0
  case neg =>
   rw [if_neg h1] at hg1
   have hgf : good t = false := by injection hg1 with hg1; exact hg1.symm
   have hnb : (e1 == 0) = false := beq_eq_false_iff_ne.2 h1
   have hnc : (e1 != 0) = true := bne_iff_ne.2 h1
   clear hg1
   gi_upto_region 7 with (fail)
   refine startR_ (m := 23) (S := fun w' => w'.cell? ⟨gb, 0, none⟩ = some (.int .i64 x.light) ∧ w'.cell? ⟨gb, 1, none⟩ = some (.int .i64 x.under) ∧ w'.cell? ⟨gb, 2, none⟩ = some (.int .i64 x.trim) ∧ w'.cell? ⟨gb, 3, none⟩ = some (.slice x.A3 x.holds.length x.c3) ∧ w'.cell? ⟨gb, 4, none⟩ = some (.int .i64 x.leaves) ∧ w'.cell? ⟨gb, 5, none⟩ = some (.slice x.A5 x.sills.length x.c5) ∧ w'.cell? ⟨gb, 6, none⟩ = some (.slice x.A6 x.lots.length x.c6)) (ds := []) (bz 23 0) (by kernel_rfl) (fun ⟨_, _, h_⟩ => h_) (by kernel_rfl) rfl rfl ⟨hk0_, hk1_, hk2_, hk3_, hk4_, hk5_, hk6_⟩ (fun hHeld => ?_)
   generalize W.drew = wd at HBW hHeld ⊢
   refine pure_y 1 (some 21) (bz 23 2) ?_
   refine take_ (i := 0) (N := some 20) (v := ?_) (a' := ?_) (bz 23 3) rfl rfl (by kernel_rfl) (fun _ _ _ h => h) (Or.inl ⟨by rfl, ?_⟩) hHeld ?_ ?_
   rotate_left; (rintro w' ⟨s0, s1, s2, s3, s4, s5, s6⟩; go_simp; with_reducible rfl); rotate_left; (simp only [Act.put, put_x, i64_w, i32_w]; rfl)
   refine one_ (i := 2) (N := some 22) (bz 23 7) rfl rfl (by kernel_rfl) (by decide) (fun K hK => ?_)
   refine goes_ Try.func63 (by kernel_rfl) rfl #[.agg #[.int .i64 x.light, .int .i64 x.under, .int .i64 x.trim, .slice x.A3 x.holds.length x.c3, .int .i64 x.leaves, .slice x.A5 x.sills.length x.c5, .slice x.A6 x.lots.length x.c6], .slice Av t.length cv] (by rfl) rfl rfl (by (try simp only [List.map_toArray, List.map_cons, List.map_nil]); first | done | rfl) ?_
   with_reducible refine (ship_checkStowage.calls k1 x.light x.under x.trim x.A3 x.c3 x.holds x.leaves x.A5 x.c5 x.sills x.A6 x.c6 x.lots Av cv t _ _ (HXW.out.below HBW.out).h (HXW.out.below HBW.out).hc (HXW.out.below HBW.out).s (HXW.out.below HBW.out).sc (HXW.out.below HBW.out).l (HXW.out.below HBW.out).lc (Kd.C_below HCT.out HBW.out) HCL.out HK1.out).mono ?_
   rintro e wa ⟨rfl, hb_⟩
   replace HBW := Aside0.mk (below_step HBW.out hb_)
   refine ⟨_, rfl, ?_⟩
   refine hK.out _ _ ⟨(hb_.cell (World.block_lt_of_cell? _ _ (hHeld.1))).trans (hHeld.1), (hb_.cell (World.block_lt_of_cell? _ _ (hHeld.2.1))).trans (hHeld.2.1), (hb_.cell (World.block_lt_of_cell? _ _ (hHeld.2.2.1))).trans (hHeld.2.2.1), (hb_.cell (World.block_lt_of_cell? _ _ (hHeld.2.2.2.1))).trans (hHeld.2.2.2.1), (hb_.cell (World.block_lt_of_cell? _ _ (hHeld.2.2.2.2.1))).trans (hHeld.2.2.2.2.1), (hb_.cell (World.block_lt_of_cell? _ _ (hHeld.2.2.2.2.2.1))).trans (hHeld.2.2.2.2.2.1), (hb_.cell (World.block_lt_of_cell? _ _ (hHeld.2.2.2.2.2.2))).trans (hHeld.2.2.2.2.2.2)⟩ (fun hHeld => ?_)
   clear hK K
   refine norm_ (a' := ?_) ?_ ?_; rotate_left; (show Act.put _ (some 22) _ = _; simp only [Act.put, put_x, i64_w, i32_w]; rfl)
   refine pure_y 3 (some 23) (bz 23 15) ?_
   refine pure_y 4 (some 24) (bz 23 31) ?_
   refine pure_ (i := 5) (N := some 25) (v := undef) (a' := ?_) (bz 23 63) rfl rfl (by kernel_rfl) (fun _ _ _ h => h) (Or.inr ⟨by rfl, rfl⟩) ?_ ?_
   rotate_left
   ·
    simp only [Act.put, put_x, i64_w, i32_w]
    rfl
   refine pure_ (i := 6) (N := some 26) (v := undef) (a' := ?_) (bz 23 127) rfl rfl (by kernel_rfl) (fun _ _ _ h => h) (Or.inr ⟨by rfl, rfl⟩) ?_ ?_
   rotate_left
   ·
    simp only [Act.put, put_x, i64_w, i32_w]
    rfl
   refine pure_ (i := 7) (N := some 27) (v := undef) (a' := ?_) (bz 23 255) rfl rfl (by kernel_rfl) (fun _ _ _ h => h) (Or.inr ⟨by rfl, rfl⟩) ?_ ?_
   rotate_left
   ·
    simp only [Act.put, put_x, i64_w, i32_w]
    rfl
   refine pure_ (i := 8) (N := some 28) (v := undef) (a' := ?_) (bz 23 511) rfl rfl (by kernel_rfl) (fun _ _ _ h => h) (Or.inr ⟨by rfl, rfl⟩) ?_ ?_
   rotate_left
   ·
    simp only [Act.put, put_x, i64_w, i32_w]
    rfl
   refine pure_ (i := 9) (N := some 29) (v := undef) (a' := ?_) (bz 23 1023) rfl rfl (by kernel_rfl) (fun _ _ _ h => h) (Or.inr ⟨by rfl, rfl⟩) ?_ ?_
   rotate_left
   ·
    simp only [Act.put, put_x, i64_w, i32_w]
    rfl
   refine pure_ (i := 10) (N := some 30) (v := undef) (a' := ?_) (bz 23 2047) rfl rfl (by kernel_rfl) (fun _ _ _ h => h) (Or.inr ⟨by rfl, rfl⟩) ?_ ?_
   rotate_left
   ·
    simp only [Act.put, put_x, i64_w, i32_w]
    rfl
   refine pure_y 11 (some 31) (bz 23 4095) ?_
   refine pure_y 12 (some 32) (bz 23 8191) ?_
   refine pure_ (i := 13) (N := some 33) (v := undef) (a' := ?_) (bz 23 16383) rfl rfl (by kernel_rfl) (fun _ _ _ h => h) (Or.inr ⟨by rfl, rfl⟩) ?_ ?_
   rotate_left
   ·
    simp only [Act.put, put_x, i64_w, i32_w]
    rfl
   refine pure_ (i := 14) (N := some 34) (v := undef) (a' := ?_) (bz 23 32767) rfl rfl (by kernel_rfl) (fun _ _ _ h => h) (Or.inr ⟨by rfl, rfl⟩) ?_ ?_
   rotate_left
   ·
    simp only [Act.put, put_x, i64_w, i32_w]
    rfl
   refine pure_ (i := 15) (N := some 35) (v := undef) (a' := ?_) (bz 23 65535) rfl rfl (by kernel_rfl) (fun _ _ _ h => h) (Or.inr ⟨by rfl, rfl⟩) ?_ ?_
   rotate_left
   ·
    simp only [Act.put, put_x, i64_w, i32_w]
    rfl
   refine pure_ (i := 16) (N := some 36) (v := undef) (a' := ?_) (bz 23 131071) rfl rfl (by kernel_rfl) (fun _ _ _ h => h) (Or.inr ⟨by rfl, rfl⟩) ?_ ?_
   rotate_left
   ·
    simp only [Act.put, put_x, i64_w, i32_w]
    rfl
   refine pure_ (i := 17) (N := some 37) (v := undef) (a' := ?_) (bz 23 262143) rfl rfl (by kernel_rfl) (fun _ _ _ h => h) (Or.inr ⟨by rfl, rfl⟩) ?_ ?_
   rotate_left
   ·
    simp only [Act.put, put_x, i64_w, i32_w]
    rfl
   refine pure_ (i := 18) (N := some 38) (v := undef) (a' := ?_) (bz 23 524287) rfl rfl (by kernel_rfl) (fun _ _ _ h => h) (Or.inr ⟨by rfl, rfl⟩) ?_ ?_
   rotate_left
   ·
    simp only [Act.put, put_x, i64_w, i32_w]
    rfl
   refine pure_ (i := 19) (N := some 39) (v := undef) (a' := ?_) (bz 23 1048575) rfl rfl (by kernel_rfl) (fun _ _ _ h => h) (Or.inr ⟨by rfl, rfl⟩) ?_ ?_
   rotate_left
   ·
    simp only [Act.put, put_x, i64_w, i32_w]
    rfl
   refine pure_ (i := 20) (N := some 40) (v := undef) (a' := ?_) (bz 23 2097151) rfl rfl (by kernel_rfl) (fun _ _ _ h => h) (Or.inr ⟨by rfl, rfl⟩) ?_ ?_
   rotate_left
   ·
    simp only [Act.put, put_x, i64_w, i32_w]
    rfl
   refine pure_ (i := 21) (N := some 41) (v := undef) (a' := ?_) (bz 23 4194303) rfl rfl (by kernel_rfl) (fun _ _ _ h => h) (Or.inr ⟨by rfl, rfl⟩) ?_ ?_
   rotate_left
   ·
    simp only [Act.put, put_x, i64_w, i32_w]
    rfl
   refine pure_y 22 (some 42) (bz 23 8388607) ?_
   refine done_ (by kernel_rfl) ?_
   gi_wp2
   exact ⟨keeps_of_below HBW.out, kpB_of_below HBW.out, HBI.out.below HBW.out hgf⟩
  subst h1
  rw [if_pos rfl] at hg1
  replace hg1 := Option.bind_eq_some_iff.1 hg1
  obtain ⟨⟨a1, a2⟩, ha, hg2⟩ := hg1
  replace hg2 := Option.bind_eq_some_iff.1 hg2
  obtain ⟨bl, hbl, hg3⟩ := hg2
  obtain ⟨k2, hk2⟩ := limO_ev ha
  obtain ⟨k3, hk3⟩ := limO_ev hbl
  replace hk3 : ship_level.f k3 x.light x.under x.trim x.holds x.leaves x.sills x.lots a1 a2 = some bl := hk3
  have HK2 := Aside0.mk hk2
  have HK3 := Aside0.mk hk3
  clear ha hbl hk2 hk3
  cases bl with
  | false =>
   rw [if_neg (by simp)] at hg3
   have hgf : good t = false := by injection hg3 with hg3; exact hg3.symm
   clear hg3
   gi_upto_region 7 with (fail)
   refine startR_ (m := 23) (S := fun w' => w'.cell? ⟨gb, 0, none⟩ = some (.int .i64 x.light) ∧ w'.cell? ⟨gb, 1, none⟩ = some (.int .i64 x.under) ∧ w'.cell? ⟨gb, 2, none⟩ = some (.int .i64 x.trim) ∧ w'.cell? ⟨gb, 3, none⟩ = some (.slice x.A3 x.holds.length x.c3) ∧ w'.cell? ⟨gb, 4, none⟩ = some (.int .i64 x.leaves) ∧ w'.cell? ⟨gb, 5, none⟩ = some (.slice x.A5 x.sills.length x.c5) ∧ w'.cell? ⟨gb, 6, none⟩ = some (.slice x.A6 x.lots.length x.c6)) (ds := []) (bz 23 0) (by kernel_rfl) (fun ⟨_, _, h_⟩ => h_) (by kernel_rfl) rfl rfl ⟨hk0_, hk1_, hk2_, hk3_, hk4_, hk5_, hk6_⟩ (fun hHeld => ?_)
   generalize W.drew = wd at HBW hHeld ⊢
   refine pure_y 1 (some 21) (bz 23 2) ?_
   refine take_ (i := 0) (N := some 20) (v := ?_) (a' := ?_) (bz 23 3) rfl rfl (by kernel_rfl) (fun _ _ _ h => h) (Or.inl ⟨by rfl, ?_⟩) hHeld ?_ ?_
   rotate_left; (rintro w' ⟨s0, s1, s2, s3, s4, s5, s6⟩; go_simp; with_reducible rfl); rotate_left; (simp only [Act.put, put_x, i64_w, i32_w]; rfl)
   refine one_ (i := 2) (N := some 22) (bz 23 7) rfl rfl (by kernel_rfl) (by decide) (fun K hK => ?_)
   refine goes_ Try.func63 (by kernel_rfl) rfl #[.agg #[.int .i64 x.light, .int .i64 x.under, .int .i64 x.trim, .slice x.A3 x.holds.length x.c3, .int .i64 x.leaves, .slice x.A5 x.sills.length x.c5, .slice x.A6 x.lots.length x.c6], .slice Av t.length cv] (by rfl) rfl rfl (by (try simp only [List.map_toArray, List.map_cons, List.map_nil]); first | done | rfl) ?_
   with_reducible refine (ship_checkStowage.calls k1 x.light x.under x.trim x.A3 x.c3 x.holds x.leaves x.A5 x.c5 x.sills x.A6 x.c6 x.lots Av cv t _ _ (HXW.out.below HBW.out).h (HXW.out.below HBW.out).hc (HXW.out.below HBW.out).s (HXW.out.below HBW.out).sc (HXW.out.below HBW.out).l (HXW.out.below HBW.out).lc (Kd.C_below HCT.out HBW.out) HCL.out HK1.out).mono ?_
   rintro e wa ⟨rfl, hb_⟩
   replace HBW := Aside0.mk (below_step HBW.out hb_)
   refine ⟨_, rfl, ?_⟩
   refine hK.out _ _ ⟨(hb_.cell (World.block_lt_of_cell? _ _ (hHeld.1))).trans (hHeld.1), (hb_.cell (World.block_lt_of_cell? _ _ (hHeld.2.1))).trans (hHeld.2.1), (hb_.cell (World.block_lt_of_cell? _ _ (hHeld.2.2.1))).trans (hHeld.2.2.1), (hb_.cell (World.block_lt_of_cell? _ _ (hHeld.2.2.2.1))).trans (hHeld.2.2.2.1), (hb_.cell (World.block_lt_of_cell? _ _ (hHeld.2.2.2.2.1))).trans (hHeld.2.2.2.2.1), (hb_.cell (World.block_lt_of_cell? _ _ (hHeld.2.2.2.2.2.1))).trans (hHeld.2.2.2.2.2.1), (hb_.cell (World.block_lt_of_cell? _ _ (hHeld.2.2.2.2.2.2))).trans (hHeld.2.2.2.2.2.2)⟩ (fun hHeld => ?_)
   clear hK K
   refine norm_ (a' := ?_) ?_ ?_; rotate_left; (show Act.put _ (some 22) _ = _; simp only [Act.put, put_x, i64_w, i32_w]; rfl)
   refine pure_y 3 (some 23) (bz 23 15) ?_
   refine pure_y 4 (some 24) (bz 23 31) ?_
   refine pure_y 7 (some 27) (bz 23 159) ?_
   refine take_ (i := 5) (N := some 25) (v := ?_) (a' := ?_) (bz 23 191) rfl rfl (by kernel_rfl) (fun _ _ _ h => h) (Or.inl ⟨by rfl, ?_⟩) hHeld ?_ ?_
   rotate_left; (rintro w' ⟨s0, s1, s2, s3, s4, s5, s6⟩; go_simp; with_reducible rfl); rotate_left; (simp only [Act.put, put_x, i64_w, i32_w]; rfl)
   refine take_ (i := 6) (N := some 26) (v := ?_) (a' := ?_) (bz 23 255) rfl rfl (by kernel_rfl) (fun _ _ _ h => h) (Or.inl ⟨by rfl, ?_⟩) hHeld ?_ ?_
   rotate_left; (rintro w' ⟨s0, s1, s2, s3, s4, s5, s6⟩; go_simp; with_reducible rfl); rotate_left; (simp only [Act.put, put_x, i64_w, i32_w]; rfl)
   refine one_ (i := 8) (N := some 28) (bz 23 511) rfl rfl (by kernel_rfl) (by decide) (fun K hK => ?_)
   refine goes_ Try.func65 (by kernel_rfl) rfl #[.agg #[.int .i64 x.light, .int .i64 x.under, .int .i64 x.trim, .slice x.A3 x.holds.length x.c3, .int .i64 x.leaves, .slice x.A5 x.sills.length x.c5, .slice x.A6 x.lots.length x.c6], .slice Av t.length cv] (by rfl) rfl rfl (by (try simp only [List.map_toArray, List.map_cons, List.map_nil]); first | done | rfl) ?_
   with_reducible refine (ship_apart.calls k2 x.light x.under x.trim x.A3 x.c3 x.holds x.leaves x.A5 x.c5 x.sills x.A6 x.c6 x.lots Av cv t a1 a2 _ (HXW.out.below HBW.out).h (HXW.out.below HBW.out).hc (HXW.out.below HBW.out).s (HXW.out.below HBW.out).sc (HXW.out.below HBW.out).l (HXW.out.below HBW.out).lc (Kd.C_below HCT.out HBW.out) HCL.out HK2.out).mono ?_
   rintro e wb ⟨rfl, hb_⟩
   replace HBW := Aside0.mk (below_step HBW.out hb_)
   refine ⟨_, rfl, ?_⟩
   refine hK.out _ _ ⟨(hb_.cell (World.block_lt_of_cell? _ _ (hHeld.1))).trans (hHeld.1), (hb_.cell (World.block_lt_of_cell? _ _ (hHeld.2.1))).trans (hHeld.2.1), (hb_.cell (World.block_lt_of_cell? _ _ (hHeld.2.2.1))).trans (hHeld.2.2.1), (hb_.cell (World.block_lt_of_cell? _ _ (hHeld.2.2.2.1))).trans (hHeld.2.2.2.1), (hb_.cell (World.block_lt_of_cell? _ _ (hHeld.2.2.2.2.1))).trans (hHeld.2.2.2.2.1), (hb_.cell (World.block_lt_of_cell? _ _ (hHeld.2.2.2.2.2.1))).trans (hHeld.2.2.2.2.2.1), (hb_.cell (World.block_lt_of_cell? _ _ (hHeld.2.2.2.2.2.2))).trans (hHeld.2.2.2.2.2.2)⟩ (fun hHeld => ?_)
   clear hK K
   refine norm_ (a' := ?_) ?_ ?_; rotate_left; (show Act.put _ (some 28) _ = _; simp only [Act.put, put_x, i64_w, i32_w]; rfl)
   refine one_ (i := 9) (N := some 29) (bz 23 1023) rfl rfl (by kernel_rfl) (by decide) (fun K hK => ?_)
   refine goes_ Try.func64 (by kernel_rfl) rfl #[.agg #[.int .i64 x.light, .int .i64 x.under, .int .i64 x.trim, .slice x.A3 x.holds.length x.c3, .int .i64 x.leaves, .slice x.A5 x.sills.length x.c5, .slice x.A6 x.lots.length x.c6], .agg #[.int .i64 a1, .int .i64 a2]] (by rfl) rfl rfl (by (try simp only [List.map_toArray, List.map_cons, List.map_nil]); first | done | rfl) ?_
   with_reducible refine (ship_level.calls k3 x.light x.under x.trim x.A3 x.c3 x.holds x.leaves x.A5 x.c5 x.sills x.A6 x.c6 x.lots a1 a2 _ _ (HXW.out.below HBW.out).h (HXW.out.below HBW.out).hc (HXW.out.below HBW.out).s (HXW.out.below HBW.out).sc (HXW.out.below HBW.out).l (HXW.out.below HBW.out).lc HK3.out).mono ?_
   rintro e wc ⟨rfl, hb_⟩
   replace HBW := Aside0.mk (below_step HBW.out hb_)
   refine ⟨_, rfl, ?_⟩
   refine hK.out _ _ ⟨(hb_.cell (World.block_lt_of_cell? _ _ (hHeld.1))).trans (hHeld.1), (hb_.cell (World.block_lt_of_cell? _ _ (hHeld.2.1))).trans (hHeld.2.1), (hb_.cell (World.block_lt_of_cell? _ _ (hHeld.2.2.1))).trans (hHeld.2.2.1), (hb_.cell (World.block_lt_of_cell? _ _ (hHeld.2.2.2.1))).trans (hHeld.2.2.2.1), (hb_.cell (World.block_lt_of_cell? _ _ (hHeld.2.2.2.2.1))).trans (hHeld.2.2.2.2.1), (hb_.cell (World.block_lt_of_cell? _ _ (hHeld.2.2.2.2.2.1))).trans (hHeld.2.2.2.2.2.1), (hb_.cell (World.block_lt_of_cell? _ _ (hHeld.2.2.2.2.2.2))).trans (hHeld.2.2.2.2.2.2)⟩ (fun hHeld => ?_)
   clear hK K
   refine norm_ (a' := ?_) ?_ ?_; rotate_left; (show Act.put _ (some 29) _ = _; simp only [Act.put, put_x, i64_w, i32_w]; rfl)
   refine pure_y 10 (some 30) (bz 23 2047) ?_
   refine pure_y 11 (some 31) (bz 23 4095) ?_
   refine pure_y 12 (some 32) (bz 23 8191) ?_
   refine pure_ (i := 13) (N := some 33) (v := undef) (a' := ?_) (bz 23 16383) rfl rfl (by kernel_rfl) (fun _ _ _ h => h) (Or.inr ⟨by rfl, rfl⟩) ?_ ?_
   rotate_left
   ·
    simp only [Act.put, put_x, i64_w, i32_w]
    rfl
   refine pure_ (i := 14) (N := some 34) (v := undef) (a' := ?_) (bz 23 32767) rfl rfl (by kernel_rfl) (fun _ _ _ h => h) (Or.inr ⟨by rfl, rfl⟩) ?_ ?_
   rotate_left
   ·
    simp only [Act.put, put_x, i64_w, i32_w]
    rfl
   refine pure_ (i := 15) (N := some 35) (v := undef) (a' := ?_) (bz 23 65535) rfl rfl (by kernel_rfl) (fun _ _ _ h => h) (Or.inr ⟨by rfl, rfl⟩) ?_ ?_
   rotate_left
   ·
    simp only [Act.put, put_x, i64_w, i32_w]
    rfl
   refine pure_ (i := 16) (N := some 36) (v := undef) (a' := ?_) (bz 23 131071) rfl rfl (by kernel_rfl) (fun _ _ _ h => h) (Or.inr ⟨by rfl, rfl⟩) ?_ ?_
   rotate_left
   ·
    simp only [Act.put, put_x, i64_w, i32_w]
    rfl
   refine pure_ (i := 17) (N := some 37) (v := undef) (a' := ?_) (bz 23 262143) rfl rfl (by kernel_rfl) (fun _ _ _ h => h) (Or.inr ⟨by rfl, rfl⟩) ?_ ?_
   rotate_left
   ·
    simp only [Act.put, put_x, i64_w, i32_w]
    rfl
   refine pure_ (i := 18) (N := some 38) (v := undef) (a' := ?_) (bz 23 524287) rfl rfl (by kernel_rfl) (fun _ _ _ h => h) (Or.inr ⟨by rfl, rfl⟩) ?_ ?_
   rotate_left
   ·
    simp only [Act.put, put_x, i64_w, i32_w]
    rfl
   refine pure_ (i := 19) (N := some 39) (v := undef) (a' := ?_) (bz 23 1048575) rfl rfl (by kernel_rfl) (fun _ _ _ h => h) (Or.inr ⟨by rfl, rfl⟩) ?_ ?_
   rotate_left
   ·
    simp only [Act.put, put_x, i64_w, i32_w]
    rfl
   refine pure_ (i := 20) (N := some 40) (v := undef) (a' := ?_) (bz 23 2097151) rfl rfl (by kernel_rfl) (fun _ _ _ h => h) (Or.inr ⟨by rfl, rfl⟩) ?_ ?_
   rotate_left
   ·
    simp only [Act.put, put_x, i64_w, i32_w]
    rfl
   refine pure_ (i := 21) (N := some 41) (v := undef) (a' := ?_) (bz 23 4194303) rfl rfl (by kernel_rfl) (fun _ _ _ h => h) (Or.inr ⟨by rfl, rfl⟩) ?_ ?_
   rotate_left
   ·
    simp only [Act.put, put_x, i64_w, i32_w]
    rfl
   refine pure_y 22 (some 42) (bz 23 8388607) ?_
   refine done_ (by kernel_rfl) ?_
   gi_wp2
   exact ⟨keeps_of_below HBW.out, kpB_of_below HBW.out, HBI.out.below HBW.out hgf⟩
  | true =>
   rw [if_pos rfl] at hg3
   replace hg3 := Option.bind_eq_some_iff.1 hg3
   obtain ⟨Q, hQ, hg4⟩ := hg3
   have HQ := Aside0.mk hQ
   obtain ⟨so, hso⟩ : ∃ s, s = sailO x.under x.leaves x.sills Q false := ⟨_, rfl⟩
   rw [← hso] at hg4
   have HSO := Aside0.mk hso
   clear hQ hso
   by_cases hlt : so.length < x.sills.length
   case pos =>
    have hgf : good t = false := by injection hg4 with hg4; rw [← hg4, decide_eq_true hlt]; rfl
    have hdz : decide ((so.length : Int) < (x.sills.length : Int)) = true := decide_eq_true (by omega)
    have hdn := decide_eq_true hlt
    clear hg4 hlt
    gi_upto_region 7 with (fail)
    refine startR_ (m := 23) (S := fun w' => w'.cell? ⟨gb, 0, none⟩ = some (.int .i64 x.light) ∧ w'.cell? ⟨gb, 1, none⟩ = some (.int .i64 x.under) ∧ w'.cell? ⟨gb, 2, none⟩ = some (.int .i64 x.trim) ∧ w'.cell? ⟨gb, 3, none⟩ = some (.slice x.A3 x.holds.length x.c3) ∧ w'.cell? ⟨gb, 4, none⟩ = some (.int .i64 x.leaves) ∧ w'.cell? ⟨gb, 5, none⟩ = some (.slice x.A5 x.sills.length x.c5) ∧ w'.cell? ⟨gb, 6, none⟩ = some (.slice x.A6 x.lots.length x.c6)) (ds := []) (bz 23 0) (by kernel_rfl) (fun ⟨_, _, h_⟩ => h_) (by kernel_rfl) rfl rfl ⟨hk0_, hk1_, hk2_, hk3_, hk4_, hk5_, hk6_⟩ (fun hHeld => ?_)
    generalize W.drew = wd at HBW hHeld ⊢
    refine pure_y 1 (some 21) (bz 23 2) ?_
    refine take_ (i := 0) (N := some 20) (v := ?_) (a' := ?_) (bz 23 3) rfl rfl (by kernel_rfl) (fun _ _ _ h => h) (Or.inl ⟨by rfl, ?_⟩) hHeld ?_ ?_
    rotate_left; (rintro w' ⟨s0, s1, s2, s3, s4, s5, s6⟩; go_simp; with_reducible rfl); rotate_left; (simp only [Act.put, put_x, i64_w, i32_w]; rfl)
    refine one_ (i := 2) (N := some 22) (bz 23 7) rfl rfl (by kernel_rfl) (by decide) (fun K hK => ?_)
    refine goes_ Try.func63 (by kernel_rfl) rfl #[.agg #[.int .i64 x.light, .int .i64 x.under, .int .i64 x.trim, .slice x.A3 x.holds.length x.c3, .int .i64 x.leaves, .slice x.A5 x.sills.length x.c5, .slice x.A6 x.lots.length x.c6], .slice Av t.length cv] (by rfl) rfl rfl (by (try simp only [List.map_toArray, List.map_cons, List.map_nil]); first | done | rfl) ?_
    with_reducible refine (ship_checkStowage.calls k1 x.light x.under x.trim x.A3 x.c3 x.holds x.leaves x.A5 x.c5 x.sills x.A6 x.c6 x.lots Av cv t _ _ (HXW.out.below HBW.out).h (HXW.out.below HBW.out).hc (HXW.out.below HBW.out).s (HXW.out.below HBW.out).sc (HXW.out.below HBW.out).l (HXW.out.below HBW.out).lc (Kd.C_below HCT.out HBW.out) HCL.out HK1.out).mono ?_
    rintro e wa ⟨rfl, hb_⟩
    replace HBW := Aside0.mk (below_step HBW.out hb_)
    refine ⟨_, rfl, ?_⟩
    refine hK.out _ _ ⟨(hb_.cell (World.block_lt_of_cell? _ _ (hHeld.1))).trans (hHeld.1), (hb_.cell (World.block_lt_of_cell? _ _ (hHeld.2.1))).trans (hHeld.2.1), (hb_.cell (World.block_lt_of_cell? _ _ (hHeld.2.2.1))).trans (hHeld.2.2.1), (hb_.cell (World.block_lt_of_cell? _ _ (hHeld.2.2.2.1))).trans (hHeld.2.2.2.1), (hb_.cell (World.block_lt_of_cell? _ _ (hHeld.2.2.2.2.1))).trans (hHeld.2.2.2.2.1), (hb_.cell (World.block_lt_of_cell? _ _ (hHeld.2.2.2.2.2.1))).trans (hHeld.2.2.2.2.2.1), (hb_.cell (World.block_lt_of_cell? _ _ (hHeld.2.2.2.2.2.2))).trans (hHeld.2.2.2.2.2.2)⟩ (fun hHeld => ?_)
    clear hK K
    refine norm_ (a' := ?_) ?_ ?_; rotate_left; (show Act.put _ (some 22) _ = _; simp only [Act.put, put_x, i64_w, i32_w]; rfl)
    refine pure_y 3 (some 23) (bz 23 15) ?_
    refine pure_y 4 (some 24) (bz 23 31) ?_
    refine pure_y 7 (some 27) (bz 23 159) ?_
    refine take_ (i := 5) (N := some 25) (v := ?_) (a' := ?_) (bz 23 191) rfl rfl (by kernel_rfl) (fun _ _ _ h => h) (Or.inl ⟨by rfl, ?_⟩) hHeld ?_ ?_
    rotate_left; (rintro w' ⟨s0, s1, s2, s3, s4, s5, s6⟩; go_simp; with_reducible rfl); rotate_left; (simp only [Act.put, put_x, i64_w, i32_w]; rfl)
    refine take_ (i := 6) (N := some 26) (v := ?_) (a' := ?_) (bz 23 255) rfl rfl (by kernel_rfl) (fun _ _ _ h => h) (Or.inl ⟨by rfl, ?_⟩) hHeld ?_ ?_
    rotate_left; (rintro w' ⟨s0, s1, s2, s3, s4, s5, s6⟩; go_simp; with_reducible rfl); rotate_left; (simp only [Act.put, put_x, i64_w, i32_w]; rfl)
    refine one_ (i := 8) (N := some 28) (bz 23 511) rfl rfl (by kernel_rfl) (by decide) (fun K hK => ?_)
    refine goes_ Try.func65 (by kernel_rfl) rfl #[.agg #[.int .i64 x.light, .int .i64 x.under, .int .i64 x.trim, .slice x.A3 x.holds.length x.c3, .int .i64 x.leaves, .slice x.A5 x.sills.length x.c5, .slice x.A6 x.lots.length x.c6], .slice Av t.length cv] (by rfl) rfl rfl (by (try simp only [List.map_toArray, List.map_cons, List.map_nil]); first | done | rfl) ?_
    with_reducible refine (ship_apart.calls k2 x.light x.under x.trim x.A3 x.c3 x.holds x.leaves x.A5 x.c5 x.sills x.A6 x.c6 x.lots Av cv t a1 a2 _ (HXW.out.below HBW.out).h (HXW.out.below HBW.out).hc (HXW.out.below HBW.out).s (HXW.out.below HBW.out).sc (HXW.out.below HBW.out).l (HXW.out.below HBW.out).lc (Kd.C_below HCT.out HBW.out) HCL.out HK2.out).mono ?_
    rintro e wb ⟨rfl, hb_⟩
    replace HBW := Aside0.mk (below_step HBW.out hb_)
    refine ⟨_, rfl, ?_⟩
    refine hK.out _ _ ⟨(hb_.cell (World.block_lt_of_cell? _ _ (hHeld.1))).trans (hHeld.1), (hb_.cell (World.block_lt_of_cell? _ _ (hHeld.2.1))).trans (hHeld.2.1), (hb_.cell (World.block_lt_of_cell? _ _ (hHeld.2.2.1))).trans (hHeld.2.2.1), (hb_.cell (World.block_lt_of_cell? _ _ (hHeld.2.2.2.1))).trans (hHeld.2.2.2.1), (hb_.cell (World.block_lt_of_cell? _ _ (hHeld.2.2.2.2.1))).trans (hHeld.2.2.2.2.1), (hb_.cell (World.block_lt_of_cell? _ _ (hHeld.2.2.2.2.2.1))).trans (hHeld.2.2.2.2.2.1), (hb_.cell (World.block_lt_of_cell? _ _ (hHeld.2.2.2.2.2.2))).trans (hHeld.2.2.2.2.2.2)⟩ (fun hHeld => ?_)
    clear hK K
    refine norm_ (a' := ?_) ?_ ?_; rotate_left; (show Act.put _ (some 28) _ = _; simp only [Act.put, put_x, i64_w, i32_w]; rfl)
    refine one_ (i := 9) (N := some 29) (bz 23 1023) rfl rfl (by kernel_rfl) (by decide) (fun K hK => ?_)
    refine goes_ Try.func64 (by kernel_rfl) rfl #[.agg #[.int .i64 x.light, .int .i64 x.under, .int .i64 x.trim, .slice x.A3 x.holds.length x.c3, .int .i64 x.leaves, .slice x.A5 x.sills.length x.c5, .slice x.A6 x.lots.length x.c6], .agg #[.int .i64 a1, .int .i64 a2]] (by rfl) rfl rfl (by (try simp only [List.map_toArray, List.map_cons, List.map_nil]); first | done | rfl) ?_
    with_reducible refine (ship_level.calls k3 x.light x.under x.trim x.A3 x.c3 x.holds x.leaves x.A5 x.c5 x.sills x.A6 x.c6 x.lots a1 a2 _ _ (HXW.out.below HBW.out).h (HXW.out.below HBW.out).hc (HXW.out.below HBW.out).s (HXW.out.below HBW.out).sc (HXW.out.below HBW.out).l (HXW.out.below HBW.out).lc HK3.out).mono ?_
    rintro e wc ⟨rfl, hb_⟩
    replace HBW := Aside0.mk (below_step HBW.out hb_)
    refine ⟨_, rfl, ?_⟩
    refine hK.out _ _ ⟨(hb_.cell (World.block_lt_of_cell? _ _ (hHeld.1))).trans (hHeld.1), (hb_.cell (World.block_lt_of_cell? _ _ (hHeld.2.1))).trans (hHeld.2.1), (hb_.cell (World.block_lt_of_cell? _ _ (hHeld.2.2.1))).trans (hHeld.2.2.1), (hb_.cell (World.block_lt_of_cell? _ _ (hHeld.2.2.2.1))).trans (hHeld.2.2.2.1), (hb_.cell (World.block_lt_of_cell? _ _ (hHeld.2.2.2.2.1))).trans (hHeld.2.2.2.2.1), (hb_.cell (World.block_lt_of_cell? _ _ (hHeld.2.2.2.2.2.1))).trans (hHeld.2.2.2.2.2.1), (hb_.cell (World.block_lt_of_cell? _ _ (hHeld.2.2.2.2.2.2))).trans (hHeld.2.2.2.2.2.2)⟩ (fun hHeld => ?_)
    clear hK K
    refine norm_ (a' := ?_) ?_ ?_; rotate_left; (show Act.put _ (some 29) _ = _; simp only [Act.put, put_x, i64_w, i32_w]; rfl)
    refine pure_y 10 (some 30) (bz 23 2047) ?_
    refine pure_y 11 (some 31) (bz 23 4095) ?_
    refine pure_y 12 (some 32) (bz 23 8191) ?_
    refine pure_y 14 (some 34) (bz 23 24575) ?_
    refine pure_y 18 (some 38) (bz 23 286719) ?_
    refine take_ (i := 13) (N := some 33) (v := ?_) (a' := ?_) (bz 23 294911) rfl rfl (by kernel_rfl) (fun _ _ _ h => h) (Or.inl ⟨by rfl, ?_⟩) hHeld ?_ ?_
    rotate_left; (rintro w' ⟨s0, s1, s2, s3, s4, s5, s6⟩; go_simp; with_reducible rfl); rotate_left; (simp only [Act.put, put_x, i64_w, i32_w]; rfl)
    refine take_ (i := 19) (N := some 39) (v := ?_) (a' := ?_) (bz 23 819199) rfl rfl (by kernel_rfl) (fun _ _ _ h => h) (Or.inl ⟨by rfl, ?_⟩) hHeld ?_ ?_
    rotate_left; (rintro w' ⟨s0, s1, s2, s3, s4, s5, s6⟩; go_simp; with_reducible rfl); rotate_left; (simp only [Act.put, put_x, i64_w, i32_w]; rfl)
    refine pure_y 20 (some 40) (bz 23 1867775) ?_
    refine one_ (i := 15) (N := some 35) (bz 23 1900543) rfl rfl (by kernel_rfl) (by decide) (fun K hK => ?_)
    refine goes_ Try.func55 (by kernel_rfl) rfl #[.agg #[.int .i64 x.light, .int .i64 x.under, .int .i64 x.trim, .slice x.A3 x.holds.length x.c3, .int .i64 x.leaves, .slice x.A5 x.sills.length x.c5, .slice x.A6 x.lots.length x.c6], .slice Av t.length cv] (by rfl) rfl rfl (by (try simp only [List.map_toArray, List.map_cons, List.map_nil]); first | done | rfl) ?_
    with_reducible refine (laden_calls x Av cv t Q _ (HXW.out.below HBW.out) (Kd.C_below HCT.out HBW.out) HCL.out (by have := HTL.out; omega) HQ.out).mono ?_
    rintro e we ⟨rfl, hb_⟩
    replace HBW := Aside0.mk (below_step HBW.out hb_)
    refine ⟨_, rfl, ?_⟩
    refine hK.out _ _ ⟨(hb_.cell (World.block_lt_of_cell? _ _ (hHeld.1))).trans (hHeld.1), (hb_.cell (World.block_lt_of_cell? _ _ (hHeld.2.1))).trans (hHeld.2.1), (hb_.cell (World.block_lt_of_cell? _ _ (hHeld.2.2.1))).trans (hHeld.2.2.1), (hb_.cell (World.block_lt_of_cell? _ _ (hHeld.2.2.2.1))).trans (hHeld.2.2.2.1), (hb_.cell (World.block_lt_of_cell? _ _ (hHeld.2.2.2.2.1))).trans (hHeld.2.2.2.2.1), (hb_.cell (World.block_lt_of_cell? _ _ (hHeld.2.2.2.2.2.1))).trans (hHeld.2.2.2.2.2.1), (hb_.cell (World.block_lt_of_cell? _ _ (hHeld.2.2.2.2.2.2))).trans (hHeld.2.2.2.2.2.2)⟩ (fun hHeld => ?_)
    clear hK K
    refine norm_ (a' := ?_) ?_ ?_; rotate_left; (show Act.put _ (some 35) _ = _; simp only [Act.put, put_x, i64_w, i32_w]; rfl)
    refine one_ (i := 16) (N := some 36) (bz 23 1966079) rfl rfl (by kernel_rfl) (by decide) (fun K hK => ?_)
    refine goes_ Try.func56 (by kernel_rfl) rfl #[.agg #[.int .i64 x.light, .int .i64 x.under, .int .i64 x.trim, .slice x.A3 x.holds.length x.c3, .int .i64 x.leaves, .slice x.A5 x.sills.length x.c5, .slice x.A6 x.lots.length x.c6, .int .i64 Q.b0, .int .i64 Q.b1, .int .i64 Q.h0, .int .i64 Q.h1], .bool false] (by rfl) rfl rfl (by (try simp only [List.map_toArray, List.map_cons, List.map_nil]); first | done | rfl) ?_
    with_reducible refine (sail_calls x Q false _ (HXW.out.below HBW.out) HLN.out).mono ?_
    rintro e wf ⟨v3, rfl, hr3, hb_⟩
    rw [← HSO.out] at hr3
    obtain ⟨A3, c3, rfl⟩ := Kd.R_slice hr3
    clear hr3
    replace HBW := Aside0.mk (below_step HBW.out hb_)
    refine ⟨_, rfl, ?_⟩
    refine hK.out _ _ ⟨(hb_.cell (World.block_lt_of_cell? _ _ (hHeld.1))).trans (hHeld.1), (hb_.cell (World.block_lt_of_cell? _ _ (hHeld.2.1))).trans (hHeld.2.1), (hb_.cell (World.block_lt_of_cell? _ _ (hHeld.2.2.1))).trans (hHeld.2.2.1), (hb_.cell (World.block_lt_of_cell? _ _ (hHeld.2.2.2.1))).trans (hHeld.2.2.2.1), (hb_.cell (World.block_lt_of_cell? _ _ (hHeld.2.2.2.2.1))).trans (hHeld.2.2.2.2.1), (hb_.cell (World.block_lt_of_cell? _ _ (hHeld.2.2.2.2.2.1))).trans (hHeld.2.2.2.2.2.1), (hb_.cell (World.block_lt_of_cell? _ _ (hHeld.2.2.2.2.2.2))).trans (hHeld.2.2.2.2.2.2)⟩ (fun hHeld => ?_)
    clear hK K
    refine norm_ (a' := ?_) ?_ ?_; rotate_left; (show Act.put _ (some 36) _ = _; simp only [Act.put, put_x, i64_w, i32_w]; rfl)
    refine pure_y 17 (some 37) (bz 23 2097151) ?_
    refine pure_y 21 (some 41) (bz 23 4194303) ?_
    refine pure_y 22 (some 42) (bz 23 8388607) ?_
    refine done_ (by kernel_rfl) ?_
    gi_wp2
    exact ⟨keeps_of_below HBW.out, kpB_of_below HBW.out, HBI.out.below HBW.out hgf⟩
   have hgt : good t = true := by injection hg4 with hg4; rw [← hg4, decide_eq_false hlt]; rfl
   have hdz : decide ((so.length : Int) < (x.sills.length : Int)) = false := decide_eq_false (by omega)
   have hdn := decide_eq_false hlt
   clear hg4 hlt
   gi_upto_region 7 with (fail)
   refine startR_ (m := 23) (S := fun w' => w'.cell? ⟨gb, 0, none⟩ = some (.int .i64 x.light) ∧ w'.cell? ⟨gb, 1, none⟩ = some (.int .i64 x.under) ∧ w'.cell? ⟨gb, 2, none⟩ = some (.int .i64 x.trim) ∧ w'.cell? ⟨gb, 3, none⟩ = some (.slice x.A3 x.holds.length x.c3) ∧ w'.cell? ⟨gb, 4, none⟩ = some (.int .i64 x.leaves) ∧ w'.cell? ⟨gb, 5, none⟩ = some (.slice x.A5 x.sills.length x.c5) ∧ w'.cell? ⟨gb, 6, none⟩ = some (.slice x.A6 x.lots.length x.c6)) (ds := []) (bz 23 0) (by kernel_rfl) (fun ⟨_, _, h_⟩ => h_) (by kernel_rfl) rfl rfl ⟨hk0_, hk1_, hk2_, hk3_, hk4_, hk5_, hk6_⟩ (fun hHeld => ?_)
   generalize W.drew = wd at HBW hHeld ⊢
   refine pure_y 1 (some 21) (bz 23 2) ?_
   refine take_ (i := 0) (N := some 20) (v := ?_) (a' := ?_) (bz 23 3) rfl rfl (by kernel_rfl) (fun _ _ _ h => h) (Or.inl ⟨by rfl, ?_⟩) hHeld ?_ ?_
   rotate_left; (rintro w' ⟨s0, s1, s2, s3, s4, s5, s6⟩; go_simp; with_reducible rfl); rotate_left; (simp only [Act.put, put_x, i64_w, i32_w]; rfl)
   refine one_ (i := 2) (N := some 22) (bz 23 7) rfl rfl (by kernel_rfl) (by decide) (fun K hK => ?_)
   refine goes_ Try.func63 (by kernel_rfl) rfl #[.agg #[.int .i64 x.light, .int .i64 x.under, .int .i64 x.trim, .slice x.A3 x.holds.length x.c3, .int .i64 x.leaves, .slice x.A5 x.sills.length x.c5, .slice x.A6 x.lots.length x.c6], .slice Av t.length cv] (by rfl) rfl rfl (by (try simp only [List.map_toArray, List.map_cons, List.map_nil]); first | done | rfl) ?_
   with_reducible refine (ship_checkStowage.calls k1 x.light x.under x.trim x.A3 x.c3 x.holds x.leaves x.A5 x.c5 x.sills x.A6 x.c6 x.lots Av cv t _ _ (HXW.out.below HBW.out).h (HXW.out.below HBW.out).hc (HXW.out.below HBW.out).s (HXW.out.below HBW.out).sc (HXW.out.below HBW.out).l (HXW.out.below HBW.out).lc (Kd.C_below HCT.out HBW.out) HCL.out HK1.out).mono ?_
   rintro e wa ⟨rfl, hb_⟩
   replace HBW := Aside0.mk (below_step HBW.out hb_)
   refine ⟨_, rfl, ?_⟩
   refine hK.out _ _ ⟨(hb_.cell (World.block_lt_of_cell? _ _ (hHeld.1))).trans (hHeld.1), (hb_.cell (World.block_lt_of_cell? _ _ (hHeld.2.1))).trans (hHeld.2.1), (hb_.cell (World.block_lt_of_cell? _ _ (hHeld.2.2.1))).trans (hHeld.2.2.1), (hb_.cell (World.block_lt_of_cell? _ _ (hHeld.2.2.2.1))).trans (hHeld.2.2.2.1), (hb_.cell (World.block_lt_of_cell? _ _ (hHeld.2.2.2.2.1))).trans (hHeld.2.2.2.2.1), (hb_.cell (World.block_lt_of_cell? _ _ (hHeld.2.2.2.2.2.1))).trans (hHeld.2.2.2.2.2.1), (hb_.cell (World.block_lt_of_cell? _ _ (hHeld.2.2.2.2.2.2))).trans (hHeld.2.2.2.2.2.2)⟩ (fun hHeld => ?_)
   clear hK K
   refine norm_ (a' := ?_) ?_ ?_; rotate_left; (show Act.put _ (some 22) _ = _; simp only [Act.put, put_x, i64_w, i32_w]; rfl)
   refine pure_y 3 (some 23) (bz 23 15) ?_
   refine pure_y 4 (some 24) (bz 23 31) ?_
   refine pure_y 7 (some 27) (bz 23 159) ?_
   refine take_ (i := 5) (N := some 25) (v := ?_) (a' := ?_) (bz 23 191) rfl rfl (by kernel_rfl) (fun _ _ _ h => h) (Or.inl ⟨by rfl, ?_⟩) hHeld ?_ ?_
   rotate_left; (rintro w' ⟨s0, s1, s2, s3, s4, s5, s6⟩; go_simp; with_reducible rfl); rotate_left; (simp only [Act.put, put_x, i64_w, i32_w]; rfl)
   refine take_ (i := 6) (N := some 26) (v := ?_) (a' := ?_) (bz 23 255) rfl rfl (by kernel_rfl) (fun _ _ _ h => h) (Or.inl ⟨by rfl, ?_⟩) hHeld ?_ ?_
   rotate_left; (rintro w' ⟨s0, s1, s2, s3, s4, s5, s6⟩; go_simp; with_reducible rfl); rotate_left; (simp only [Act.put, put_x, i64_w, i32_w]; rfl)
   refine one_ (i := 8) (N := some 28) (bz 23 511) rfl rfl (by kernel_rfl) (by decide) (fun K hK => ?_)
   refine goes_ Try.func65 (by kernel_rfl) rfl #[.agg #[.int .i64 x.light, .int .i64 x.under, .int .i64 x.trim, .slice x.A3 x.holds.length x.c3, .int .i64 x.leaves, .slice x.A5 x.sills.length x.c5, .slice x.A6 x.lots.length x.c6], .slice Av t.length cv] (by rfl) rfl rfl (by (try simp only [List.map_toArray, List.map_cons, List.map_nil]); first | done | rfl) ?_
   with_reducible refine (ship_apart.calls k2 x.light x.under x.trim x.A3 x.c3 x.holds x.leaves x.A5 x.c5 x.sills x.A6 x.c6 x.lots Av cv t a1 a2 _ (HXW.out.below HBW.out).h (HXW.out.below HBW.out).hc (HXW.out.below HBW.out).s (HXW.out.below HBW.out).sc (HXW.out.below HBW.out).l (HXW.out.below HBW.out).lc (Kd.C_below HCT.out HBW.out) HCL.out HK2.out).mono ?_
   rintro e wb ⟨rfl, hb_⟩
   replace HBW := Aside0.mk (below_step HBW.out hb_)
   refine ⟨_, rfl, ?_⟩
   refine hK.out _ _ ⟨(hb_.cell (World.block_lt_of_cell? _ _ (hHeld.1))).trans (hHeld.1), (hb_.cell (World.block_lt_of_cell? _ _ (hHeld.2.1))).trans (hHeld.2.1), (hb_.cell (World.block_lt_of_cell? _ _ (hHeld.2.2.1))).trans (hHeld.2.2.1), (hb_.cell (World.block_lt_of_cell? _ _ (hHeld.2.2.2.1))).trans (hHeld.2.2.2.1), (hb_.cell (World.block_lt_of_cell? _ _ (hHeld.2.2.2.2.1))).trans (hHeld.2.2.2.2.1), (hb_.cell (World.block_lt_of_cell? _ _ (hHeld.2.2.2.2.2.1))).trans (hHeld.2.2.2.2.2.1), (hb_.cell (World.block_lt_of_cell? _ _ (hHeld.2.2.2.2.2.2))).trans (hHeld.2.2.2.2.2.2)⟩ (fun hHeld => ?_)
   clear hK K
   refine norm_ (a' := ?_) ?_ ?_; rotate_left; (show Act.put _ (some 28) _ = _; simp only [Act.put, put_x, i64_w, i32_w]; rfl)
   refine one_ (i := 9) (N := some 29) (bz 23 1023) rfl rfl (by kernel_rfl) (by decide) (fun K hK => ?_)
   refine goes_ Try.func64 (by kernel_rfl) rfl #[.agg #[.int .i64 x.light, .int .i64 x.under, .int .i64 x.trim, .slice x.A3 x.holds.length x.c3, .int .i64 x.leaves, .slice x.A5 x.sills.length x.c5, .slice x.A6 x.lots.length x.c6], .agg #[.int .i64 a1, .int .i64 a2]] (by rfl) rfl rfl (by (try simp only [List.map_toArray, List.map_cons, List.map_nil]); first | done | rfl) ?_
   with_reducible refine (ship_level.calls k3 x.light x.under x.trim x.A3 x.c3 x.holds x.leaves x.A5 x.c5 x.sills x.A6 x.c6 x.lots a1 a2 _ _ (HXW.out.below HBW.out).h (HXW.out.below HBW.out).hc (HXW.out.below HBW.out).s (HXW.out.below HBW.out).sc (HXW.out.below HBW.out).l (HXW.out.below HBW.out).lc HK3.out).mono ?_
   rintro e wc ⟨rfl, hb_⟩
   replace HBW := Aside0.mk (below_step HBW.out hb_)
   refine ⟨_, rfl, ?_⟩
   refine hK.out _ _ ⟨(hb_.cell (World.block_lt_of_cell? _ _ (hHeld.1))).trans (hHeld.1), (hb_.cell (World.block_lt_of_cell? _ _ (hHeld.2.1))).trans (hHeld.2.1), (hb_.cell (World.block_lt_of_cell? _ _ (hHeld.2.2.1))).trans (hHeld.2.2.1), (hb_.cell (World.block_lt_of_cell? _ _ (hHeld.2.2.2.1))).trans (hHeld.2.2.2.1), (hb_.cell (World.block_lt_of_cell? _ _ (hHeld.2.2.2.2.1))).trans (hHeld.2.2.2.2.1), (hb_.cell (World.block_lt_of_cell? _ _ (hHeld.2.2.2.2.2.1))).trans (hHeld.2.2.2.2.2.1), (hb_.cell (World.block_lt_of_cell? _ _ (hHeld.2.2.2.2.2.2))).trans (hHeld.2.2.2.2.2.2)⟩ (fun hHeld => ?_)
   clear hK K
   refine norm_ (a' := ?_) ?_ ?_; rotate_left; (show Act.put _ (some 29) _ = _; simp only [Act.put, put_x, i64_w, i32_w]; rfl)
   refine pure_y 10 (some 30) (bz 23 2047) ?_
   refine pure_y 11 (some 31) (bz 23 4095) ?_
   refine pure_y 12 (some 32) (bz 23 8191) ?_
   refine pure_y 14 (some 34) (bz 23 24575) ?_
   refine pure_y 18 (some 38) (bz 23 286719) ?_
   refine take_ (i := 13) (N := some 33) (v := ?_) (a' := ?_) (bz 23 294911) rfl rfl (by kernel_rfl) (fun _ _ _ h => h) (Or.inl ⟨by rfl, ?_⟩) hHeld ?_ ?_
   rotate_left; (rintro w' ⟨s0, s1, s2, s3, s4, s5, s6⟩; go_simp; with_reducible rfl); rotate_left; (simp only [Act.put, put_x, i64_w, i32_w]; rfl)
   refine take_ (i := 19) (N := some 39) (v := ?_) (a' := ?_) (bz 23 819199) rfl rfl (by kernel_rfl) (fun _ _ _ h => h) (Or.inl ⟨by rfl, ?_⟩) hHeld ?_ ?_
   rotate_left; (rintro w' ⟨s0, s1, s2, s3, s4, s5, s6⟩; go_simp; with_reducible rfl); rotate_left; (simp only [Act.put, put_x, i64_w, i32_w]; rfl)
   refine pure_y 20 (some 40) (bz 23 1867775) ?_
   refine one_ (i := 15) (N := some 35) (bz 23 1900543) rfl rfl (by kernel_rfl) (by decide) (fun K hK => ?_)
   refine goes_ Try.func55 (by kernel_rfl) rfl #[.agg #[.int .i64 x.light, .int .i64 x.under, .int .i64 x.trim, .slice x.A3 x.holds.length x.c3, .int .i64 x.leaves, .slice x.A5 x.sills.length x.c5, .slice x.A6 x.lots.length x.c6], .slice Av t.length cv] (by rfl) rfl rfl (by (try simp only [List.map_toArray, List.map_cons, List.map_nil]); first | done | rfl) ?_
   with_reducible refine (laden_calls x Av cv t Q _ (HXW.out.below HBW.out) (Kd.C_below HCT.out HBW.out) HCL.out (by have := HTL.out; omega) HQ.out).mono ?_
   rintro e we ⟨rfl, hb_⟩
   replace HBW := Aside0.mk (below_step HBW.out hb_)
   refine ⟨_, rfl, ?_⟩
   refine hK.out _ _ ⟨(hb_.cell (World.block_lt_of_cell? _ _ (hHeld.1))).trans (hHeld.1), (hb_.cell (World.block_lt_of_cell? _ _ (hHeld.2.1))).trans (hHeld.2.1), (hb_.cell (World.block_lt_of_cell? _ _ (hHeld.2.2.1))).trans (hHeld.2.2.1), (hb_.cell (World.block_lt_of_cell? _ _ (hHeld.2.2.2.1))).trans (hHeld.2.2.2.1), (hb_.cell (World.block_lt_of_cell? _ _ (hHeld.2.2.2.2.1))).trans (hHeld.2.2.2.2.1), (hb_.cell (World.block_lt_of_cell? _ _ (hHeld.2.2.2.2.2.1))).trans (hHeld.2.2.2.2.2.1), (hb_.cell (World.block_lt_of_cell? _ _ (hHeld.2.2.2.2.2.2))).trans (hHeld.2.2.2.2.2.2)⟩ (fun hHeld => ?_)
   clear hK K
   refine norm_ (a' := ?_) ?_ ?_; rotate_left; (show Act.put _ (some 35) _ = _; simp only [Act.put, put_x, i64_w, i32_w]; rfl)
   refine one_ (i := 16) (N := some 36) (bz 23 1966079) rfl rfl (by kernel_rfl) (by decide) (fun K hK => ?_)
   refine goes_ Try.func56 (by kernel_rfl) rfl #[.agg #[.int .i64 x.light, .int .i64 x.under, .int .i64 x.trim, .slice x.A3 x.holds.length x.c3, .int .i64 x.leaves, .slice x.A5 x.sills.length x.c5, .slice x.A6 x.lots.length x.c6, .int .i64 Q.b0, .int .i64 Q.b1, .int .i64 Q.h0, .int .i64 Q.h1], .bool false] (by rfl) rfl rfl (by (try simp only [List.map_toArray, List.map_cons, List.map_nil]); first | done | rfl) ?_
   with_reducible refine (sail_calls x Q false _ (HXW.out.below HBW.out) HLN.out).mono ?_
   rintro e wf ⟨v3, rfl, hr3, hb_⟩
   rw [← HSO.out] at hr3
   obtain ⟨A3, c3, rfl⟩ := Kd.R_slice hr3
   clear hr3
   replace HBW := Aside0.mk (below_step HBW.out hb_)
   refine ⟨_, rfl, ?_⟩
   refine hK.out _ _ ⟨(hb_.cell (World.block_lt_of_cell? _ _ (hHeld.1))).trans (hHeld.1), (hb_.cell (World.block_lt_of_cell? _ _ (hHeld.2.1))).trans (hHeld.2.1), (hb_.cell (World.block_lt_of_cell? _ _ (hHeld.2.2.1))).trans (hHeld.2.2.1), (hb_.cell (World.block_lt_of_cell? _ _ (hHeld.2.2.2.1))).trans (hHeld.2.2.2.1), (hb_.cell (World.block_lt_of_cell? _ _ (hHeld.2.2.2.2.1))).trans (hHeld.2.2.2.2.1), (hb_.cell (World.block_lt_of_cell? _ _ (hHeld.2.2.2.2.2.1))).trans (hHeld.2.2.2.2.2.1), (hb_.cell (World.block_lt_of_cell? _ _ (hHeld.2.2.2.2.2.2))).trans (hHeld.2.2.2.2.2.2)⟩ (fun hHeld => ?_)
   clear hK K
   refine norm_ (a' := ?_) ?_ ?_; rotate_left; (show Act.put _ (some 36) _ = _; simp only [Act.put, put_x, i64_w, i32_w]; rfl)
   refine pure_y 17 (some 37) (bz 23 2097151) ?_
   refine pure_y 21 (some 41) (bz 23 4194303) ?_
   refine pure_y 22 (some 42) (bz 23 8388607) ?_
   refine done_ (by kernel_rfl) ?_
   have HGT := Aside0.mk hgt
   clear hgt hdz hdn hHeld
   have ha0_ : (wf.alloc (.cells #[.slice none 0 0, .int .i64 0] 104 (0, 0))).cell? ⟨wf.heap.size, 0, none⟩ = some (.slice none 0 0) := (blk_cell (blk_new wf (.cells #[.slice none 0 0, .int .i64 0] 104 (0, 0))) 0).trans rfl
   have ha1_ : (wf.alloc (.cells #[.slice none 0 0, .int .i64 0] 104 (0, 0))).cell? ⟨wf.heap.size, 1, none⟩ = some (.int .i64 0) := (blk_cell (blk_new wf (.cells #[.slice none 0 0, .int .i64 0] 104 (0, 0))) 1).trans rfl
   have haf_ := blk_frozen (blk_new wf (.cells #[.slice none 0 0, .int .i64 0] 104 (0, 0)))
   gi_upto_region 9 with (fail)
   clear ha0_ ha1_ haf_ hk0_ hk1_ hk2_ hk3_ hk4_ hk5_ hk6_
   obtain ⟨g8, hg8_⟩ : ∃ g, g = wf.heap.size := ⟨_, rfl⟩
   gi_wp2
   have B8 := Aside0.mk (blk_new wf (.cells #[.slice Av t.length cv, .int .i64 0] 104 (0, 0)))
   have HW8 : Aside0 (Below W.heap.size W (wf.alloc (.cells #[.slice Av t.length cv, .int .i64 0] 104 (0, 0)))) := ⟨below_alloc HBW.out _⟩
   have GE8 : Aside0 (W.heap.size ≤ g8) := ⟨by rw [hg8_]; exact HBW.out.size⟩
   generalize hw8_ : wf.alloc (.cells #[.slice Av t.length cv, .int .i64 0] 104 (0, 0)) = w8 at *
   clear hw8_ HBW
   rw [← hg8_] at B8 ⊢
   clear hg8_
   have htl6 : t.length ≤ 6 := by have := HTL.out; omega
   gi_loopg [47] t.length (fun gk v47 wr => ∃ (k : Nat) (acc : Int), k ≤ t.length ∧ t.length - k ≤ gk ∧ v47 = .int .i64 k ∧ Aside0 (worthGo x.lots k (t.drop k) acc = worthGo x.lots 0 t 0) ∧ Aside0 (wr.heap[g8]? = some (.cells #[.slice Av t.length cv, .int .i64 acc] 104 (0, 0))) ∧ Aside0 (Below W.heap.size W wr))
   case atStart => exact ⟨0, 0, by omega, by omega, rfl, ⟨rfl⟩, B8, HW8⟩
   case round =>
    clear B8 HW8
    obtain ⟨k, acc, hk, hgk, rfl, HWO, B8, HBW⟩ := hrel
    by_cases hlt : k < t.length
    ·
     have hlz : (k : Int) < (t.length : Int) := by omega
     have hdr := drop_rd t k hlt
     rw [hdr] at HWO
     clear hdr
     obtain ⟨ad, e, hx0⟩ := Kd.at_int HCT.out (k : Int) (by omega) hlz
     cases e
     rw [Int.toNat_natCast] at hx0
     replace hx0 := (HBW.out.cell (World.block_lt_of_cell? W _ hx0)).trans hx0
     generalize rd t (k : Int) = a at *
     by_cases ha : 0 ≤ a
     ·
      have HW2 := Aside0.mk (show worthGo x.lots (k + 1) (t.drop (k + 1)) (wrap64 (acc + (x.lots.getD k z79).f1)) = worthGo x.lots 0 t 0 by have := HWO.out; simp only [worthGo] at this; rwa [if_pos ha] at this)
      have hkl : k < x.lots.length := by have := HTL.out; omega
      obtain ⟨adl, e6, _, _, ht2⟩ := at_T79 HXW.out.l (k : Int) (by omega) (by omega)
      rw [Int.toNat_natCast] at ht2
      replace ht2 := (HBW.out.cell (World.block_lt_of_cell? W _ ht2)).trans ht2
      rw [show rd_T79 x.lots (k : Int) = x.lots.getD k z79 by simp [rd_T79]] at ht2
      generalize (x.lots.getD k z79).f1 = wo at *
      have hz6_ : wr.cell? ⟨gb, 6, none⟩ = some (.slice (some adl) x.lots.length x.c6) := by rw [← e6]; exact (HBW.out.cell (World.block_lt_of_cell? W _ ((blk_cell HBK.out 6).trans rfl))).trans ((blk_cell HBK.out 6).trans rfl)
      have hy1_ : wr.cell? ⟨g8, 1, none⟩ = some (.int .i64 acc) := (blk_cell B8.out 1).trans rfl
      have hkz : (k : Int) < (x.lots.length : Int) := by omega
      gi_upto_region 13 with (fail)
      replace B8 := Aside0.mk (blk_drew B8.out)
      replace HBW := Aside0.mk (below_step HBW.out (below_drew1 (Below.refl wr.heap.size wr)))
      refine startR_ (m := 11) (S := fun w' => w'.cell? ⟨g8, 1, none⟩ = some (.int .i64 acc) ∧ w'.cell? ⟨gb, 6, none⟩ = some (.slice (some adl) x.lots.length x.c6) ∧ w'.cell? ⟨(adl.add (k * 3)).block, (adl.add (k * 3)).off + 2, none⟩ = some (.int .i64 wo)) (ds := [10]) (bz 11 0) (by kernel_rfl) (fun ⟨_, _, h_⟩ => h_) (by kernel_rfl) rfl rfl ⟨hy1_, hz6_, ht2⟩ (fun hHeld => ?_)
      generalize wr.drew = wd at B8 HBW hHeld ⊢
      refine pure_y 0 (some 54) (bz 11 1) ?_
      refine pure_y 2 (some 56) (bz 11 5) ?_
      refine pure_y 4 (some 58) (bz 11 21) ?_
      refine take_ (i := 1) (N := some 55) (v := ?_) (a' := ?_) (bz 11 23) rfl rfl (by kernel_rfl) (fun _ _ _ h => h) (Or.inl ⟨by rfl, ?_⟩) hHeld ?_ ?_
      rotate_left; (rintro w' ⟨s0, s1, s2⟩; go_simp; with_reducible rfl); rotate_left; (simp only [Act.put, put_x, i64_w, i32_w]; rfl)
      refine take_ (i := 3) (N := some 57) (v := ?_) (a' := ?_) (bz 11 31) rfl rfl (by kernel_rfl) (fun _ _ _ h => h) (Or.inl ⟨by rfl, ?_⟩) hHeld ?_ ?_
      rotate_left; (rintro w' ⟨s0, s1, s2⟩; go_simp; with_reducible rfl); rotate_left; (simp only [Act.put, put_x, i64_w, i32_w]; rfl)
      refine pure_y 5 (some 59) (bz 11 63) ?_
      refine pure_y 6 (some 60) (bz 11 127) ?_
      refine take_ (i := 7) (N := some 61) (v := ?_) (a' := ?_) (bz 11 255) rfl rfl (by kernel_rfl) (fun _ _ _ h => h) (Or.inl ⟨by rfl, ?_⟩) hHeld ?_ ?_
      rotate_left; (rintro w' ⟨s0, s1, s2⟩; go_simp; with_reducible rfl); rotate_left; (simp only [Act.put, put_x, i64_w, i32_w]; rfl)
      refine pure_y 8 (some 62) (bz 11 511) ?_
      refine pure_y 9 (some 63) (bz 11 1023) ?_
      refine last_ (i := 10) (N := none) (bz 11 2047) rfl rfl (by kernel_rfl) (by decide) (fun K hK => ?_)
      have hcl := hHeld.1
      have hfz := blk_frozen B8.out 1
      refine skip_ (w1 := ?_) (by rfl) rfl ?_ ?_; rotate_left; (go_simp; rfl)
      refine hK.out _ _ ?_
      clear hK K
      refine done_ (by kernel_rfl) ?_
      clear hHeld hcl hfz
      have B9 := Aside0.mk (blk_put (cs' := #[.slice (some ad) t.length cv, .int .i64 (wrap64 (acc + wo))]) B8.out 1 (.int .i64 (wrap64 (acc + wo))) rfl)
      have HB9 := Aside0.mk (show Below W.heap.size W (wd.setCell ⟨g8, 1, none⟩ (.int .i64 (wrap64 (acc + wo)))) from below_set HBW.out GE8.out)
      gi_wp2
      gi_roundg (t.length - (k + 1))
      case measure => omega
      case rel => exact ⟨k + 1, wrap64 (acc + wo), by omega, by omega, by go_num, HW2, B9, HB9⟩
     ·
      have HW2 := Aside0.mk (show worthGo x.lots (k + 1) (t.drop (k + 1)) acc = worthGo x.lots 0 t 0 by have := HWO.out; simp only [worthGo] at this; rwa [if_neg ha] at this)
      gi_wp2
      gi_roundg (t.length - (k + 1))
      case measure => omega
      case rel => exact ⟨k + 1, acc, by omega, by omega, by go_num, HW2, B8, HBW⟩
    ·
     have : k = t.length := by omega
     subst this
     have hac : acc = worth t := by have := HWO.out; rw [List.drop_length] at this; rw [HWD.out]; exact this
     obtain ⟨bm, hbm⟩ : ∃ m : Int, m = (bestOf good worth (pre.map (·.2)) ([], -1)).2 := ⟨_, rfl⟩
     have HAC := Aside0.mk hac
     have HBM := Aside0.mk hbm
     have C6 := Aside0.mk (show wr.heap[g6]? = some (.cells #[.slice A n c, .int .i64 bm] 104 (0, 0)) by rw [hbm]; exact blk_below H6.out HBW.out)
     obtain ⟨A1, n1, c1, y1, hu⟩ : ∃ (A1 : Option Addr) (n1 c1 : Nat) (y1 : Int), (if bm < acc then Value.agg #[.slice Av t.length cv, .int .i64 acc] else .agg #[.slice A n c, .int .i64 bm]) = .agg #[.slice A1 n1 c1, .int .i64 y1] := by
      by_cases h : bm < acc
      ·
       exact ⟨_, _, _, _, if_pos h⟩
      ·
       exact ⟨_, _, _, _, if_neg h⟩
     have HU := Aside0.mk hu
     have HCB := Aside0.mk (better_calls A n c bm Av t.length cv acc wr)
     rw [hu] at HCB
     have hd0_ : wr.cell? ⟨g6, 0, none⟩ = some (.slice A n c) := (blk_cell C6.out 0).trans rfl
     have hd1_ : wr.cell? ⟨g6, 1, none⟩ = some (.int .i64 bm) := (blk_cell C6.out 1).trans rfl
     have he0_ : wr.cell? ⟨g8, 0, none⟩ = some (.slice Av t.length cv) := (blk_cell B8.out 0).trans rfl
     have he1_ : wr.cell? ⟨g8, 1, none⟩ = some (.int .i64 acc) := (blk_cell B8.out 1).trans rfl
     clear hac hbm hu hk hgk hlt
     gi_wp2
     refine ⟨trivial, (CallsIn.inRound l (callsIn_wide.2 HCB.out)).mono ?_⟩
     rintro e w9 ⟨rfl, hb9⟩
     clear hd0_ hd1_ he0_ he1_
     have HBZ := Aside0.mk (below_step HBW.out hb9)
     replace C6 := Aside0.mk (blk_below C6.out hb9)
     obtain ⟨A2, n2, c2, y2, hu2, hI⟩ := BestI.weighed (w0 := w) (W := W) (W' := w9) (b := b) H6.out HR6.out ⟨base2, HBN.out.1, HBN.out.2, HRV.out⟩ HBK.out HBB.out GE6.out N6.out HBZ.out HGT.out (.slice Av t.length cv) (.agg #[.slice A1 n1 c1, .int .i64 y1]) (by rw [← HBM.out, ← HAC.out]; exact HU.out.symm)
     cases hu2
     have HI := Aside0.mk hI
     have hd0_ : w9.cell? ⟨g6, 0, none⟩ = some (.slice A n c) := (blk_cell C6.out 0).trans rfl
     have hd1_ : w9.cell? ⟨g6, 1, none⟩ = some (.int .i64 bm) := (blk_cell C6.out 1).trans rfl
     have hdf_ := blk_frozen C6.out
     clear hI hb9
     gi_wp2
     exact ⟨HI.out.2.1, HI.out.2.2, HI.out.1⟩
 case done =>
  rintro D b xs W hD hb hxs ⟨A, n, c, h6, ⟨base, hb1, hb2, hR⟩, hbk, hB⟩ hK
  rw [hxs] at h6 hR
  have hh := HH.out
  rw [hh.1] at hR
  rw [hh.2.1] at h6
  obtain ⟨_, _, rfl⟩ := hh
  have D6 := Aside0.mk h6
  have DR := Aside0.mk hR
  have DB := Aside0.mk hB
  have DK := Aside0.mk hK
  have DD := Aside0.mk hD
  have hc0_ : W.cell? ⟨g6, 0, none⟩ = some (.slice A n c) := (blk_cell D6.out 0).trans rfl
  have hc1_ : W.cell? ⟨g6, 1, none⟩ = some (.int .i64 r2) := (blk_cell D6.out 1).trans rfl
  have HBS := Aside0.mk hb1
  clear h6 hR hB hK hD hbk hxs hb hb1 hb2
  go_upto_region 16 with (fail)
  go_quiet (fail)
  have DW : Aside0 (Below w.heap.size w ((W.drewN nq).putObj D (.deferred none))) := ⟨(DB.out.trans (pw_below_drewN (Below.refl _ _) nq)).trans (belowK_b (w := w) (Nat.le_refl _) _ D _ _ (by have := DD.out; have := CB.out.size; omega) (((pw_below_drewN (Below.refl W.heap.size W) nq).block D (Array.getElem?_eq_some_iff.1 DK.out).1).trans DK.out) rfl rfl)⟩
  have hKq : (W.drewN nq).heap[D]? = some (.deferred (some [])) := ((pw_below_drewN (Below.refl W.heap.size W) nq).block D (Array.getElem?_eq_some_iff.1 DK.out).1).trans DK.out
  have DRq := Aside0.mk (Kd.R_lower (R_kept (W1 := (W.drewN nq).putObj D (.deferred none)) DR.out fun k _ hc => by
   obtain ⟨cells, t, hk, _⟩ := hc
   have hkD : k ≠ D := fun e => by subst e; rw [DK.out] at hk; cases hk
   exact (World.putObj_heap_other hkD).trans ((pw_below_drewN (Below.refl W.heap.size W) nq).block k (Array.getElem?_eq_some_iff.1 hk).1)) HBS.out)
  go_wp2
  refine ⟨by simp, .inl ⟨_, _, rfl, run_takeDeferred hKq, ?_⟩⟩
  exact ⟨.tuple #[.slice A n c, .int .i64 r2, .int .i64 0], by simp [results, Try.results28, go_sem], _, rfl, DRq.out, DW.out⟩
theorem ship_Best.calls (a0_0 : Int) (a0_1 : Int) (a0_2 : Int) (A0_3 : Option Addr) (c0_3 : Nat) (l0_3 : List (S85)) (a0_4 : Int) (A0_5 : Option Addr) (c0_5 : Nat) (l0_5 : List (S59)) (A0_6 : Option Addr) (c0_6 : Nat) (l0_6 : List (S79)) (r1 : List Int) (r2 : Int) (r3 : Int) (w : World) (hr0_3 : Kd.C k85 w A0_3 l0_3.length l0_3) (hc0_3 : l0_3.length ≤ c0_3) (hr0_5 : Kd.C k59 w A0_5 l0_5.length l0_5) (hc0_5 : l0_5.length ≤ c0_5) (hr0_6 : Kd.C k79 w A0_6 l0_6.length l0_6) (hc0_6 : l0_6.length ≤ c0_6) (h : ship_Best.f a0_0 a0_1 a0_2 l0_3 a0_4 l0_5 l0_6 = some (r1, r2, r3)) :
  Calls Try.prog 28 #[.agg #[.int .i64 a0_0, .int .i64 a0_1, .int .i64 a0_2, .slice A0_3 l0_3.length c0_3, .int .i64 a0_4, .slice A0_5 l0_5.length c0_5, .slice A0_6 l0_6.length c0_6]] w fun e w' => ∃ v0_ : Value, e = .returned (.tuple #[v0_, .int .i64 r2, .int .i64 r3]) ∧ Kd.R (Kd.int .i64) 3 w' w.heap.size (fun _ => True) v0_ r1 ∧ Below w.heap.size w w' := best_calls ⟨a0_0, a0_1, a0_2, A0_3, c0_3, l0_3, a0_4, A0_5, c0_5, l0_5, A0_6, c0_6, l0_6⟩ r1 r2 r3 w ⟨hr0_3, hc0_3, hr0_5, hc0_5, hr0_6, hc0_6⟩ h
end Go.Proofs.Ytodmemndaaiolaa.PC7
namespace Go.Proofs.Ytodmemndaaiolaa.PC7
open Go.RowKit Go.Proofs.YtodmemndaaiolaaW.PrintWords Go.Proofs.YtodmemndaaiolaaW.PrintLast Go.Proofs.YtodmemndaaiolaaW.PrintMore
attribute [local go_sem] max2_int min2_int max_two min_two max_three min_three max_four min_four
set_option linter.unusedVariables false
set_option linter.unusedSimpArgs false
theorem eqA56 (d : Nat) (w : World) (x0 y0 : Int) (x1 y1 : Int) :
    (Op.equalIn (d + 2) 56 (.agg #[.int .i64 x0, .int .i64 x1]) (.agg #[.int .i64 y0, .int .i64 y1])).run Try.prog w = .ok (x0 == y0 && (x1 == y1)) w := by
  refine eqA_of Try.underlying56 (by kernel_rfl) ?_
  refine eqf_cons (by rfl) (by go_simp; rfl) (by go_simp; rfl) (by go_simp) ?_
  exact eqf_last (by rfl) (by go_simp; rfl) (by go_simp; rfl) (by go_simp)
attribute [local go_sem high] eqA56
def swarfkit_EqualRanges.l0 : Nat → List (S56) → List (S56) → Bool → Int → Option (Bool)
 | 0, _, _, _, _ => none
 | k + 1, x0, x1, x5, x6 => if x5 = true then (if x6 < (x0.length : Int) then (if 0 ≤ x6 then (if x6 < (x1.length : Int) then (swarfkit_EqualRanges.l0 k x0 x1 (((rd_T56 x0 x6).f0) == ((rd_T56 x1 x6).f0) && (((rd_T56 x0 x6).f1) == ((rd_T56 x1 x6).f1))) (wrap64 (x6 + 1))) else (none)) else (none)) else (some x5)) else (some x5)
def swarfkit_EqualRanges.f (k : Nat) (l0 : List (S56)) (l1 : List (S56)) : Option (Bool) := swarfkit_EqualRanges.l0 k l0 l1 ((l0.length : Int) == (l1.length : Int)) 0
theorem swarfkit_EqualRanges.mono_l : ∀ k, (∀ y0 y1 y2 y3, LeO (swarfkit_EqualRanges.l0 k y0 y1 y2 y3) (swarfkit_EqualRanges.l0 (k + 1) y0 y1 y2 y3))
 | 0 => fun _ _ _ _ r h => by simp [swarfkit_EqualRanges.l0] at h
 | k + 1 => by
  have ih0 := swarfkit_EqualRanges.mono_l k
  ·
   intro y0 y1 y2 y3
   unfold swarfkit_EqualRanges.l0
   repeat' first
   | (with_reducible exact ih0 _ _ _ _)
   | (with_reducible exact LeO.refl _)
   | (with_reducible exact LeO.none _)
   | (with_reducible refine LeO.ite ?_ ?_)
   | (with_reducible refine LeO.bind ?_ (fun _ => ?_))
   | exact ih0 _ _ _ _
   | exact LeO.none _
   | refine LeO.ite ?_ ?_
   | refine LeO.bind ?_ (fun _ => ?_)
theorem swarfkit_EqualRanges.mono : ∀ a0 a1 k, LeO (swarfkit_EqualRanges.f k a0 a1) (swarfkit_EqualRanges.f (k + 1) a0 a1) := by
 intro a0 a1 k
 have ih0 := swarfkit_EqualRanges.mono_l k
 unfold swarfkit_EqualRanges.f
 repeat' first
   | (with_reducible exact ih0 _ _ _ _)
   | (with_reducible exact LeO.refl _)
   | (with_reducible exact LeO.none _)
   | (with_reducible refine LeO.ite ?_ ?_)
   | (with_reducible refine LeO.bind ?_ (fun _ => ?_))
   | exact ih0 _ _ _ _
   | exact LeO.none _
   | refine LeO.ite ?_ ?_
   | refine LeO.bind ?_ (fun _ => ?_)
set_option maxHeartbeats 8000000 in
set_option maxRecDepth 100000 in
theorem swarfkit_EqualRanges.calls (k : Nat) (A0 : Option Addr) (c0 : Nat) (l0 : List (S56)) (A1 : Option Addr) (c1 : Nat) (l1 : List (S56)) (r : Bool) (w : World) (hr0 : Kd.C k56 w A0 l0.length l0) (hc0 : l0.length ≤ c0) (hr1 : Kd.C k56 w A1 l1.length l1) (hc1 : l1.length ≤ c1) (h : swarfkit_EqualRanges.f k l0 l1 = some r) :
  Calls Try.prog 24 #[.slice A0 l0.length c0, .slice A1 l1.length c1] w fun e w' => e = .returned (.bool r) ∧ Drawn0 w w' := by
 have hu56 := Try.underlying56
 have HR0 := Aside0.mk hr0
 have HC0 := Aside0.mk hc0
 clear hr0 hc0
 have HR1 := Aside0.mk hr1
 have HC1 := Aside0.mk hc1
 clear hr1 hc1
 have H : (swarfkit_EqualRanges.l0 k l0 l1 ((l0.length : Int) == (l1.length : Int)) 0) = some r := h
 clear h
 have H' := Aside0.mk H
 clear H
 go_enter Try.func24, Try.ntmps24
 go_wp2
 repeat (go_quiet (fail); try go_wp2)
 go_loopg [5, 6] k (fun kq v5 v6 w' => ∃ (x5_1 : Bool) (x6_1 : Int), v5 = .bool x5_1 ∧ v6 = .int .i64 x6_1 ∧ Aside0 (swarfkit_EqualRanges.l0 kq l0 l1 x5_1 x6_1 = some r) ∧ Aside0 (kq ≤ k) ∧ Drawn0 w w')
 case atStart => exact ⟨(((l0.length : Int) == (l1.length : Int))), (0), (by first | rfl | (simp; done) | (simp [*]; done)), (by first | rfl | (simp; done) | (simp [*]; done)), H', ⟨Nat.le_refl _⟩, by repeat (first | exact Drawn0.refl _ | apply Drawn0.step)⟩
 case round =>
  clear H'
  obtain ⟨x5_1, x6_1, rfl, rfl, HA, HK1, ⟨m1, rfl⟩⟩ := hrel
  cases gk with
  | zero => exact absurd HA.out (by simp [swarfkit_EqualRanges.l0])
  | succ k1 =>
   have H := HA.out
   clear HA
   simp only [swarfkit_EqualRanges.l0] at H
   by_cases c3 : x5_1 = true
   ·
    subst c3
    have H1 : (if x6_1 < (l0.length : Int) then (if 0 ≤ x6_1 then (if x6_1 < (l1.length : Int) then (swarfkit_EqualRanges.l0 k1 l0 l1 (((rd_T56 l0 x6_1).f0) == ((rd_T56 l1 x6_1).f0) && (((rd_T56 l0 x6_1).f1) == ((rd_T56 l1 x6_1).f1))) (wrap64 (x6_1 + 1))) else (none)) else (none)) else (some true)) = some r := by rw [if_pos rfl] at H; exact H
    clear H
    have H := H1
    clear H1
    by_cases c4 : x6_1 < (l0.length : Int)
    ·
     rw [if_pos c4] at H
     have c4b0 : decide (x6_1 < (l0.length : Int)) = true := decide_eq_true c4
     clear c4
     by_cases c5 : 0 ≤ x6_1
     ·
      rw [if_pos c5] at H
      have c5b0 : decide (0 ≤ x6_1) = true := decide_eq_true c5
      clear c5
      by_cases c6 : x6_1 < (l1.length : Int)
      ·
       rw [if_pos c6] at H
       have c6b0 : decide (x6_1 < (l1.length : Int)) = true := decide_eq_true c6
       clear c6
       have H' := Aside0.mk H
       clear H
       have p159 : 0 ≤ (x6_1 : Int) := of_x
       have q159 : x6_1 < (l0.length : Int) := of_x
       obtain ⟨ad159, e159, hx159_0, hx159_1⟩ := at_T56 HR0.out x6_1 p159 q159
       cases e159
       replace p159 := eq_true p159
       replace q159 := eq_true q159
       have p160 : 0 ≤ (x6_1 : Int) := of_x
       have q160 : x6_1 < (l1.length : Int) := of_x
       obtain ⟨ad160, e160, hx160_0, hx160_1⟩ := at_T56 HR1.out x6_1 p160 q160
       cases e160
       replace p160 := eq_true p160
       replace q160 := eq_true q160
       go_wp2
       repeat (go_quiet (fail); try go_wp2)
       go_roundg k1
       case measure => have := HK1.out; omega
       case rel => exact ⟨((((rd_T56 l0 x6_1).f0) == ((rd_T56 l1 x6_1).f0) && (((rd_T56 l0 x6_1).f1) == ((rd_T56 l1 x6_1).f1)))), (wrap64 (x6_1 + 1)), (by first | rfl | (simp; done) | (simp [*]; done)), (by first | rfl | (simp; done) | (simp [*]; done)), H', ⟨by have := HK1.out; omega⟩, by repeat (first | exact Drawn0.refl _ | apply Drawn0.step)⟩
      ·
       rw [if_neg c6] at H
       exact absurd H (by simp)
     ·
      rw [if_neg c5] at H
      exact absurd H (by simp)
    ·
     rw [if_neg c4] at H
     have c4b0 : decide (x6_1 < (l0.length : Int)) = false := decide_eq_false c4
     clear c4
     obtain rfl := Option.some.inj H
     go_wp2
     repeat (go_quiet (fail); try go_wp2)
     go_ret
     exact ⟨by first | rfl | (simp; done) | (simp [*]; done), by repeat (first | exact Drawn0.refl _ | apply Drawn0.step)⟩
   ·
    replace c3 := Bool.eq_false_iff.mpr c3
    subst c3
    have H1 : (some false) = some r := by rw [if_neg (show ¬ (false = true) by decide)] at H; exact H
    clear H
    have H := H1
    clear H1
    obtain rfl := Option.some.inj H
    go_wp2
    repeat (go_quiet (fail); try go_wp2)
    go_ret
    exact ⟨by first | rfl | (simp; done) | (simp [*]; done), by repeat (first | exact Drawn0.refl _ | apply Drawn0.step)⟩
def swarfkit_EqualInts.l0 : Nat → List Int → List Int → Bool → Int → Option (Bool)
 | 0, _, _, _, _ => none
 | k + 1, x0, x1, x5, x6 => if x5 = true then (if x6 < (x0.length : Int) then (if 0 ≤ x6 then (if x6 < (x1.length : Int) then (swarfkit_EqualInts.l0 k x0 x1 ((rd x0 x6) == (rd x1 x6)) (wrap64 (x6 + 1))) else (none)) else (none)) else (some x5)) else (some x5)
def swarfkit_EqualInts.f (k : Nat) (l0 : List Int) (l1 : List Int) : Option (Bool) := swarfkit_EqualInts.l0 k l0 l1 ((l0.length : Int) == (l1.length : Int)) 0
theorem swarfkit_EqualInts.mono_l : ∀ k, (∀ y0 y1 y2 y3, LeO (swarfkit_EqualInts.l0 k y0 y1 y2 y3) (swarfkit_EqualInts.l0 (k + 1) y0 y1 y2 y3))
 | 0 => fun _ _ _ _ r h => by simp [swarfkit_EqualInts.l0] at h
 | k + 1 => by
  have ih0 := swarfkit_EqualInts.mono_l k
  ·
   intro y0 y1 y2 y3
   unfold swarfkit_EqualInts.l0
   repeat' first
   | (with_reducible exact ih0 _ _ _ _)
   | (with_reducible exact LeO.refl _)
   | (with_reducible exact LeO.none _)
   | (with_reducible refine LeO.ite ?_ ?_)
   | (with_reducible refine LeO.bind ?_ (fun _ => ?_))
   | exact ih0 _ _ _ _
   | exact LeO.none _
   | refine LeO.ite ?_ ?_
   | refine LeO.bind ?_ (fun _ => ?_)
theorem swarfkit_EqualInts.mono : ∀ a0 a1 k, LeO (swarfkit_EqualInts.f k a0 a1) (swarfkit_EqualInts.f (k + 1) a0 a1) := by
 intro a0 a1 k
 have ih0 := swarfkit_EqualInts.mono_l k
 unfold swarfkit_EqualInts.f
 repeat' first
   | (with_reducible exact ih0 _ _ _ _)
   | (with_reducible exact LeO.refl _)
   | (with_reducible exact LeO.none _)
   | (with_reducible refine LeO.ite ?_ ?_)
   | (with_reducible refine LeO.bind ?_ (fun _ => ?_))
   | exact ih0 _ _ _ _
   | exact LeO.none _
   | refine LeO.ite ?_ ?_
   | refine LeO.bind ?_ (fun _ => ?_)
set_option maxHeartbeats 8000000 in
set_option maxRecDepth 100000 in
theorem swarfkit_EqualInts.calls (k : Nat) (A0 : Option Addr) (c0 : Nat) (l0 : List Int) (A1 : Option Addr) (c1 : Nat) (l1 : List Int) (r : Bool) (w : World) (hr0 : Kd.C (Kd.int .i64) w A0 l0.length l0) (hc0 : l0.length ≤ c0) (hr1 : Kd.C (Kd.int .i64) w A1 l1.length l1) (hc1 : l1.length ≤ c1) (h : swarfkit_EqualInts.f k l0 l1 = some r) :
  Calls Try.prog 26 #[.slice A0 l0.length c0, .slice A1 l1.length c1] w fun e w' => e = .returned (.bool r) ∧ Drawn0 w w' := by
 have HR0 := Aside0.mk hr0
 have HC0 := Aside0.mk hc0
 clear hr0 hc0
 have HR1 := Aside0.mk hr1
 have HC1 := Aside0.mk hc1
 clear hr1 hc1
 have H : (swarfkit_EqualInts.l0 k l0 l1 ((l0.length : Int) == (l1.length : Int)) 0) = some r := h
 clear h
 have H' := Aside0.mk H
 clear H
 go_enter Try.func26, Try.ntmps26
 go_wp2
 repeat (go_quiet (fail); try go_wp2)
 go_loopg [5, 6] k (fun kq v5 v6 w' => ∃ (x5_1 : Bool) (x6_1 : Int), v5 = .bool x5_1 ∧ v6 = .int .i64 x6_1 ∧ Aside0 (swarfkit_EqualInts.l0 kq l0 l1 x5_1 x6_1 = some r) ∧ Aside0 (kq ≤ k) ∧ Drawn0 w w')
 case atStart => exact ⟨(((l0.length : Int) == (l1.length : Int))), (0), (by first | rfl | (simp; done) | (simp [*]; done)), (by first | rfl | (simp; done) | (simp [*]; done)), H', ⟨Nat.le_refl _⟩, by repeat (first | exact Drawn0.refl _ | apply Drawn0.step)⟩
 case round =>
  clear H'
  obtain ⟨x5_1, x6_1, rfl, rfl, HA, HK1, ⟨m1, rfl⟩⟩ := hrel
  cases gk with
  | zero => exact absurd HA.out (by simp [swarfkit_EqualInts.l0])
  | succ k1 =>
   have H := HA.out
   clear HA
   simp only [swarfkit_EqualInts.l0] at H
   by_cases c3 : x5_1 = true
   ·
    subst c3
    have H1 : (if x6_1 < (l0.length : Int) then (if 0 ≤ x6_1 then (if x6_1 < (l1.length : Int) then (swarfkit_EqualInts.l0 k1 l0 l1 ((rd l0 x6_1) == (rd l1 x6_1)) (wrap64 (x6_1 + 1))) else (none)) else (none)) else (some true)) = some r := by rw [if_pos rfl] at H; exact H
    clear H
    have H := H1
    clear H1
    by_cases c4 : x6_1 < (l0.length : Int)
    ·
     rw [if_pos c4] at H
     have c4b0 : decide (x6_1 < (l0.length : Int)) = true := decide_eq_true c4
     clear c4
     by_cases c5 : 0 ≤ x6_1
     ·
      rw [if_pos c5] at H
      have c5b0 : decide (0 ≤ x6_1) = true := decide_eq_true c5
      clear c5
      by_cases c6 : x6_1 < (l1.length : Int)
      ·
       rw [if_pos c6] at H
       have c6b0 : decide (x6_1 < (l1.length : Int)) = true := decide_eq_true c6
       clear c6
       have H' := Aside0.mk H
       clear H
       have p161 : 0 ≤ (x6_1 : Int) := of_x
       have q161 : x6_1 < (l0.length : Int) := of_x
       obtain ⟨ad161, e161, hx161_0⟩ := Kd.at_int HR0.out x6_1 p161 q161
       cases e161
       replace p161 := eq_true p161
       replace q161 := eq_true q161
       have p162 : 0 ≤ (x6_1 : Int) := of_x
       have q162 : x6_1 < (l1.length : Int) := of_x
       obtain ⟨ad162, e162, hx162_0⟩ := Kd.at_int HR1.out x6_1 p162 q162
       cases e162
       replace p162 := eq_true p162
       replace q162 := eq_true q162
       go_wp2
       repeat (go_quiet (fail); try go_wp2)
       go_roundg k1
       case measure => have := HK1.out; omega
       case rel => exact ⟨(((rd l0 x6_1) == (rd l1 x6_1))), (wrap64 (x6_1 + 1)), (by first | rfl | (simp; done) | (simp [*]; done)), (by first | rfl | (simp; done) | (simp [*]; done)), H', ⟨by have := HK1.out; omega⟩, by repeat (first | exact Drawn0.refl _ | apply Drawn0.step)⟩
      ·
       rw [if_neg c6] at H
       exact absurd H (by simp)
     ·
      rw [if_neg c5] at H
      exact absurd H (by simp)
    ·
     rw [if_neg c4] at H
     have c4b0 : decide (x6_1 < (l0.length : Int)) = false := decide_eq_false c4
     clear c4
     obtain rfl := Option.some.inj H
     go_wp2
     repeat (go_quiet (fail); try go_wp2)
     go_ret
     exact ⟨by first | rfl | (simp; done) | (simp [*]; done), by repeat (first | exact Drawn0.refl _ | apply Drawn0.step)⟩
   ·
    replace c3 := Bool.eq_false_iff.mpr c3
    subst c3
    have H1 : (some false) = some r := by rw [if_neg (show ¬ (false = true) by decide)] at H; exact H
    clear H
    have H := H1
    clear H1
    obtain rfl := Option.some.inj H
    go_wp2
    repeat (go_quiet (fail); try go_wp2)
    go_ret
    exact ⟨by first | rfl | (simp; done) | (simp [*]; done), by repeat (first | exact Drawn0.refl _ | apply Drawn0.step)⟩
def swarflaw07_rng.f (a0 : Int) (a1 : Int) : Option (Int × Int) := some (a0, a1)
set_option maxHeartbeats 8000000 in
set_option maxRecDepth 100000 in
theorem swarflaw07_rng.calls (a0 : Int) (a1 : Int) (r1 : Int) (r2 : Int) (w : World) (h : swarflaw07_rng.f a0 a1 = some (r1, r2)) :
  Calls Try.prog 32 #[.int .i64 a0, .int .i64 a1] w fun e w' => e = .returned (.agg #[.int .i64 r1, .int .i64 r2]) ∧ Below w.heap.size w w' := by
 have hu56 := Try.underlying56
 have HB := Aside0.mk (Below.refl w.heap.size w)
 have H : (some (a0, a1)) = some (r1, r2) := h
 clear h
 simp only [Option.some.injEq, Prod.mk.injEq] at H
 obtain ⟨rfl, rfl⟩ := H
 go_enter Try.func32, Try.ntmps32
 go_wp2_with (first | ((with_reducible refine gate_dst (N := 4) rfl ?_); refine box_event ?hg (N := 4) ?hd (cs := #[.int .i64 0, .int .i64 0]) (t := 56) ?hr ?_; (case hd => rfl); (case hg => rfl); (case hr => first | (go_simp; done) | (go_simp; rfl)); intro gb163 hg w3 hbox hb; have BK163 := Aside0.mk (hbox); have GW163 := Aside0.mk ((by rw [hg]; exact (below_size (below_x HB.out)) : w.heap.size ≤ gb163)); have GE163 := Aside0.mk ((by rw [hg]; exact (below_size (below_x HB.out)) : w.heap.size ≤ gb163)); replace HB := Aside0.mk (below_step (below_x HB.out) hb); clear hb hbox hg; obtain ⟨_, _⟩ := cz2 BK163; have hfz4_0 := blk_frozen BK163.out))
 refine bodyPost_ret (results_cell_row rfl _ _ gb163 56 #[.int .i64 a0, .int .i64 a1] (0, 0) _ rfl (by (with_reducible repeat (first | refine blk_drewN ?_ _ | refine blk_drew ?_ | refine blk_alloc ?_ _)); refine blk_put (cs := #[.int .i64 a0, .int .i64 0]) ?_ 1 _ rfl; (with_reducible repeat (first | refine blk_drewN ?_ _ | refine blk_drew ?_ | refine blk_alloc ?_ _)); refine blk_put (cs := #[.int .i64 0, .int .i64 0]) ?_ 0 _ rfl; (with_reducible repeat (first | refine blk_drewN ?_ _ | refine blk_drew ?_ | refine blk_alloc ?_ _)); exact BK163.out) Try.underlying56 rfl (by kernel_rfl)) rfl ?_
 exact ⟨by first | rfl | (simp [errW_none, errW_some] <;> rfl) | (simp [*, errW_none, errW_some] <;> rfl), by exact below_y HB.out⟩
end Go.Proofs.Ytodmemndaaiolaa.PC7
