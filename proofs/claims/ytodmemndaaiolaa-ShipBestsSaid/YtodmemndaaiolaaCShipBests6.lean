/- The stowage with the most worth, or the error, is said alike by the program and by the reference, for any voyage that is not too wide and has at most three lots if it is valid, and for one made of numbers; nothing is changed. -/
import Derived.Test.YtodmemndaaiolaaCShipBests2
import Derived.Test.YtodmemndaaiolaaCShipBests5
import Derived.Deep.Slices
import Derived.Deep.Fields
import Derived.ChangeSame
import Derived.Lib.SmallJoins
import Derived.SizedLaws
import Derived.Test.YtodmemndaaiolaaCShipBests4
import Derived.Test.YtodmemndaaiolaaCShipBests3
import Derived.Outline
import Derived.RegionTactic
import Derived.BigRegion
import Derived.ChangeAlike
import Derived.Deep.DeepCutAuto
import Derived.Deep.CutRange
import Derived.Test.YtodmemndaaiolaaCShipBests1
import Derived.Test.YtodmemndaaiolaaRows
import Derived.WalkKit
import Derived.ProofKit
import Derived.OpenShut
import Derived.ShutString
import Derived.ChangeOld
import Derived.Below
namespace Go.Proofs.Ytodmemndaaiolaa.PC7
set_option linter.unusedVariables false
set_option linter.unusedSimpArgs false
open Go.RowKit Go.ChangeShapes Go.WideShapes Go.Deep Go.Joins Go.Proofs.YtodmemndaaiolaaW.PrintWords Go.Proofs.YtodmemndaaiolaaW.PrintLast Go.Proofs.YtodmemndaaiolaaW.PrintMore
section
variable {H : Type} {enc : TypeId × Value → H} {P : Program} {w : World} {base : Nat} {spare : Nat → Bool} {held : Bool}
def Opens {α : Type} (P : Program) (enc : TypeId × Value → H) (w : World) (base : Nat) (spare : Nat → Bool) (held : Bool) (t : TypeId) (d : Kd α) : Prop :=
  ∀ (fuel : Nat) (cs : List Value) (x : DataW H × List MemPlace), DataW.trod enc P w base spare held fuel t cs = some x → ∃ v, d.K w v cs
theorem opens_int {k : IntKind} {t : TypeId} (ht : P.underlying t = some (.int k)) : Opens P enc w base spare held t (Kd.int k) := by
  intro fuel cs x h
  obtain ⟨n, rfl, _⟩ := DataW.trod_int ht h
  exact ⟨n, rfl⟩
theorem open_row {α : Type} {d : Kd α} {t e : TypeId} (ht : P.underlying t = some (.slice e)) (hs : P.cellsOf e = d.sz) (hd : Opens P enc w base spare held e d) {fuel : Nat} {cs : List Value} {x : DataW H × List MemPlace}
    (h : DataW.trod enc P w base spare held fuel t cs = some x) : ∃ (A : Option Addr) (c : Nat) (xs : List α), cs = [.slice A xs.length c] ∧ xs.length ≤ c ∧ c ≤ maxLen ∧ d.C w A xs.length xs := by
  rcases open_slice ht h with ⟨rfl, _⟩ | ⟨a, len, cap, m, n, D, Pl, rfl, hb, hl, hm, hmm, hx, hi⟩
  · exact ⟨none, 0, [], rfl, Nat.le_refl _, Nat.zero_le _, rfl, by simp, fun h => absurd h (by simp)⟩
  · have hel : ∀ i, i < len → ∃ v cs', d.K w v cs' ∧ cs'.length = d.sz ∧ ∀ j u, cs'[j]? = some u → w.cell? (a.add (i * d.sz + j)) = some u := by
      intro i hil
      obtain ⟨cs', hc, ht'⟩ := hi i (by rw [hmm]; split <;> omega)
      obtain ⟨v, hv⟩ := hd _ _ _ ht'
      obtain ⟨_, hcl, hat⟩ := World.cells?_some hc
      refine ⟨v, cs', hv, by rw [hcl, hs], fun j u hj => ?_⟩
      have hjl : j < cs'.length := by
        refine Classical.byContradiction fun hn => ?_
        rw [List.getElem?_eq_none (by omega)] at hj
        cases hj
      have := hat j (by omega)
      rw [hj, Go.Deep.add_add, hs] at this
      exact this
    have hrow : ∀ k, k ≤ len → ∃ xs : List α, xs.length = k ∧ ∀ j p, xs[j]? = some p → ∃ c, c.length = d.sz ∧ d.K w p c ∧ ∀ i u, c[i]? = some u → w.cell? (a.add (j * d.sz + i)) = some u := by
      intro k
      induction k with
      | zero => intro _; exact ⟨[], rfl, fun j p hj => by simp at hj⟩
      | succ k ih =>
        intro hk
        obtain ⟨xs, hxl, hxs⟩ := ih (by omega)
        obtain ⟨v, cs', hv, hcl, hat⟩ := hel k (by omega)
        refine ⟨xs ++ [v], by simp [hxl], fun j p hj => ?_⟩
        by_cases hjk : j < xs.length
        · rw [List.getElem?_append_left hjk] at hj
          exact hxs j p hj
        · rw [List.getElem?_append_right (by omega)] at hj
          have : j - xs.length = 0 := by
            refine Classical.byContradiction fun hn => ?_
            rw [List.getElem?_eq_none (by simp; omega)] at hj
            cases hj
          rw [this] at hj
          obtain rfl := Option.some.inj hj
          obtain rfl : j = k := by omega
          exact ⟨cs', hcl, hv, hat⟩
    obtain ⟨xs, hxl, hxs⟩ := hrow len (Nat.le_refl _)
    refine ⟨some a, cap, xs, by rw [hxl], by omega, hm, rfl, ?_, fun _ => ⟨a, rfl, hxs⟩⟩
    unfold maxLen at hm
    omega
theorem opens_slice {α : Type} {d : Kd α} {t e : TypeId} (ht : P.underlying t = some (.slice e)) (hs : P.cellsOf e = d.sz) (hd : Opens P enc w base spare held e d) : Opens P enc w base spare held t (Kd.slice e d) := by
  intro fuel cs x h
  obtain ⟨A, c, xs, rfl, hl, _, hC⟩ := open_row ht hs hd h
  exact ⟨xs, A, c, rfl, hl, hC⟩
theorem opens_struct {t : TypeId} {fs : Array Field} (ht : P.underlying t = some (.struct fs)) {α : Type} (d : Kd α)
    (h : ∀ (cs : List Value), cs.length = P.cellsOf t → (∀ (i : Nat) (f : Field), fs[i]? = some f → ∃ (n : Nat) (y : DataW H × List MemPlace), DataW.trod enc P w base spare held n f.type ((cs.drop f.offset).take (P.cellsOf f.type)) = some y) → ∃ v, d.K w v cs) : Opens P enc w base spare held t d := by
  intro fuel cs x hx
  obtain ⟨ys, n, _, _, hl, hyl, hf⟩ := DataW.trod_struct ht hx
  refine h cs hl (fun i f hi => ?_)
  have hil : i < fs.size := (Array.getElem?_eq_some_iff.1 hi).1
  have := hf i f hi
  rw [List.getElem?_eq_getElem (by omega)] at this
  exact ⟨n, _, this⟩
end
theorem two_cells {cs : List Value} (h : cs.length = 2) : ∃ a b, cs = [a, b] := by
  match cs, h with
  | [a, b], _ => exact ⟨a, b, rfl⟩
theorem three_cells {cs : List Value} (h : cs.length = 3) : ∃ a b c, cs = [a, b, c] := by
  match cs, h with
  | [a, b, c], _ => exact ⟨a, b, c, rfl⟩
section
variable {H : Type} {enc : TypeId × Value → H} {w : World} {base : Nat} {spare : Nat → Bool} {held : Bool}
set_option maxRecDepth 100000 in
theorem opens56 : Opens Try.prog enc w base spare held 56 k56 := by
  refine opens_struct Try.underlying56 k56 (fun cs hl hf => ?_)
  obtain ⟨a, b, rfl⟩ := two_cells (hl.trans (by kernel_rfl))
  obtain ⟨_, _, h0⟩ := hf 0 _ rfl
  obtain ⟨_, _, h1⟩ := hf 1 _ rfl
  obtain ⟨v0, e0⟩ := opens_int Try.underlying3 _ _ _ h0
  obtain ⟨v1, e1⟩ := opens_int Try.underlying3 _ _ _ h1
  exact ⟨⟨v0, v1⟩, [a], [b], rfl, e0, e1⟩
set_option maxRecDepth 100000 in
theorem opens85 : Opens Try.prog enc w base spare held 85 k85 := by
  refine opens_struct Try.underlying85 k85 (fun cs hl hf => ?_)
  obtain ⟨a, b, c, rfl⟩ := three_cells (hl.trans (by kernel_rfl))
  obtain ⟨_, _, h0⟩ := hf 0 _ rfl
  obtain ⟨_, _, h1⟩ := hf 1 _ rfl
  obtain ⟨_, _, h2⟩ := hf 2 _ rfl
  obtain ⟨v0, e0⟩ := opens_int Try.underlying3 _ _ _ h0
  obtain ⟨v1, e1⟩ := opens_int Try.underlying3 _ _ _ h1
  obtain ⟨v2, e2⟩ := opens_int Try.underlying3 _ _ _ h2
  exact ⟨⟨v0, v1, v2⟩, [a], [b, c], rfl, e0, [b], [c], rfl, e1, e2⟩
set_option maxRecDepth 100000 in
theorem opens62 : Opens Try.prog enc w base spare held 62 k62 := by
  refine opens_struct Try.underlying62 k62 (fun cs hl hf => ?_)
  obtain ⟨a, b, c, rfl⟩ := three_cells (hl.trans (by kernel_rfl))
  obtain ⟨_, _, h0⟩ := hf 0 _ rfl
  obtain ⟨_, _, h1⟩ := hf 1 _ rfl
  obtain ⟨v0, e0⟩ := opens_int Try.underlying3 _ _ _ h0
  obtain ⟨v1, e1⟩ := opens56 _ _ _ h1
  exact ⟨⟨v0, v1⟩, [a], [b, c], rfl, e0, e1⟩
set_option maxRecDepth 100000 in
theorem opens79 : Opens Try.prog enc w base spare held 79 k79 := by
  refine opens_struct Try.underlying79 k79 (fun cs hl hf => ?_)
  obtain ⟨a, b, c, rfl⟩ := three_cells (hl.trans (by kernel_rfl))
  obtain ⟨_, _, h0⟩ := hf 0 _ rfl
  obtain ⟨_, _, h1⟩ := hf 1 _ rfl
  obtain ⟨v0, e0⟩ := opens56 _ _ _ h0
  obtain ⟨v1, e1⟩ := opens_int Try.underlying3 _ _ _ h1
  exact ⟨⟨v0, v1⟩, [a, b], [c], rfl, e0, e1⟩
set_option maxRecDepth 100000 in
theorem opens59 : Opens Try.prog enc w base spare held 59 k59 := by
  refine opens_struct Try.underlying59 k59 (fun cs hl hf => ?_)
  obtain ⟨a, b, c, rfl⟩ := three_cells (hl.trans (by kernel_rfl))
  obtain ⟨_, _, h0⟩ := hf 0 _ rfl
  obtain ⟨_, _, h1⟩ := hf 1 _ rfl
  obtain ⟨v0, e0⟩ := opens56 _ _ _ h0
  obtain ⟨v1, e1⟩ := opens_slice (d := k62) (e := 62) Try.underlying57 (by kernel_rfl) opens62 _ _ _ h1
  exact ⟨⟨v0, v1⟩, [a, b], [c], rfl, e0, e1⟩
set_option maxRecDepth 100000 in
theorem open_voy {b0 : Nat} {r : Reach} {v : Value} {d : DataW H} {p : List MemPlace} (hv : Value.okWide Try.prog w r b0 26 v) (h : DataW.Trod enc Try.prog w base spare held 26 v d p) :
    ∃ x : VoyV, v = .agg #[.int .i64 x.light, .int .i64 x.under, .int .i64 x.trim, .slice x.A3 x.holds.length x.c3, .int .i64 x.leaves, .slice x.A5 x.sills.length x.c5, .slice x.A6 x.lots.length x.c6] ∧ x.Ok w := by
  obtain ⟨cs, rfl, hsz⟩ := okWide_struct Try.underlying26 hv
  obtain ⟨l⟩ := cs
  match l, hsz.trans (show Try.prog.cellsOf 26 = 7 by kernel_rfl) with
  | [x0, x1, x2, x3, x4, x5, x6], _ =>
    obtain ⟨fuel, hf⟩ := h
    obtain ⟨ys, n, _, _, _, hyl, hg⟩ := DataW.trod_struct Try.underlying26 hf
    obtain ⟨v0, e0⟩ := opens_int Try.underlying3 _ _ _ ((hg 0 _ rfl).trans (List.getElem?_eq_getElem (by rw [hyl]; decide)))
    obtain ⟨v1, e1⟩ := opens_int Try.underlying3 _ _ _ ((hg 1 _ rfl).trans (List.getElem?_eq_getElem (by rw [hyl]; decide)))
    obtain ⟨v2, e2⟩ := opens_int Try.underlying3 _ _ _ ((hg 2 _ rfl).trans (List.getElem?_eq_getElem (by rw [hyl]; decide)))
    obtain ⟨A3, c3, holds, e3, h3, _, C3⟩ := open_row (d := k85) (e := 85) Try.underlying22 (by kernel_rfl) opens85 ((hg 3 _ rfl).trans (List.getElem?_eq_getElem (by rw [hyl]; decide)))
    obtain ⟨v4, e4⟩ := opens_int Try.underlying3 _ _ _ ((hg 4 _ rfl).trans (List.getElem?_eq_getElem (by rw [hyl]; decide)))
    obtain ⟨A5, c5, sills, e5, h5, _, C5⟩ := open_row (d := k59) (e := 59) Try.underlying23 (by kernel_rfl) opens59 ((hg 5 _ rfl).trans (List.getElem?_eq_getElem (by rw [hyl]; decide)))
    obtain ⟨A6, c6, lots, e6, h6, _, C6⟩ := open_row (d := k79) (e := 79) Try.underlying24 (by kernel_rfl) opens79 ((hg 6 _ rfl).trans (List.getElem?_eq_getElem (by rw [hyl]; decide)))
    refine ⟨⟨v0, v1, v2, A3, c3, holds, v4, A5, c5, sills, A6, c6, lots⟩, ?_, ⟨C3, h3, C5, h5, C6, h6⟩⟩
    have q0 : x0 = _ := List.singleton_inj.1 (e0 : [x0] = _)
    have q1 : x1 = _ := List.singleton_inj.1 (e1 : [x1] = _)
    have q2 : x2 = _ := List.singleton_inj.1 (e2 : [x2] = _)
    have q3 : x3 = _ := List.singleton_inj.1 (e3 : [x3] = _)
    have q4 : x4 = _ := List.singleton_inj.1 (e4 : [x4] = _)
    have q5 : x5 = _ := List.singleton_inj.1 (e5 : [x5] = _)
    have q6 : x6 = _ := List.singleton_inj.1 (e6 : [x6] = _)
    rw [q0, q1, q2, q3, q4, q5, q6]
end
end Go.Proofs.Ytodmemndaaiolaa.PC7
namespace Go.Proofs.Ytodmemndaaiolaa.PC7
set_option linter.unusedVariables false
set_option linter.unusedSimpArgs false
open Go.RowKit Go.Proofs.YtodmemndaaiolaaW.PrintWords Go.Proofs.YtodmemndaaiolaaW.PrintLast Go.Proofs.YtodmemndaaiolaaW.PrintMore
def RBP (w : World) (r1 : List Int) (m e : Int) (en : Ending) (w' : World) : Prop := ∃ (A : Option Addr) (c : Nat), en = .returned (.tuple #[.slice A r1.length c, .int .i64 m, .int .i64 e]) ∧ Kd.C (Kd.int .i64) w' A r1.length r1 ∧ r1.length ≤ c ∧ Below w.heap.size w w'
theorem C_nil29 (w : World) : Kd.C (Kd.int .i64) w none ([] : List Int).length [] := (Kd.R_reads' (show Kd.R (Kd.int .i64) 3 w 0 (fun _ => True) (.slice none 0 0) [] from Kd.R_nil _ _ _ _ _)).2.2
theorem drop29 (all : List (List Int)) (k : Nat) (h : k < all.length) : all.drop k = rd_L7 all (k : Int) :: all.drop (k + 1) := by
 rw [List.drop_eq_getElem_cons h]
 have : rd_L7 all (k : Int) = all[k] := by simp [rd_L7, List.getD, h]
 rw [this]
theorem best_step29 {good : List Int → Bool} {worth : List Int → Int} {all : List (List Int)} {k : Nat} {t b1 : List Int} {b2 : Int} {R : List Int × Int} (hk : k < all.length) (ht : t = rd_L7 all (k : Int)) (h : bestOf good worth (all.drop k) (b1, b2) = R) :
  bestOf good worth (all.drop (k + 1)) (if good t = true then (if b2 < worth t then (t, worth t) else (b1, b2)) else (b1, b2)) = R := by
 rw [drop29 all k hk, ← ht] at h
 exact h
theorem mem29 {all : List (List Int)} {k : Nat} {t : List Int} (hk : k < all.length) (ht : t = rd_L7 all (k : Int)) : t ∈ all := by
 have : t = all[k] := by rw [ht]; simp [rd_L7, List.getD, hk]
 rw [this]; exact List.getElem_mem hk
set_option maxHeartbeats 8000000 in
set_option maxRecDepth 100000 in
theorem refBest_no (x : VoyV) (e : Int) (w : World) (hx : x.Ok w) {kc : Nat} (hc : swarfref07_Check.f kc x.light x.under x.trim x.holds x.leaves x.sills x.lots = some e) (he : ¬ e = 0) :
  Calls Try.prog 29 #[.agg #[.int .i64 x.light, .int .i64 x.under, .int .i64 x.trim, .slice x.A3 x.holds.length x.c3, .int .i64 x.leaves, .slice x.A5 x.sills.length x.c5, .slice x.A6 x.lots.length x.c6]] w (RBP w [] 0 e) := by
 have hne_ : (e != 0) = true := bne_iff_ne.mpr he
 have hne2_ : (e == 0) = false := beq_eq_false_iff_ne.mpr he
 clear he
 have hu26 := Try.underlying26
 have HX := Aside0.mk hx
 have HC := Aside0.mk hc
 clear hx hc
 go_enter Try.func29, Try.ntmps29
 go_wp2_with (first | (refine box_r (N := 1) rfl (cs := #[.int .i64 x.light, .int .i64 x.under, .int .i64 x.trim, .slice x.A3 x.holds.length x.c3, .int .i64 x.leaves, .slice x.A5 x.sills.length x.c5, .slice x.A6 x.lots.length x.c6]) (t := 26) ?_; intro gx hg w2 hbox hb2; have BK := Aside0.mk hbox; have HB := Aside0.mk hb2; clear hg hbox hb2; have hz0_ := (blk_cell BK.out 0).trans rfl; have hz1_ := (blk_cell BK.out 1).trans rfl; have hz2_ := (blk_cell BK.out 2).trans rfl; have hz3_ := (blk_cell BK.out 3).trans rfl; have hz4_ := (blk_cell BK.out 4).trans rfl; have hz5_ := (blk_cell BK.out 5).trans rfl; have hz6_ := (blk_cell BK.out 6).trans rfl))
 refine (swarfref07_Check.calls kc x.light x.under x.trim x.A3 x.c3 x.holds x.leaves x.A5 x.c5 x.sills x.A6 x.c6 x.lots e w2 (HX.out.below HB.out).h (HX.out.below HB.out).hc (HX.out.below HB.out).s (HX.out.below HB.out).sc (HX.out.below HB.out).l (HX.out.below HB.out).lc HC.out).mono ?_
 rintro en w3 ⟨rfl, hb_⟩
 replace BK := Aside0.mk (blk_below BK.out hb_)
 replace HB := Aside0.mk (below_step HB.out hb_)
 clear hb_ hz0_ hz1_ hz2_ hz3_ hz4_ hz5_ hz6_
 go_wp2
 exact bodyPost_ret (v := .tuple #[.slice none 0 0, .int .i64 0, .int .i64 e]) (by simp [results, Try.results29, go_sem]) rfl ⟨none, 0, rfl, C_nil29 _, Nat.le_refl _, HB.out⟩
set_option maxHeartbeats 8000000 in
set_option maxRecDepth 100000 in
theorem refBest_yes (x : VoyV) (good : List Int → Bool) (worth : List Int → Int) (all : List (List Int)) (w : World) (hx : x.Ok w) {kc ks : Nat} (hc : swarfref07_Check.f kc x.light x.under x.trim x.holds x.leaves x.sills x.lots = some 0) (hs : swarfref07_Stowages.f ks x.light x.under x.trim x.holds x.leaves x.sills x.lots [] = some all) (hw : ∀ t, t ∈ all → ∃ k, swarfref07_Worth.f k x.light x.under x.trim x.holds x.leaves x.sills x.lots t = some (worth t)) (hg : ∀ t, t ∈ all → ∃ k, swarfref07_Good.f k x.light x.under x.trim x.holds x.leaves x.sills x.lots t = some (good t)) (hn0 : 0 < all.length) (hn : all.length ≤ 1000000) :
  Calls Try.prog 29 #[.agg #[.int .i64 x.light, .int .i64 x.under, .int .i64 x.trim, .slice x.A3 x.holds.length x.c3, .int .i64 x.leaves, .slice x.A5 x.sills.length x.c5, .slice x.A6 x.lots.length x.c6]] w (RBP w (bestOf good worth all ([], -1)).1 (bestOf good worth all ([], -1)).2 0) := by
 have HW := Aside0.mk hw
 have HG := Aside0.mk hg
 have HS := Aside0.mk hs
 clear hw hg hs
 obtain ⟨e, he⟩ : ∃ e : Int, e = 0 := ⟨_, rfl⟩
 rw [← he] at hc
 have hne_ : (e != 0) = false := by rw [he]; rfl
 have hne2_ : (e == 0) = true := by rw [he]; rfl
 clear he
 have hu26 := Try.underlying26
 have HX := Aside0.mk hx
 have HC := Aside0.mk hc
 clear hx hc
 go_enter Try.func29, Try.ntmps29
 go_wp2_with (first | (refine box_r (N := 1) rfl (cs := #[.int .i64 x.light, .int .i64 x.under, .int .i64 x.trim, .slice x.A3 x.holds.length x.c3, .int .i64 x.leaves, .slice x.A5 x.sills.length x.c5, .slice x.A6 x.lots.length x.c6]) (t := 26) ?_; intro gx hg w2 hbox hb2; have BK := Aside0.mk hbox; have HB := Aside0.mk hb2; clear hg hbox hb2; have hz0_ := (blk_cell BK.out 0).trans rfl; have hz1_ := (blk_cell BK.out 1).trans rfl; have hz2_ := (blk_cell BK.out 2).trans rfl; have hz3_ := (blk_cell BK.out 3).trans rfl; have hz4_ := (blk_cell BK.out 4).trans rfl; have hz5_ := (blk_cell BK.out 5).trans rfl; have hz6_ := (blk_cell BK.out 6).trans rfl))
 refine (swarfref07_Check.calls kc x.light x.under x.trim x.A3 x.c3 x.holds x.leaves x.A5 x.c5 x.sills x.A6 x.c6 x.lots e w2 (HX.out.below HB.out).h (HX.out.below HB.out).hc (HX.out.below HB.out).s (HX.out.below HB.out).sc (HX.out.below HB.out).l (HX.out.below HB.out).lc HC.out).mono ?_
 rintro en w3 ⟨rfl, hb_⟩
 replace BK := Aside0.mk (blk_below BK.out hb_)
 replace HB := Aside0.mk (below_step HB.out hb_)
 clear hb_ hz0_ hz1_ hz2_ hz3_ hz4_ hz5_ hz6_
 go_upto_region 6 with (fail)
 have hz0_ := (blk_cell BK.out 0).trans rfl
 have hz1_ := (blk_cell BK.out 1).trans rfl
 have hz2_ := (blk_cell BK.out 2).trans rfl
 have hz3_ := (blk_cell BK.out 3).trans rfl
 have hz4_ := (blk_cell BK.out 4).trans rfl
 have hz5_ := (blk_cell BK.out 5).trans rfl
 have hz6_ := (blk_cell BK.out 6).trans rfl
 go_wp2_with (fail)
 refine (swarfref07_Stowages.calls ks x.light x.under x.trim x.A3 x.c3 x.holds x.leaves x.A5 x.c5 x.sills x.A6 x.c6 x.lots (fun _ => True) none 0 [] all w3 (HX.out.below HB.out).h (HX.out.below HB.out).hc (HX.out.below HB.out).s (HX.out.below HB.out).sc (HX.out.below HB.out).l (HX.out.below HB.out).lc (by first | exact Kd.V_nil _ _ _ _ _ | exact Kd.R_V (Kd.R_nil _ _ _ _ _)) HS.out).mono ?_
 rintro en ws ⟨v8, rfl, ho_, hb_⟩
 replace BK := Aside0.mk (blk_below BK.out hb_)
 have HBs := Aside0.mk (below_step HB.out hb_)
 obtain ⟨A8, c8, rfl⟩ := Kd.N_slice ho_
 have RO := Aside0.mk (Kd.N_reads' ho_).2.2
 clear ho_ hb_ HB hz0_ hz1_ hz2_ hz3_ hz4_ hz5_ hz6_
 obtain ⟨ad, _, _, rfl, _, _, _⟩ := at_L7 RO.out 0 (by omega) (by omega)
 obtain ⟨R, hR⟩ : ∃ R, R = bestOf good worth all ([], -1) := ⟨_, rfl⟩
 rw [← hR]
 have HR := Aside0.mk hR
 clear hR
 go_wp2
 go_loopg [6, 7, 9] all.length (fun gk v6 v7 v9 wr => ∃ (k : Nat) (A6 : Option Addr) (c6 : Nat) (b1 : List Int) (b2 : Int), k ≤ all.length ∧ all.length - k ≤ gk ∧ v6 = .slice A6 b1.length c6 ∧ v7 = .int .i64 b2 ∧ v9 = .int .i64 k ∧ Aside0 (bestOf good worth (all.drop k) (b1, b2) = R) ∧ Aside0 (Kd.C (Kd.int .i64) wr A6 b1.length b1) ∧ Aside0 (b1.length ≤ c6) ∧ Aside0 (Below ws.heap.size ws wr))
 case atStart => exact ⟨0, none, 0, [], -1, by omega, by omega, rfl, rfl, rfl, ⟨by rw [HR.out]; rfl⟩, ⟨C_nil29 _⟩, ⟨Nat.le_refl _⟩, ⟨Below.refl _ _⟩⟩
 case round =>
  obtain ⟨k, A6, c6, b1, b2, hk, hgk, rfl, rfl, rfl, HE, C6, L6, HBr⟩ := hrel; by_cases hlt : k < all.length
  ·
   (have hlz : (k : Int) < (all.length : Int) := by omega); obtain ⟨ad', Ak, ck, e_, hx_, hl_, hC_⟩ := at_L7 RO.out (k : Int) (by omega) (by omega); obtain rfl := Option.some.inj e_; clear e_; obtain ⟨t, ht_⟩ : ∃ t, t = rd_L7 all (k : Int) := ⟨_, rfl⟩; rw [← ht_] at hx_ hl_ hC_; rw [Int.toNat_natCast] at hx_; obtain ⟨kw, hkw_⟩ := HW.out t (mem29 hlt ht_); obtain ⟨kg, hkg_⟩ := HG.out t (mem29 hlt ht_); have HE2 := Aside0.mk (best_step29 hlt ht_ HE.out); clear HE ht_; have HKW := Aside0.mk hkw_; have HKG := Aside0.mk hkg_; have HT := Aside0.mk hx_; have LT := Aside0.mk hl_; have CT := Aside0.mk hC_; clear hkw_ hkg_ hx_ hl_ hC_; obtain ⟨u, hu_⟩ : ∃ u, u = worth t := ⟨_, rfl⟩; obtain ⟨g, hg_⟩ : ∃ g, g = good t := ⟨_, rfl⟩; rw [← hu_, ← hg_] at HE2; rw [← hu_] at HKW; rw [← hg_] at HKG; clear hu_ hg_
   go_upto_region 10 with (fail)
   have HBd := Aside0.mk (below_step HBr.out (below_drew1 (Below.refl wr.heap.size wr))); replace C6 := Aside0.mk (Kd.C_below C6.out (below_drew1 (Below.refl wr.heap.size wr))); clear HBr; refine start_ (n := 7) (S := fun w' => w'.cell? ⟨gx, 0, none⟩ = some (.int .i64 x.light) ∧ w'.cell? ⟨gx, 1, none⟩ = some (.int .i64 x.under) ∧ w'.cell? ⟨gx, 2, none⟩ = some (.int .i64 x.trim) ∧ w'.cell? ⟨gx, 3, none⟩ = some (.slice x.A3 x.holds.length x.c3) ∧ w'.cell? ⟨gx, 4, none⟩ = some (.int .i64 x.leaves) ∧ w'.cell? ⟨gx, 5, none⟩ = some (.slice x.A5 x.sills.length x.c5) ∧ w'.cell? ⟨gx, 6, none⟩ = some (.slice x.A6 x.lots.length x.c6) ∧ w'.cell? (ad.add k) = some (.slice Ak t.length ck)) (ds := []) #[false, false, false, false, false, false, false] (by kernel_rfl) rfl rfl ⟨(HBd.out.cell (blk_lt BK.out)).trans ((blk_cell BK.out 0).trans rfl), (HBd.out.cell (blk_lt BK.out)).trans ((blk_cell BK.out 1).trans rfl), (HBd.out.cell (blk_lt BK.out)).trans ((blk_cell BK.out 2).trans rfl), (HBd.out.cell (blk_lt BK.out)).trans ((blk_cell BK.out 3).trans rfl), (HBd.out.cell (blk_lt BK.out)).trans ((blk_cell BK.out 4).trans rfl), (HBd.out.cell (blk_lt BK.out)).trans ((blk_cell BK.out 5).trans rfl), (HBd.out.cell (blk_lt BK.out)).trans ((blk_cell BK.out 6).trans rfl), cb_y HBd.out HT.out⟩ (fun hHeld => ?_); generalize wr.drew = wd at HBd C6 hHeld ⊢; refine pure_y 1 (some 25) (bz 7 2) ?_; refine pure_y 2 (some 26) (bz 7 6) ?_; refine pure_y 3 (some 27) (bz 7 14) ?_; refine take_y 0 (some 24) (bz 7 15) hHeld ?_; refine take_y 4 (some 28) (bz 7 31) hHeld ?_; (refine one_y 5 (some 29) (bz 7 63) fun K hK => ?_); refine goes_x Try.func68 #[.agg #[.int .i64 x.light, .int .i64 x.under, .int .i64 x.trim, .slice x.A3 x.holds.length x.c3, .int .i64 x.leaves, .slice x.A5 x.sills.length x.c5, .slice x.A6 x.lots.length x.c6], .slice Ak t.length ck] ?_; have HBw := Aside0.mk (below_step HBs.out HBd.out)
   with_reducible refine (swarfref07_Worth.calls kw x.light x.under x.trim x.A3 x.c3 x.holds x.leaves x.A5 x.c5 x.sills x.A6 x.c6 x.lots Ak ck t u _ (HX.out.below HBw.out).h (HX.out.below HBw.out).hc (HX.out.below HBw.out).s (HX.out.below HBw.out).sc (HX.out.below HBw.out).l (HX.out.below HBw.out).lc (Kd.C_below CT.out HBd.out) LT.out HKW.out).mono ?_
   rintro en w4 ⟨rfl, hb_⟩; replace HBd := Aside0.mk (below_step HBd.out hb_); replace C6 := Aside0.mk (Kd.C_below C6.out hb_); clear hb_ HBw; refine ⟨_, rfl, ?_⟩; refine hK.out _ _ ⟨(HBd.out.cell (blk_lt BK.out)).trans ((blk_cell BK.out 0).trans rfl), (HBd.out.cell (blk_lt BK.out)).trans ((blk_cell BK.out 1).trans rfl), (HBd.out.cell (blk_lt BK.out)).trans ((blk_cell BK.out 2).trans rfl), (HBd.out.cell (blk_lt BK.out)).trans ((blk_cell BK.out 3).trans rfl), (HBd.out.cell (blk_lt BK.out)).trans ((blk_cell BK.out 4).trans rfl), (HBd.out.cell (blk_lt BK.out)).trans ((blk_cell BK.out 5).trans rfl), (HBd.out.cell (blk_lt BK.out)).trans ((blk_cell BK.out 6).trans rfl), cb_y HBd.out HT.out⟩ (fun hHeld => ?_); clear hK K; refine norm_y (some 29) ?_; refine pure_y 6 (some 10) (bz 7 127) ?_; refine done_ (by kernel_rfl) ?_; clear hHeld; by_cases hgt : b2 < u
   ·
    have hd_ : decide (b2 < u) = true := decide_eq_true hgt; have hd2_ : decide (u > b2) = true := decide_eq_true hgt; rw [if_pos hgt] at HE2
    go_upto_region 11 with (fail)
    replace HBd := Aside0.mk (below_step HBd.out (below_drew1 (Below.refl w4.heap.size w4))); replace C6 := Aside0.mk (Kd.C_below C6.out (below_drew1 (Below.refl w4.heap.size w4))); refine start_ (n := 11) (S := fun w' => w'.cell? ⟨gx, 0, none⟩ = some (.int .i64 x.light) ∧ w'.cell? ⟨gx, 1, none⟩ = some (.int .i64 x.under) ∧ w'.cell? ⟨gx, 2, none⟩ = some (.int .i64 x.trim) ∧ w'.cell? ⟨gx, 3, none⟩ = some (.slice x.A3 x.holds.length x.c3) ∧ w'.cell? ⟨gx, 4, none⟩ = some (.int .i64 x.leaves) ∧ w'.cell? ⟨gx, 5, none⟩ = some (.slice x.A5 x.sills.length x.c5) ∧ w'.cell? ⟨gx, 6, none⟩ = some (.slice x.A6 x.lots.length x.c6) ∧ w'.cell? (ad.add k) = some (.slice Ak t.length ck)) (ds := []) #[false, false, false, false, false, false, false, false, false, false, false] (by kernel_rfl) rfl rfl ⟨(HBd.out.cell (blk_lt BK.out)).trans ((blk_cell BK.out 0).trans rfl), (HBd.out.cell (blk_lt BK.out)).trans ((blk_cell BK.out 1).trans rfl), (HBd.out.cell (blk_lt BK.out)).trans ((blk_cell BK.out 2).trans rfl), (HBd.out.cell (blk_lt BK.out)).trans ((blk_cell BK.out 3).trans rfl), (HBd.out.cell (blk_lt BK.out)).trans ((blk_cell BK.out 4).trans rfl), (HBd.out.cell (blk_lt BK.out)).trans ((blk_cell BK.out 5).trans rfl), (HBd.out.cell (blk_lt BK.out)).trans ((blk_cell BK.out 6).trans rfl), cb_y HBd.out HT.out⟩ (fun hHeld => ?_); generalize w4.drew = wd2 at HBd C6 hHeld ⊢; refine pure_y 0 (some 30) (bz 11 1) ?_; refine pure_y 1 (some 31) (bz 11 3) ?_; refine pure_y 2 (some 32) (bz 11 7) ?_; refine pure_y 3 (some 33) (bz 11 15) ?_; refine pure_y 5 (some 35) (bz 11 47) ?_; refine pure_y 6 (some 36) (bz 11 111) ?_; refine pure_y 7 (some 37) (bz 11 239) ?_; refine take_y 4 (some 34) (bz 11 255) hHeld ?_; refine take_y 8 (some 38) (bz 11 511) hHeld ?_; (refine one_y 9 (some 39) (bz 11 1023) fun K hK => ?_); refine goes_x Try.func69 #[.agg #[.int .i64 x.light, .int .i64 x.under, .int .i64 x.trim, .slice x.A3 x.holds.length x.c3, .int .i64 x.leaves, .slice x.A5 x.sills.length x.c5, .slice x.A6 x.lots.length x.c6], .slice Ak t.length ck] ?_; have HBw := Aside0.mk (below_step HBs.out HBd.out)
    with_reducible refine (swarfref07_Good.calls kg x.light x.under x.trim x.A3 x.c3 x.holds x.leaves x.A5 x.c5 x.sills x.A6 x.c6 x.lots Ak ck t g _ (HX.out.below HBw.out).h (HX.out.below HBw.out).hc (HX.out.below HBw.out).s (HX.out.below HBw.out).sc (HX.out.below HBw.out).l (HX.out.below HBw.out).lc (Kd.C_below CT.out HBd.out) LT.out HKG.out).mono ?_
    rintro en w5 ⟨rfl, hb_⟩; replace HBd := Aside0.mk (below_step HBd.out hb_); replace C6 := Aside0.mk (Kd.C_below C6.out hb_); clear hb_ HBw; refine ⟨_, rfl, ?_⟩; refine hK.out _ _ ⟨(HBd.out.cell (blk_lt BK.out)).trans ((blk_cell BK.out 0).trans rfl), (HBd.out.cell (blk_lt BK.out)).trans ((blk_cell BK.out 1).trans rfl), (HBd.out.cell (blk_lt BK.out)).trans ((blk_cell BK.out 2).trans rfl), (HBd.out.cell (blk_lt BK.out)).trans ((blk_cell BK.out 3).trans rfl), (HBd.out.cell (blk_lt BK.out)).trans ((blk_cell BK.out 4).trans rfl), (HBd.out.cell (blk_lt BK.out)).trans ((blk_cell BK.out 5).trans rfl), (HBd.out.cell (blk_lt BK.out)).trans ((blk_cell BK.out 6).trans rfl), cb_y HBd.out HT.out⟩ (fun hHeld => ?_); clear hK K; refine norm_y (some 39) ?_; refine pure_y 10 (some 40) (bz 11 2047) ?_; refine done_ (by kernel_rfl) ?_; clear hHeld; cases g with
    | false =>
     go_wp2; go_roundg (all.length - (k + 1))
     case measure => omega
     case rel => exact ⟨k + 1, A6, c6, b1, b2, by omega, by omega, rfl, rfl, by go_num, ⟨by simpa using HE2.out⟩, C6, L6, HBd⟩
    | true =>
     have HTn := Aside0.mk (cb_y HBd.out HT.out); have hcell := HTn.out; go_wp2; go_roundg (all.length - (k + 1))
     case measure => omega
     case rel => exact ⟨k + 1, Ak, ck, t, u, by omega, by omega, rfl, rfl, by go_num, ⟨by simpa using HE2.out⟩, ⟨Kd.C_below CT.out HBd.out⟩, LT, HBd⟩
   ·
    have hd_ : decide (b2 < u) = false := decide_eq_false hgt; have hd2_ : decide (u > b2) = false := decide_eq_false hgt; rw [if_neg hgt, ite_self] at HE2
    go_upto_region 11 with (fail)
    replace HBd := Aside0.mk (below_step HBd.out (below_drew1 (Below.refl w4.heap.size w4))); replace C6 := Aside0.mk (Kd.C_below C6.out (below_drew1 (Below.refl w4.heap.size w4))); refine start_ (n := 11) (S := fun w' => True) (ds := []) #[false, false, false, false, false, false, false, false, false, false, false] (by kernel_rfl) rfl rfl trivial (fun hHeld => ?_); generalize w4.drew = wd2 at HBd C6 hHeld ⊢; refine pure_y 0 (some 30) (bz 11 1) ?_; refine pure_y 1 (some 31) (bz 11 3) ?_; refine pure_y 2 (some 32) (bz 11 7) ?_; refine pure_y 3 (some 33) (bz 11 15) ?_; refine dead_y 4 (some 34) (bz 11 31) ?_; refine dead_y 5 (some 35) (bz 11 63) ?_; refine dead_y 6 (some 36) (bz 11 127) ?_; refine dead_y 7 (some 37) (bz 11 255) ?_; refine dead_y 8 (some 38) (bz 11 511) ?_; refine dead_y 9 (some 39) (bz 11 1023) ?_; refine pure_y 10 (some 40) (bz 11 2047) ?_; refine done_ (by kernel_rfl) ?_; clear hHeld; go_wp2; go_roundg (all.length - (k + 1))
    case measure => omega
    case rel => exact ⟨k + 1, A6, c6, b1, b2, by omega, by omega, rfl, rfl, by go_num, HE2, C6, L6, HBd⟩
  ·
   (have : k = all.length := by omega); subst this; have hE := HE.out; rw [List.drop_length] at hE; have hR : R = (b1, b2) := hE.symm; clear hE HE; go_wp2; exact bodyPost_ret (v := .tuple #[.slice A6 b1.length c6, .int .i64 b2, .int .i64 0]) (by simp [results, Try.results29, go_sem]) rfl (by rw [← HR.out, hR]; exact ⟨A6, c6, rfl, C6.out, L6.out, below_step HBs.out HBr.out⟩)
end Go.Proofs.Ytodmemndaaiolaa.PC7
namespace Go.Proofs.Ytodmemndaaiolaa.PC7
open Go.RowKit Go.Proofs.YtodmemndaaiolaaW.PrintWords Go.Proofs.YtodmemndaaiolaaW.PrintLast Go.Proofs.YtodmemndaaiolaaW.PrintMore
attribute [local go_sem] max2_int min2_int max_two min_two max_three min_three max_four min_four
set_option linter.unusedVariables false
set_option linter.unusedSimpArgs false
theorem eqA62 (d : Nat) (w : World) (x0 y0 : Int) (x1 y1 : Int) (x2 y2 : Int) :
    (Op.equalIn (d + 3) 62 (.agg #[.int .i64 x0, .int .i64 x1, .int .i64 x2]) (.agg #[.int .i64 y0, .int .i64 y1, .int .i64 y2])).run Try.prog w = .ok (x0 == y0 && ((x1 == y1 && (x2 == y2)))) w := by
  refine eqA_of Try.underlying62 (by kernel_rfl) ?_
  refine eqf_cons (by rfl) (by go_simp; rfl) (by go_simp; rfl) (by go_simp) ?_
  exact eqf_last (by rfl) (by go_simp) (by go_simp) (eqA56 (d + 0) w _ _ _ _)
theorem eqA79 (d : Nat) (w : World) (x0 y0 : Int) (x1 y1 : Int) (x2 y2 : Int) :
    (Op.equalIn (d + 3) 79 (.agg #[.int .i64 x0, .int .i64 x1, .int .i64 x2]) (.agg #[.int .i64 y0, .int .i64 y1, .int .i64 y2])).run Try.prog w = .ok ((x0 == y0 && (x1 == y1)) && (x2 == y2)) w := by
  refine eqA_of Try.underlying79 (by kernel_rfl) ?_
  refine eqf_cons (by rfl) (by go_simp) (by go_simp) (eqA56 (d + 0) w _ _ _ _) ?_
  exact eqf_last (by rfl) (by go_simp; rfl) (by go_simp; rfl) (by go_simp)
theorem eqA85 (d : Nat) (w : World) (x0 y0 : Int) (x1 y1 : Int) (x2 y2 : Int) :
    (Op.equalIn (d + 2) 85 (.agg #[.int .i64 x0, .int .i64 x1, .int .i64 x2]) (.agg #[.int .i64 y0, .int .i64 y1, .int .i64 y2])).run Try.prog w = .ok (x0 == y0 && (x1 == y1 && (x2 == y2))) w := by
  refine eqA_of Try.underlying85 (by kernel_rfl) ?_
  refine eqf_cons (by rfl) (by go_simp; rfl) (by go_simp; rfl) (by go_simp) ?_
  refine eqf_cons (by rfl) (by go_simp; rfl) (by go_simp; rfl) (by go_simp) ?_
  exact eqf_last (by rfl) (by go_simp; rfl) (by go_simp; rfl) (by go_simp)
end Go.Proofs.Ytodmemndaaiolaa.PC7
namespace Go.Proofs.Ytodmemndaaiolaa.PC7
set_option linter.unusedVariables false
set_option linter.unusedSimpArgs false
open Go.RowKit Go.Proofs.YtodmemndaaiolaaW.PrintWords Go.Proofs.YtodmemndaaiolaaW.PrintLast Go.Proofs.YtodmemndaaiolaaW.PrintMore
theorem getD_mem25_ {α : Type} (l : List α) (k : Nat) (d : α) (h : k < l.length) : l.getD k d ∈ l := by
 rw [List.getD, List.getElem?_eq_getElem h]; exact List.getElem_mem h
attribute [local go_sem high] eqA56 eqA62 eqA79 eqA85
set_option maxHeartbeats 8000000 in
set_option maxRecDepth 100000 in
theorem sameV_calls (L U R V : Int) (A3 B3 : Option Addr) (c3 d3 : Nat) (holds : List S85) (A5 B5 : Option Addr) (c5 d5 : Nat) (sills : List S59) (A6 B6 : Option Addr) (c6 d6 : Nat) (lots : List S79) (w : World) (hx : (⟨L, U, R, A3, c3, holds, V, A5, c5, sills, A6, c6, lots⟩ : VoyV).Ok w) (hy : (⟨L, U, R, B3, d3, holds, V, B5, d5, sills, B6, d6, lots⟩ : VoyV).Ok w) (hh : holds.length ≤ 100000) (hl : lots.length ≤ 100000) (hs : lensOK sills) :
  Calls Try.prog 25 #[.agg #[.int .i64 L, .int .i64 U, .int .i64 R, .slice A3 holds.length c3, .int .i64 V, .slice A5 sills.length c5, .slice A6 lots.length c6], .agg #[.int .i64 L, .int .i64 U, .int .i64 R, .slice B3 holds.length d3, .int .i64 V, .slice B5 sills.length d5, .slice B6 lots.length d6]] w fun e w' => e = .returned (.bool true) ∧ Below w.heap.size w w' := by
 have hu26 := Try.underlying26
 have hu59 := Try.underlying59
 have hu56 := Try.underlying56
 have HX := Aside0.mk hx
 have HY := Aside0.mk hy
 have hs1 := hs.1
 have HSL := Aside0.mk hs.2
 clear hx hy hs
 go_enter Try.func25, Try.ntmps25
 go_upto_region 1 with (first | (refine box_r (N := 2) rfl (cs := #[.int .i64 L, .int .i64 U, .int .i64 R, .slice A3 holds.length c3, .int .i64 V, .slice A5 sills.length c5, .slice A6 lots.length c6]) (t := 26) ?_; intro g2 hg w2 hbox hb2; have BK := Aside0.mk hbox; have HB := Aside0.mk hb2; have G2 := Aside0.mk hg; clear hg hbox hb2) | (refine box_r (N := 3) rfl (cs := #[.int .i64 L, .int .i64 U, .int .i64 R, .slice B3 holds.length d3, .int .i64 V, .slice B5 sills.length d5, .slice B6 lots.length d6]) (t := 26) ?_; intro g3 hg w3 hbox hb2; have BL := Aside0.mk hbox; replace BK := Aside0.mk (blk_below BK.out hb2); replace HB := Aside0.mk (below_step HB.out hb2); clear hg hbox hb2))
 have hz0_ := (blk_cell BK.out 0).trans rfl
 have hz1_ := (blk_cell BK.out 1).trans rfl
 have hz2_ := (blk_cell BK.out 2).trans rfl
 have hz3_ := (blk_cell BK.out 3).trans rfl
 have hz4_ := (blk_cell BK.out 4).trans rfl
 have hz5_ := (blk_cell BK.out 5).trans rfl
 have hz6_ := (blk_cell BK.out 6).trans rfl
 have hy0_ := (blk_cell BL.out 0).trans rfl
 have hy1_ := (blk_cell BL.out 1).trans rfl
 have hy2_ := (blk_cell BL.out 2).trans rfl
 have hy3_ := (blk_cell BL.out 3).trans rfl
 have hy4_ := (blk_cell BL.out 4).trans rfl
 have hy5_ := (blk_cell BL.out 5).trans rfl
 have hy6_ := (blk_cell BL.out 6).trans rfl
 go_upto_region 2 with (fail)
 clear hz0_ hz1_ hz2_ hz3_ hz4_ hz5_ hz6_ hy0_ hy1_ hy2_ hy3_ hy4_ hy5_ hy6_
 go_wp2
 go_loopg [5, 6] holds.length (fun gk v5 v6 wr => ∃ k : Nat, k ≤ holds.length ∧ holds.length - k ≤ gk ∧ v5 = .bool true ∧ v6 = .int .i64 k ∧ Aside0 (wr.heap[g2]? = some (.cells #[.int .i64 L, .int .i64 U, .int .i64 R, .slice A3 holds.length c3, .int .i64 V, .slice A5 sills.length c5, .slice A6 lots.length c6] 26 (0, 0))) ∧ Aside0 (wr.heap[g3]? = some (.cells #[.int .i64 L, .int .i64 U, .int .i64 R, .slice B3 holds.length d3, .int .i64 V, .slice B5 sills.length d5, .slice B6 lots.length d6] 26 (0, 0))) ∧ Aside0 (Below w.heap.size w wr))
 case atStart => exact ⟨0, by omega, by omega, rfl, rfl, BK, BL, HB⟩
 case round =>
  clear BK BL HB; obtain ⟨k, hk, hgk, rfl, rfl, BK, BL, HB⟩ := hrel; by_cases hlt : k < holds.length
  ·
   (have hlz : (k : Int) < (holds.length : Int) := by omega); have hz_ := (blk_cell BK.out 3).trans rfl; have hy_ := (blk_cell BL.out 3).trans rfl
   go_upto_region 5 with (fail)
   clear hz_ hy_; have hd_ := below_drew1 (Below.refl wr.heap.size wr); replace BK := Aside0.mk (blk_below BK.out hd_); replace BL := Aside0.mk (blk_below BL.out hd_); replace HB := Aside0.mk (below_step HB.out hd_); clear hd_; obtain ⟨ad, e1_, p0, p1, p2⟩ := at_T85 (HX.out.below HB.out).h (k : Int) (by omega) hlz; obtain ⟨bd, e2_, r0, r1, r2⟩ := at_T85 (HY.out.below HB.out).h (k : Int) (by omega) hlz; (cases e1_); (cases e2_); rw [Int.toNat_natCast] at p0 p1 p2 r0 r1 r2; refine start_ (n := 12) (S := fun w' => w'.cell? ⟨g2, 3, none⟩ = some (.slice (some ad) holds.length c3) ∧ w'.cell? ⟨g3, 3, none⟩ = some (.slice (some bd) holds.length d3) ∧ w'.cell? (ad.add (k * 3)) = some (.int .i64 (rd_T85 holds (k : Int)).f0) ∧ w'.cell? ⟨(ad.add (k * 3)).block, (ad.add (k * 3)).off + 1, none⟩ = some (.int .i64 (rd_T85 holds (k : Int)).f1) ∧ w'.cell? ⟨(ad.add (k * 3)).block, (ad.add (k * 3)).off + 2, none⟩ = some (.int .i64 (rd_T85 holds (k : Int)).f2) ∧ w'.cell? (bd.add (k * 3)) = some (.int .i64 (rd_T85 holds (k : Int)).f0) ∧ w'.cell? ⟨(bd.add (k * 3)).block, (bd.add (k * 3)).off + 1, none⟩ = some (.int .i64 (rd_T85 holds (k : Int)).f1) ∧ w'.cell? ⟨(bd.add (k * 3)).block, (bd.add (k * 3)).off + 2, none⟩ = some (.int .i64 (rd_T85 holds (k : Int)).f2)) (ds := []) #[false, false, false, false, false, false, false, false, false, false, false, false] (by kernel_rfl) rfl rfl ⟨(blk_cell BK.out 3).trans rfl, (blk_cell BL.out 3).trans rfl, p0, p1, p2, r0, r1, r2⟩ (fun hHeld => ?_); generalize wr.drew = wd at BK BL HB hHeld ⊢; refine pure_y 0 (some 75) (bz 12 1) ?_; refine pure_y 2 (some 77) (bz 12 5) ?_; refine pure_y 5 (some 80) (bz 12 37) ?_; refine pure_y 7 (some 82) (bz 12 165) ?_; refine take_y 1 (some 76) (bz 12 167) hHeld ?_; refine pure_y 3 (some 78) (bz 12 175) ?_; refine take_y 4 (some 79) (bz 12 191) hHeld ?_; refine take_y 6 (some 81) (bz 12 255) hHeld ?_; refine pure_y 8 (some 83) (bz 12 511) ?_; refine take_y 9 (some 84) (bz 12 1023) hHeld ?_; refine pure_y 10 (some 85) (bz 12 2047) ?_; refine pure_y 11 (some 5) (bz 12 4095) ?_; refine done_ (by kernel_rfl) ?_; clear hHeld p0 r0 p1 r1 p2 r2; go_wp2; go_roundg (holds.length - (k + 1))
   case measure => omega
   case rel => exact ⟨k + 1, by omega, by omega, rfl, by go_num, BK, BL, HB⟩
  ·
   (have : k = holds.length := by omega); subst this; have hz_ := (blk_cell BK.out 3).trans rfl; have hy_ := (blk_cell BL.out 3).trans rfl
   go_upto_region 6 with (fail)
   clear hz_ hy_; go_wp2
   go_loopg [5, 7] lots.length (fun gk v5 v6 wr => ∃ k : Nat, k ≤ lots.length ∧ lots.length - k ≤ gk ∧ v5 = .bool true ∧ v6 = .int .i64 k ∧ Aside0 (wr.heap[g2]? = some (.cells #[.int .i64 L, .int .i64 U, .int .i64 R, .slice A3 holds.length c3, .int .i64 V, .slice A5 sills.length c5, .slice A6 lots.length c6] 26 (0, 0))) ∧ Aside0 (wr.heap[g3]? = some (.cells #[.int .i64 L, .int .i64 U, .int .i64 R, .slice B3 holds.length d3, .int .i64 V, .slice B5 sills.length d5, .slice B6 lots.length d6] 26 (0, 0))) ∧ Aside0 (Below w.heap.size w wr))
   case atStart => exact ⟨0, by omega, by omega, rfl, rfl, BK, BL, HB⟩
   case round =>
    clear BK BL HB; obtain ⟨k, hk, hgk, rfl, rfl, BK, BL, HB⟩ := hrel; by_cases hlt : k < lots.length
    ·
     (have hlz : (k : Int) < (lots.length : Int) := by omega); have hz_ := (blk_cell BK.out 6).trans rfl; have hy_ := (blk_cell BL.out 6).trans rfl
     go_upto_region 9 with (fail)
     clear hz_ hy_; have hd_ := below_drew1 (Below.refl wr.heap.size wr); replace BK := Aside0.mk (blk_below BK.out hd_); replace BL := Aside0.mk (blk_below BL.out hd_); replace HB := Aside0.mk (below_step HB.out hd_); clear hd_; obtain ⟨ad, e1_, p0, p1, p2⟩ := at_T79 (HX.out.below HB.out).l (k : Int) (by omega) hlz; obtain ⟨bd, e2_, r0, r1, r2⟩ := at_T79 (HY.out.below HB.out).l (k : Int) (by omega) hlz; (cases e1_); (cases e2_); rw [Int.toNat_natCast] at p0 p1 p2 r0 r1 r2; refine start_ (n := 12) (S := fun w' => w'.cell? ⟨g2, 6, none⟩ = some (.slice (some ad) lots.length c6) ∧ w'.cell? ⟨g3, 6, none⟩ = some (.slice (some bd) lots.length d6) ∧ w'.cell? (ad.add (k * 3)) = some (.int .i64 (rd_T79 lots (k : Int)).f0.f0) ∧ w'.cell? ⟨(ad.add (k * 3)).block, (ad.add (k * 3)).off + 1, none⟩ = some (.int .i64 (rd_T79 lots (k : Int)).f0.f1) ∧ w'.cell? ⟨(ad.add (k * 3)).block, (ad.add (k * 3)).off + 2, none⟩ = some (.int .i64 (rd_T79 lots (k : Int)).f1) ∧ w'.cell? (bd.add (k * 3)) = some (.int .i64 (rd_T79 lots (k : Int)).f0.f0) ∧ w'.cell? ⟨(bd.add (k * 3)).block, (bd.add (k * 3)).off + 1, none⟩ = some (.int .i64 (rd_T79 lots (k : Int)).f0.f1) ∧ w'.cell? ⟨(bd.add (k * 3)).block, (bd.add (k * 3)).off + 2, none⟩ = some (.int .i64 (rd_T79 lots (k : Int)).f1)) (ds := []) #[false, false, false, false, false, false, false, false, false, false, false, false] (by kernel_rfl) rfl rfl ⟨(blk_cell BK.out 6).trans rfl, (blk_cell BL.out 6).trans rfl, p0, p1, p2, r0, r1, r2⟩ (fun hHeld => ?_); generalize wr.drew = wd at BK BL HB hHeld ⊢; refine pure_y 0 (some 96) (bz 12 1) ?_; refine pure_y 2 (some 98) (bz 12 5) ?_; refine pure_y 5 (some 101) (bz 12 37) ?_; refine pure_y 7 (some 103) (bz 12 165) ?_; refine take_y 1 (some 97) (bz 12 167) hHeld ?_; refine pure_y 3 (some 99) (bz 12 175) ?_; refine take_y 4 (some 100) (bz 12 191) hHeld ?_; refine take_y 6 (some 102) (bz 12 255) hHeld ?_; refine pure_y 8 (some 104) (bz 12 511) ?_; refine take_y 9 (some 105) (bz 12 1023) hHeld ?_; refine pure_y 10 (some 106) (bz 12 2047) ?_; refine pure_y 11 (some 5) (bz 12 4095) ?_; refine done_ (by kernel_rfl) ?_; clear hHeld p0 r0 p1 r1 p2 r2; go_wp2; go_roundg (lots.length - (k + 1))
     case measure => omega
     case rel => exact ⟨k + 1, by omega, by omega, rfl, by go_num, BK, BL, HB⟩
    ·
     (have : k = lots.length := by omega); subst this; have hz_ := (blk_cell BK.out 6).trans rfl; have hy_ := (blk_cell BL.out 6).trans rfl
     go_upto_region 10 with (fail)
     clear hz_ hy_; go_wp2
     go_loopg [5, 8] sills.length (fun gk v5 v8 wr => ∃ k : Nat, k ≤ sills.length ∧ sills.length - k ≤ gk ∧ v5 = .bool true ∧ v8 = .int .i64 k ∧ Aside0 (wr.heap[g2]? = some (.cells #[.int .i64 L, .int .i64 U, .int .i64 R, .slice A3 holds.length c3, .int .i64 V, .slice A5 sills.length c5, .slice A6 lots.length c6] 26 (0, 0))) ∧ Aside0 (wr.heap[g3]? = some (.cells #[.int .i64 L, .int .i64 U, .int .i64 R, .slice B3 holds.length d3, .int .i64 V, .slice B5 sills.length d5, .slice B6 lots.length d6] 26 (0, 0))) ∧ Aside0 (Below w.heap.size w wr))
     case atStart => exact ⟨0, by omega, by omega, rfl, rfl, BK, BL, HB⟩
     case round =>
      clear BK BL HB; obtain ⟨k, hk, hgk, rfl, rfl, BK, BL, HB⟩ := hrel; by_cases hlt : k < sills.length
      ·
       (have hlz : (k : Int) < (sills.length : Int) := by omega); have hln := HSL.out _ (getD_mem25_ sills k z59 hlt); have hz_ := (blk_cell BK.out 5).trans rfl; have hy_ := (blk_cell BL.out 5).trans rfl
       go_upto_region 13 with (fail)
       clear hz_ hy_; have hd_ := below_drew1 (Below.refl wr.heap.size wr); replace BK := Aside0.mk (blk_below BK.out hd_); replace BL := Aside0.mk (blk_below BL.out hd_); replace HB := Aside0.mk (below_step HB.out hd_); clear hd_; obtain ⟨ad, A2, c2, e1_, p0, p1, p2, pl, pc⟩ := at_T59 HX.out.s (k : Int) (by omega) hlz; obtain ⟨bd, B2, d2, e2_, r0, r1, r2, rl, rc⟩ := at_T59 HY.out.s (k : Int) (by omega) hlz; (cases e1_); (cases e2_); rw [Int.toNat_natCast] at p0 p1 p2 r0 r1 r2; rw [show rd_T59 sills (k : Int) = sills.getD k z59 from by simp [rd_T59]] at p0 p1 p2 pl pc r0 r1 r2 rl rc; generalize sills.getD k z59 = sl at *; have P0 := Aside0.mk p0; have P1 := Aside0.mk p1; have P2 := Aside0.mk p2; have R0 := Aside0.mk r0; have R1 := Aside0.mk r1; have R2 := Aside0.mk r2; have PC := Aside0.mk pc; have RC := Aside0.mk rc; clear p0 p1 p2 r0 r1 r2 pc rc; refine start_ (n := 14) (S := fun w' => w'.cell? ⟨g2, 5, none⟩ = some (.slice (some ad) sills.length c5) ∧ w'.cell? ⟨g3, 5, none⟩ = some (.slice (some bd) sills.length d5) ∧ w'.cell? (ad.add (k * 3)) = some (.int .i64 sl.f0.f0) ∧ w'.cell? ⟨(ad.add (k * 3)).block, (ad.add (k * 3)).off + 1, none⟩ = some (.int .i64 sl.f0.f1) ∧ w'.cell? ⟨(ad.add (k * 3)).block, (ad.add (k * 3)).off + 2, none⟩ = some (.slice A2 sl.f1.length c2) ∧ w'.cell? (bd.add (k * 3)) = some (.int .i64 sl.f0.f0) ∧ w'.cell? ⟨(bd.add (k * 3)).block, (bd.add (k * 3)).off + 1, none⟩ = some (.int .i64 sl.f0.f1) ∧ w'.cell? ⟨(bd.add (k * 3)).block, (bd.add (k * 3)).off + 2, none⟩ = some (.slice B2 sl.f1.length d2)) (ds := [13]) #[false, false, false, false, false, false, false, false, false, false, false, false, false, false] (by kernel_rfl) rfl rfl ⟨(blk_cell BK.out 5).trans rfl, (blk_cell BL.out 5).trans rfl, cb_y HB.out P0.out, cb_y HB.out P1.out, cb_y HB.out P2.out, cb_y HB.out R0.out, cb_y HB.out R1.out, cb_y HB.out R2.out⟩ (fun hHeld => ?_); generalize wr.drew = wd at BK BL HB hHeld ⊢; refine pure_y 0 (some 117) (bz 14 1) ?_; refine pure_y 2 (some 119) (bz 14 5) ?_; refine pure_y 5 (some 122) (bz 14 37) ?_; refine pure_y 7 (some 124) (bz 14 165) ?_; refine take_y 1 (some 118) (bz 14 167) hHeld ?_; refine pure_y 3 (some 120) (bz 14 175) ?_; refine take_y 4 (some 121) (bz 14 191) hHeld ?_; refine take_y 6 (some 123) (bz 14 255) hHeld ?_; refine pure_y 8 (some 125) (bz 14 511) ?_; refine take_y 9 (some 126) (bz 14 1023) hHeld ?_; refine join_ (σ := Nat × Nat) 2 (bz 14 4095) (fun s_ => [(9, .pointer (some ⟨s_.1, 0, none⟩)), (10, .pointer (some ⟨s_.2, 0, none⟩))]) (fun s_ w' => (w'.cell? ⟨g2, 5, none⟩ = some (.slice (some ad) sills.length c5) ∧ w'.cell? ⟨g3, 5, none⟩ = some (.slice (some bd) sills.length d5) ∧ w'.cell? (ad.add (k * 3)) = some (.int .i64 sl.f0.f0) ∧ w'.cell? ⟨(ad.add (k * 3)).block, (ad.add (k * 3)).off + 1, none⟩ = some (.int .i64 sl.f0.f1) ∧ w'.cell? ⟨(ad.add (k * 3)).block, (ad.add (k * 3)).off + 2, none⟩ = some (.slice A2 sl.f1.length c2) ∧ w'.cell? (bd.add (k * 3)) = some (.int .i64 sl.f0.f0) ∧ w'.cell? ⟨(bd.add (k * 3)).block, (bd.add (k * 3)).off + 1, none⟩ = some (.int .i64 sl.f0.f1) ∧ w'.cell? ⟨(bd.add (k * 3)).block, (bd.add (k * 3)).off + 2, none⟩ = some (.slice B2 sl.f1.length d2)) ∧ Aside0 (w'.heap[g2]? = some (.cells #[.int .i64 L, .int .i64 U, .int .i64 R, .slice A3 holds.length c3, .int .i64 V, .slice (some ad) sills.length c5, .slice A6 lots.length c6] 26 (0, 0))) ∧ Aside0 (w'.heap[g3]? = some (.cells #[.int .i64 L, .int .i64 U, .int .i64 R, .slice B3 holds.length d3, .int .i64 V, .slice (some bd) sills.length d5, .slice B6 lots.length d6] 26 (0, 0))) ∧ Aside0 (w'.heap[s_.1]? = some (.cells #[.int .i64 0, .int .i64 0, .slice none 0 0] 59 (0, 0))) ∧ Aside0 (w'.heap[s_.2]? = some (.cells #[.int .i64 0, .int .i64 0, .slice none 0 0] 59 (0, 0))) ∧ w.heap.size ≤ s_.1 ∧ w.heap.size ≤ s_.2 ∧ s_.1 ≠ s_.2 ∧ Aside0 (Below w.heap.size w w')) ?_ ?_; rotate_left
       ·
        intro hCont; refine two_ (i := 10) (j := 11) (Ni := some 9) (Nj := some 10) (bz 14 2047) (bz 14 3071) rfl rfl rfl rfl (by kernel_rfl) (by decide) (by decide) (fun K hK => ?_) (fun K hK => ?_)
        ·
         skip
         refine value_ (w1 := ?_) (v := ?_) (by rfl) rfl ?_ ?_; rotate_left 2
         ·
          go_simp
          constructor
          ·
           rfl
          ·
           rfl
         obtain ⟨g9, hg_⟩ : ∃ b, b = wd.heap.size := ⟨_, rfl⟩; (have GEg9 : w.heap.size ≤ g9 := by rw [hg_]; exact HB.out.size); have B9 := Aside0.mk (blk_new wd (.cells #[.int .i64 0, .int .i64 0, .slice none 0 0] 59 (0, 0))); have hb10_ : Below wd.heap.size wd (wd.alloc (.cells #[.int .i64 0, .int .i64 0, .slice none 0 0] 59 (0, 0))) := below_alloc (Below.refl _ _) _; generalize hw_ : wd.alloc (.cells #[.int .i64 0, .int .i64 0, .slice none 0 0] 59 (0, 0)) = wp10 at *; rw [← hg_] at B9 ⊢; replace BK := Aside0.mk (blk_below BK.out hb10_); replace BL := Aside0.mk (blk_below BL.out hb10_); replace HB := Aside0.mk (below_step HB.out hb10_); clear hw_ hg_; refine hK.out _ _ ⟨(blk_cell BK.out 5).trans rfl, (blk_cell BL.out 5).trans rfl, cb_y HB.out P0.out, cb_y HB.out P1.out, cb_y HB.out P2.out, cb_y HB.out R0.out, cb_y HB.out R1.out, cb_y HB.out R2.out⟩ (fun hHeld => ?_); clear hK K; refine norm_y (some 9) ?_; (refine one_y 11 (some 10) (bz 14 4095) fun K hK => ?_); refine value_ (w1 := ?_) (v := ?_) (by rfl) rfl ?_ ?_; rotate_left 2
         ·
          go_simp
          constructor
          ·
           rfl
          ·
           rfl
         obtain ⟨g10, hg_⟩ : ∃ b, b = wp10.heap.size := ⟨_, rfl⟩; (have GEg10 : w.heap.size ≤ g10 := by rw [hg_]; exact HB.out.size); (have N910 : g9 ≠ g10 := by have := blk_lt B9.out; rw [hg_]; omega); have B10 := Aside0.mk (blk_new wp10 (.cells #[.int .i64 0, .int .i64 0, .slice none 0 0] 59 (0, 0))); have hb11_ : Below wp10.heap.size wp10 (wp10.alloc (.cells #[.int .i64 0, .int .i64 0, .slice none 0 0] 59 (0, 0))) := below_alloc (Below.refl _ _) _; generalize hw_ : wp10.alloc (.cells #[.int .i64 0, .int .i64 0, .slice none 0 0] 59 (0, 0)) = wp10_11 at *; rw [← hg_] at B10 ⊢; replace BK := Aside0.mk (blk_below BK.out hb11_); replace BL := Aside0.mk (blk_below BL.out hb11_); replace B9 := Aside0.mk (blk_below B9.out hb11_); replace HB := Aside0.mk (below_step HB.out hb11_); clear hw_ hg_; refine hK.out _ _ ⟨(blk_cell BK.out 5).trans rfl, (blk_cell BL.out 5).trans rfl, cb_y HB.out P0.out, cb_y HB.out P1.out, cb_y HB.out P2.out, cb_y HB.out R0.out, cb_y HB.out R1.out, cb_y HB.out R2.out⟩ (fun hHeld => ?_); clear hK K; refine norm_y (some 10) ?_; exact norm_ (by simp only [putAll, Act.put, put_x]) (hCont (g9, g10) _ ⟨hHeld, BK, BL, B9, B10, GEg9, GEg10, N910, HB⟩)
        ·
         skip
         refine value_ (w1 := ?_) (v := ?_) (by rfl) rfl ?_ ?_; rotate_left 2
         ·
          go_simp
          constructor
          ·
           rfl
          ·
           rfl
         obtain ⟨g10, hg_⟩ : ∃ b, b = wd.heap.size := ⟨_, rfl⟩; (have GEg10 : w.heap.size ≤ g10 := by rw [hg_]; exact HB.out.size); have B10 := Aside0.mk (blk_new wd (.cells #[.int .i64 0, .int .i64 0, .slice none 0 0] 59 (0, 0))); have hb11_ : Below wd.heap.size wd (wd.alloc (.cells #[.int .i64 0, .int .i64 0, .slice none 0 0] 59 (0, 0))) := below_alloc (Below.refl _ _) _; generalize hw_ : wd.alloc (.cells #[.int .i64 0, .int .i64 0, .slice none 0 0] 59 (0, 0)) = wp11 at *; rw [← hg_] at B10 ⊢; replace BK := Aside0.mk (blk_below BK.out hb11_); replace BL := Aside0.mk (blk_below BL.out hb11_); replace HB := Aside0.mk (below_step HB.out hb11_); clear hw_ hg_; refine hK.out _ _ ⟨(blk_cell BK.out 5).trans rfl, (blk_cell BL.out 5).trans rfl, cb_y HB.out P0.out, cb_y HB.out P1.out, cb_y HB.out P2.out, cb_y HB.out R0.out, cb_y HB.out R1.out, cb_y HB.out R2.out⟩ (fun hHeld => ?_); clear hK K; refine norm_y (some 10) ?_; (refine one_y 10 (some 9) (bz 14 4095) fun K hK => ?_); refine value_ (w1 := ?_) (v := ?_) (by rfl) rfl ?_ ?_; rotate_left 2
         ·
          go_simp
          constructor
          ·
           rfl
          ·
           rfl
         obtain ⟨g9, hg_⟩ : ∃ b, b = wp11.heap.size := ⟨_, rfl⟩; (have GEg9 : w.heap.size ≤ g9 := by rw [hg_]; exact HB.out.size); (have N910 : g9 ≠ g10 := by have := blk_lt B10.out; rw [hg_]; omega); have B9 := Aside0.mk (blk_new wp11 (.cells #[.int .i64 0, .int .i64 0, .slice none 0 0] 59 (0, 0))); have hb10_ : Below wp11.heap.size wp11 (wp11.alloc (.cells #[.int .i64 0, .int .i64 0, .slice none 0 0] 59 (0, 0))) := below_alloc (Below.refl _ _) _; generalize hw_ : wp11.alloc (.cells #[.int .i64 0, .int .i64 0, .slice none 0 0] 59 (0, 0)) = wp11_10 at *; rw [← hg_] at B9 ⊢; replace BK := Aside0.mk (blk_below BK.out hb10_); replace BL := Aside0.mk (blk_below BL.out hb10_); replace B10 := Aside0.mk (blk_below B10.out hb10_); replace HB := Aside0.mk (below_step HB.out hb10_); clear hw_ hg_; refine hK.out _ _ ⟨(blk_cell BK.out 5).trans rfl, (blk_cell BL.out 5).trans rfl, cb_y HB.out P0.out, cb_y HB.out P1.out, cb_y HB.out P2.out, cb_y HB.out R0.out, cb_y HB.out R1.out, cb_y HB.out R2.out⟩ (fun hHeld => ?_); clear hK K; refine norm_y (some 9) ?_; exact norm_ (by simp only [putAll, Act.put, put_x]) (hCont (g9, g10) _ ⟨hHeld, BK, BL, B9, B10, GEg9, GEg10, N910, HB⟩)
       clear BK BL HB; rintro ⟨g9, g10⟩ wk ⟨hHeld, BK, BL, B9, B10, GEg9, GEg10, N910, HB⟩; refine norm_ (a' := ?_) ?_ ?_; rotate_left
       ·
        simp only [putAll, Act.put, put_x]; rfl
       (refine one_y 12 (none) (bz 14 8191) fun K hK => ?_); have hz0_ := (blk_cell B9.out 0).trans rfl; have hz1_ := (blk_cell B9.out 1).trans rfl; have hz2_ := (blk_cell B9.out 2).trans rfl; have hf0_ := blk_frozen B9.out 0; have hf1_ := blk_frozen B9.out 1; have hf2_ := blk_frozen B9.out 2; refine skip_ (w1 := ?_) (by rfl) rfl ?_ ?_; rotate_left; (go_simp; rfl); clear hz0_ hz1_ hz2_ hf0_ hf1_ hf2_; replace BK := Aside0.mk (blk_far BK.out (p := ⟨g9, 0, none⟩) (blk_ne_ BK.out B9.out (by decide)) (.int .i64 sl.f0.f0)); replace BL := Aside0.mk (blk_far BL.out (p := ⟨g9, 0, none⟩) (blk_ne_ BL.out B9.out (by decide)) (.int .i64 sl.f0.f0)); replace B10 := Aside0.mk (blk_far B10.out (p := ⟨g9, 0, none⟩) N910.symm (.int .i64 sl.f0.f0)); replace HB := Aside0.mk (below_set (g := g9) (j := 0) (v := .int .i64 sl.f0.f0) HB.out GEg9); have B9n := Aside0.mk (blk_set B9.out 0 (.int .i64 sl.f0.f0)); clear B9; have B9 := B9n; clear B9n; replace BK := Aside0.mk (blk_far BK.out (p := ⟨g9, 1, none⟩) (blk_ne_ BK.out B9.out (by decide)) (.int .i64 sl.f0.f1)); replace BL := Aside0.mk (blk_far BL.out (p := ⟨g9, 1, none⟩) (blk_ne_ BL.out B9.out (by decide)) (.int .i64 sl.f0.f1)); replace B10 := Aside0.mk (blk_far B10.out (p := ⟨g9, 1, none⟩) N910.symm (.int .i64 sl.f0.f1)); replace HB := Aside0.mk (below_set (g := g9) (j := 1) (v := .int .i64 sl.f0.f1) HB.out GEg9); have B9n := Aside0.mk (blk_set B9.out 1 (.int .i64 sl.f0.f1)); clear B9; have B9 := B9n; clear B9n; replace BK := Aside0.mk (blk_far BK.out (p := ⟨g9, 2, none⟩) (blk_ne_ BK.out B9.out (by decide)) (.slice A2 sl.f1.length c2)); replace BL := Aside0.mk (blk_far BL.out (p := ⟨g9, 2, none⟩) (blk_ne_ BL.out B9.out (by decide)) (.slice A2 sl.f1.length c2)); replace B10 := Aside0.mk (blk_far B10.out (p := ⟨g9, 2, none⟩) N910.symm (.slice A2 sl.f1.length c2)); replace HB := Aside0.mk (below_set (g := g9) (j := 2) (v := .slice A2 sl.f1.length c2) HB.out GEg9); have B9n := Aside0.mk (blk_put (cs' := #[.int .i64 sl.f0.f0, .int .i64 sl.f0.f1, .slice A2 sl.f1.length c2]) B9.out 2 (.slice A2 sl.f1.length c2) rfl); clear B9; have B9 := B9n; clear B9n; generalize hw_ : ((wk.setCell ⟨g9, 0, none⟩ (.int .i64 sl.f0.f0)).setCell ⟨g9, 1, none⟩ (.int .i64 sl.f0.f1)).setCell ⟨g9, 2, none⟩ (.slice A2 sl.f1.length c2) = w7 at *; clear hw_; refine hK.out _ _ ⟨(blk_cell BK.out 5).trans rfl, (blk_cell BL.out 5).trans rfl, cb_y HB.out P0.out, cb_y HB.out P1.out, cb_y HB.out P2.out, cb_y HB.out R0.out, cb_y HB.out R1.out, cb_y HB.out R2.out⟩ (fun hHeld => ?_); clear hK K; refine last_ (i := 13) (N := none) (bz 14 16383) rfl rfl (by kernel_rfl) (by decide) (fun K hK => ?_); have hz0_ := (blk_cell B10.out 0).trans rfl; have hf0_ := blk_frozen B10.out 0; have hz1_ := (blk_cell B10.out 1).trans rfl; have hf1_ := blk_frozen B10.out 1; have hz2_ := (blk_cell B10.out 2).trans rfl; have hf2_ := blk_frozen B10.out 2; refine skip_ (w1 := ?_) (by rfl) rfl ?_ ?_; rotate_left; (go_simp; rfl); refine hK.out _ _ ?_; clear hK K; refine done_ (by kernel_rfl) ?_; clear hHeld hz0_ hf0_ hz1_ hf1_ hz2_ hf2_; replace BK := Aside0.mk (blk_far BK.out (p := ⟨g10, 0, none⟩) (blk_ne_ BK.out B10.out (by decide)) (.int .i64 sl.f0.f0)); replace BL := Aside0.mk (blk_far BL.out (p := ⟨g10, 0, none⟩) (blk_ne_ BL.out B10.out (by decide)) (.int .i64 sl.f0.f0)); replace B9 := Aside0.mk (blk_far B9.out (p := ⟨g10, 0, none⟩) N910 (.int .i64 sl.f0.f0)); replace HB := Aside0.mk (below_set (g := g10) (j := 0) (v := .int .i64 sl.f0.f0) HB.out GEg10); have B10n := Aside0.mk (blk_set B10.out 0 (.int .i64 sl.f0.f0)); clear B10; have B10 := B10n; clear B10n; replace BK := Aside0.mk (blk_far BK.out (p := ⟨g10, 1, none⟩) (blk_ne_ BK.out B10.out (by decide)) (.int .i64 sl.f0.f1)); replace BL := Aside0.mk (blk_far BL.out (p := ⟨g10, 1, none⟩) (blk_ne_ BL.out B10.out (by decide)) (.int .i64 sl.f0.f1)); replace B9 := Aside0.mk (blk_far B9.out (p := ⟨g10, 1, none⟩) N910 (.int .i64 sl.f0.f1)); replace HB := Aside0.mk (below_set (g := g10) (j := 1) (v := .int .i64 sl.f0.f1) HB.out GEg10); have B10n := Aside0.mk (blk_set B10.out 1 (.int .i64 sl.f0.f1)); clear B10; have B10 := B10n; clear B10n; replace BK := Aside0.mk (blk_far BK.out (p := ⟨g10, 2, none⟩) (blk_ne_ BK.out B10.out (by decide)) (.slice B2 sl.f1.length d2)); replace BL := Aside0.mk (blk_far BL.out (p := ⟨g10, 2, none⟩) (blk_ne_ BL.out B10.out (by decide)) (.slice B2 sl.f1.length d2)); replace B9 := Aside0.mk (blk_far B9.out (p := ⟨g10, 2, none⟩) N910 (.slice B2 sl.f1.length d2)); replace HB := Aside0.mk (below_set (g := g10) (j := 2) (v := .slice B2 sl.f1.length d2) HB.out GEg10); have B10n := Aside0.mk (blk_put (cs' := #[.int .i64 sl.f0.f0, .int .i64 sl.f0.f1, .slice B2 sl.f1.length d2]) B10.out 2 (.slice B2 sl.f1.length d2) rfl); clear B10; have B10 := B10n; clear B10n; generalize hw_ : ((w7.setCell ⟨g10, 0, none⟩ (.int .i64 sl.f0.f0)).setCell ⟨g10, 1, none⟩ (.int .i64 sl.f0.f1)).setCell ⟨g10, 2, none⟩ (.slice B2 sl.f1.length d2) = w8 at *; clear hw_; have hz0_ := (blk_cell B9.out 0).trans rfl; have hy0_ := (blk_cell B10.out 0).trans rfl; have hz1_ := (blk_cell B9.out 1).trans rfl; have hy1_ := (blk_cell B10.out 1).trans rfl; have hz2_ := (blk_cell B9.out 2).trans rfl; have hy2_ := (blk_cell B10.out 2).trans rfl
       go_upto_region 15 with (fail)
       clear hz0_ hz1_ hz2_ hy0_ hy1_ hy2_; go_wp2
       go_loopg [5, 11] sl.f1.length (fun gk v5 v11 wr => ∃ j : Nat, j ≤ sl.f1.length ∧ sl.f1.length - j ≤ gk ∧ v5 = .bool true ∧ v11 = .int .i64 j ∧ Aside0 (wr.heap[g2]? = some (.cells #[.int .i64 L, .int .i64 U, .int .i64 R, .slice A3 holds.length c3, .int .i64 V, .slice (some ad) sills.length c5, .slice A6 lots.length c6] 26 (0, 0))) ∧ Aside0 (wr.heap[g3]? = some (.cells #[.int .i64 L, .int .i64 U, .int .i64 R, .slice B3 holds.length d3, .int .i64 V, .slice (some bd) sills.length d5, .slice B6 lots.length d6] 26 (0, 0))) ∧ Aside0 (Below w.heap.size w wr) ∧ Aside0 (wr.heap[g9]? = some (.cells #[.int .i64 sl.f0.f0, .int .i64 sl.f0.f1, .slice A2 sl.f1.length c2] 59 (0, 0))) ∧ Aside0 (wr.heap[g10]? = some (.cells #[.int .i64 sl.f0.f0, .int .i64 sl.f0.f1, .slice B2 sl.f1.length d2] 59 (0, 0))))
       case atStart => exact ⟨0, by omega, by omega, rfl, rfl, BK, BL, HB, B9, B10⟩
       case round =>
        clear BK BL HB B9 B10; obtain ⟨j, hj, hgj, rfl, rfl, BK, BL, HB, B9, B10⟩ := hrel; by_cases hjl : j < sl.f1.length
        ·
         (have hjz : (j : Int) < (sl.f1.length : Int) := by omega); have hz_ := (blk_cell B9.out 2).trans rfl; have hy_ := (blk_cell B10.out 2).trans rfl
         go_upto_region 18 with (fail)
         clear hz_ hy_; have hd_ := below_drew1 (Below.refl wr.heap.size wr); replace BK := Aside0.mk (blk_below BK.out hd_); replace BL := Aside0.mk (blk_below BL.out hd_); replace B9 := Aside0.mk (blk_below B9.out hd_); replace B10 := Aside0.mk (blk_below B10.out hd_); replace HB := Aside0.mk (below_step HB.out hd_); clear hd_; obtain ⟨ae, e1_, p0, p1, p2⟩ := at_T62 (Kd.C_below PC.out HB.out) (j : Int) (by omega) hjz; obtain ⟨be, e2_, r0, r1, r2⟩ := at_T62 (Kd.C_below RC.out HB.out) (j : Int) (by omega) hjz; (cases e1_); (cases e2_); rw [Int.toNat_natCast] at p0 p1 p2 r0 r1 r2; refine start_ (n := 12) (S := fun w' => w'.cell? ⟨g9, 2, none⟩ = some (.slice (some ae) sl.f1.length c2) ∧ w'.cell? ⟨g10, 2, none⟩ = some (.slice (some be) sl.f1.length d2) ∧ w'.cell? (ae.add (j * 3)) = some (.int .i64 (rd_T62 sl.f1 (j : Int)).f0) ∧ w'.cell? ⟨(ae.add (j * 3)).block, (ae.add (j * 3)).off + 1, none⟩ = some (.int .i64 (rd_T62 sl.f1 (j : Int)).f1.f0) ∧ w'.cell? ⟨(ae.add (j * 3)).block, (ae.add (j * 3)).off + 2, none⟩ = some (.int .i64 (rd_T62 sl.f1 (j : Int)).f1.f1) ∧ w'.cell? (be.add (j * 3)) = some (.int .i64 (rd_T62 sl.f1 (j : Int)).f0) ∧ w'.cell? ⟨(be.add (j * 3)).block, (be.add (j * 3)).off + 1, none⟩ = some (.int .i64 (rd_T62 sl.f1 (j : Int)).f1.f0) ∧ w'.cell? ⟨(be.add (j * 3)).block, (be.add (j * 3)).off + 2, none⟩ = some (.int .i64 (rd_T62 sl.f1 (j : Int)).f1.f1)) (ds := []) #[false, false, false, false, false, false, false, false, false, false, false, false] (by kernel_rfl) rfl rfl ⟨(blk_cell B9.out 2).trans rfl, (blk_cell B10.out 2).trans rfl, p0, p1, p2, r0, r1, r2⟩ (fun hHeld => ?_); generalize wr.drew = wd at BK BL HB B9 B10 hHeld ⊢; refine pure_y 0 (some 151) (bz 12 1) ?_; refine pure_y 2 (some 153) (bz 12 5) ?_; refine pure_y 5 (some 156) (bz 12 37) ?_; refine pure_y 7 (some 158) (bz 12 165) ?_; refine take_y 1 (some 152) (bz 12 167) hHeld ?_; refine pure_y 3 (some 154) (bz 12 175) ?_; refine take_y 4 (some 155) (bz 12 191) hHeld ?_; refine take_y 6 (some 157) (bz 12 255) hHeld ?_; refine pure_y 8 (some 159) (bz 12 511) ?_; refine take_y 9 (some 160) (bz 12 1023) hHeld ?_; refine pure_y 10 (some 161) (bz 12 2047) ?_; refine pure_y 11 (some 5) (bz 12 4095) ?_; refine done_ (by kernel_rfl) ?_; clear hHeld p0 p1 p2 r0 r1 r2; go_wp2; go_roundg (sl.f1.length - (j + 1))
         case measure => omega
         case rel => exact ⟨j + 1, by omega, by omega, rfl, by go_num, BK, BL, HB, B9, B10⟩
        ·
         (have : j = sl.f1.length := by omega); subst this; have hz_ := (blk_cell B9.out 2).trans rfl; have hy_ := (blk_cell B10.out 2).trans rfl; go_wp2; go_roundg (sills.length - (k + 1))
         case measure => omega
         case rel => exact ⟨k + 1, by omega, by omega, rfl, by go_num, BK, BL, HB⟩
      ·
       (have : k = sills.length := by omega); subst this; have hz_ := (blk_cell BK.out 5).trans rfl; have hy_ := (blk_cell BL.out 5).trans rfl; go_wp2; go_ret; exact ⟨rfl, HB.out⟩
def RefBestQ (L U R : Int) (holds : List S85) (V : Int) (sills : List S59) (lots : List S79) (s : List Int) (m e : Int) : Prop :=
 (¬ e = 0 ∧ s = [] ∧ m = 0 ∧ ∃ kc, swarfref07_Check.f kc L U R holds V sills lots = some e) ∨
 (e = 0 ∧ ∃ (good : List Int → Bool) (worth : List Int → Int) (all : List (List Int)) (kc ks : Nat), swarfref07_Check.f kc L U R holds V sills lots = some 0 ∧ swarfref07_Stowages.f ks L U R holds V sills lots [] = some all ∧ (∀ t, t ∈ all → ∃ k, swarfref07_Worth.f k L U R holds V sills lots t = some (worth t)) ∧ (∀ t, t ∈ all → ∃ k, swarfref07_Good.f k L U R holds V sills lots t = some (good t)) ∧ 0 < all.length ∧ all.length ≤ 1000000 ∧ s = (bestOf good worth all ([], -1)).1 ∧ m = (bestOf good worth all ([], -1)).2)
theorem refBest_both (x : VoyV) (s : List Int) (m e : Int) (w : World) (hx : x.Ok w) (h : RefBestQ x.light x.under x.trim x.holds x.leaves x.sills x.lots s m e) : Calls Try.prog 29 #[.agg #[.int .i64 x.light, .int .i64 x.under, .int .i64 x.trim, .slice x.A3 x.holds.length x.c3, .int .i64 x.leaves, .slice x.A5 x.sills.length x.c5, .slice x.A6 x.lots.length x.c6]] w (RBP w s m e) := by
 rcases h with ⟨he, rfl, rfl, kc, hc⟩ | ⟨rfl, good, worth, all, kc, ks, hc, hs, hw, hg, h0, hn, rfl, rfl⟩
 ·
  exact refBest_no x e w hx hc he
 ·
  exact refBest_yes x good worth all w hx hc hs hw hg h0 hn
structure BestQ (L U R : Int) (holds : List S85) (V : Int) (sills : List S59) (lots : List S79) : Prop where
 cp : swarfkit_CopyVoyage.f L U R holds V sills lots = some (L, U, R, holds, V, sills, lots)
 be : ∃ (s : List Int) (m e : Int), ship_Best.f L U R holds V sills lots = some (s, m, e) ∧ RefBestQ L U R holds V sills lots s m e ∧ ∃ k, swarfkit_EqualInts.f k s s = some true
 vl : holds.length ≤ 100000 ∧ lots.length ≤ 100000 ∧ lensOK sills
theorem cells_at4 {w : World} {g t : Nat} {cs : Array Value} (h : w.heap[g]? = some (.cells cs t (0, 0))) (ys : Array Value) (b : Nat) (hh : ∀ j v, ys[j]? = some v → cs[b + j]? = some v) : ∀ j v, ys[j]? = some v → w.cell? ⟨g, b + j, none⟩ = some v := fun j v hj => (blk_cell h (b + j)).trans (hh j v hj)
theorem facts4 {wj w' : World} {ga k : Nat} {y : VoyV} (hc : ∀ j v, (#[.int .i64 y.light, .int .i64 y.under, .int .i64 y.trim, .slice y.A3 y.holds.length y.c3, .int .i64 y.leaves, .slice y.A5 y.sills.length y.c5, .slice y.A6 y.lots.length y.c6] : Array Value)[j]? = some v → wj.cell? ⟨ga, k * 7 + j, none⟩ = some v) (hb : Below wj.heap.size wj w') : w'.cell? ⟨ga, k * 7, none⟩ = some (.int .i64 y.light) ∧ w'.cell? ⟨ga, k * 7 + 1, none⟩ = some (.int .i64 y.under) ∧ w'.cell? ⟨ga, k * 7 + 2, none⟩ = some (.int .i64 y.trim) ∧ w'.cell? ⟨ga, k * 7 + 3, none⟩ = some (.slice y.A3 y.holds.length y.c3) ∧ w'.cell? ⟨ga, k * 7 + 4, none⟩ = some (.int .i64 y.leaves) ∧ w'.cell? ⟨ga, k * 7 + 5, none⟩ = some (.slice y.A5 y.sills.length y.c5) ∧ w'.cell? ⟨ga, k * 7 + 6, none⟩ = some (.slice y.A6 y.lots.length y.c6) := ⟨(hb.cell (World.block_lt_of_cell? _ _ (hc 0 _ rfl))).trans (hc 0 _ rfl), (hb.cell (World.block_lt_of_cell? _ _ (hc 1 _ rfl))).trans (hc 1 _ rfl), (hb.cell (World.block_lt_of_cell? _ _ (hc 2 _ rfl))).trans (hc 2 _ rfl), (hb.cell (World.block_lt_of_cell? _ _ (hc 3 _ rfl))).trans (hc 3 _ rfl), (hb.cell (World.block_lt_of_cell? _ _ (hc 4 _ rfl))).trans (hc 4 _ rfl), (hb.cell (World.block_lt_of_cell? _ _ (hc 5 _ rfl))).trans (hc 5 _ rfl), (hb.cell (World.block_lt_of_cell? _ _ (hc 6 _ rfl))).trans (hc 6 _ rfl)⟩
set_option maxHeartbeats 8000000 in
set_option maxRecDepth 100000 in
theorem bests_wide (x : VoyV) (A1 : Option Addr) (c1 : Nat) (l1 : List Int) (w : World) (hx : x.Ok w) {kw ka : Nat} {wd_ : Bool} (hw : swarflaw07_wide.f kw x.light x.under x.trim x.holds x.leaves x.sills x.lots = some wd_) (hwide : wd_ = true ∨ (wd_ = false ∧ (x.lots.length : Int) > 3 ∧ ∃ kq, swarfref07_Check.f kq x.light x.under x.trim x.holds x.leaves x.sills x.lots = some 0)) (haw : swarflaw07_awake.f ka = some true) :
  Calls Try.prog 4 #[.agg #[.int .i64 x.light, .int .i64 x.under, .int .i64 x.trim, .slice x.A3 x.holds.length x.c3, .int .i64 x.leaves, .slice x.A5 x.sills.length x.c5, .slice x.A6 x.lots.length x.c6], .slice A1 l1.length c1] w fun e w' => e = .returned (.bool true) ∧ Below w.heap.size w w' := by
 have hu26 := Try.underlying26
 have hu56 := Try.underlying56
 have HX := Aside0.mk hx
 have HWD := Aside0.mk hw
 have HAW := Aside0.mk haw
 clear hx hw haw
 go_enter Try.func4, Try.ntmps4
 go_wp2_with (first | (refine box_r (N := 2) rfl (cs := #[.int .i64 x.light, .int .i64 x.under, .int .i64 x.trim, .slice x.A3 x.holds.length x.c3, .int .i64 x.leaves, .slice x.A5 x.sills.length x.c5, .slice x.A6 x.lots.length x.c6]) (t := 26) ?_; intro gx hg w2 hbox hb2; have BK := Aside0.mk hbox; have HB := Aside0.mk hb2; clear hg hbox hb2; have hz0_ := (blk_cell BK.out 0).trans rfl; have hz1_ := (blk_cell BK.out 1).trans rfl; have hz2_ := (blk_cell BK.out 2).trans rfl; have hz3_ := (blk_cell BK.out 3).trans rfl; have hz4_ := (blk_cell BK.out 4).trans rfl; have hz5_ := (blk_cell BK.out 5).trans rfl; have hz6_ := (blk_cell BK.out 6).trans rfl))
 refine (swarflaw07_wide.calls kw x.light x.under x.trim x.A3 x.c3 x.holds x.leaves x.A5 x.c5 x.sills x.A6 x.c6 x.lots wd_ w2 (HX.out.below HB.out).h (HX.out.below HB.out).hc (HX.out.below HB.out).s (HX.out.below HB.out).sc (HX.out.below HB.out).l (HX.out.below HB.out).lc HWD.out).mono ?_
 rintro e w3 ⟨rfl, hb_⟩
 replace BK := Aside0.mk (blk_below BK.out hb_)
 replace HB := Aside0.mk (below_step HB.out hb_)
 clear hb_ hz0_ hz1_ hz2_ hz3_ hz4_ hz5_ hz6_
 have hz0_ := (blk_cell BK.out 0).trans rfl
 have hz1_ := (blk_cell BK.out 1).trans rfl
 have hz2_ := (blk_cell BK.out 2).trans rfl
 have hz3_ := (blk_cell BK.out 3).trans rfl
 have hz4_ := (blk_cell BK.out 4).trans rfl
 have hz5_ := (blk_cell BK.out 5).trans rfl
 have hz6_ := (blk_cell BK.out 6).trans rfl
 rcases hwide with rfl | ⟨rfl, hlg, kq, hq_⟩
 ·
  go_wp2_with (fail)
  refine (swarflaw07_awake.calls ka true _ HAW.out).mono ?_; rintro e z4 ⟨rfl, hb_⟩; replace HB := Aside0.mk (below_step HB.out hb_); clear hb_; go_wp2; go_ret; exact ⟨rfl, HB.out⟩
 ·
  have hd_ : decide (3 < (x.lots.length : Int)) = true := decide_eq_true hlg; have HQ := Aside0.mk hq_; clear hq_
  go_wp2_with (fail)
  refine (swarfref07_Check.calls kq x.light x.under x.trim x.A3 x.c3 x.holds x.leaves x.A5 x.c5 x.sills x.A6 x.c6 x.lots 0 _ (HX.out.below HB.out).h (HX.out.below HB.out).hc (HX.out.below HB.out).s (HX.out.below HB.out).sc (HX.out.below HB.out).l (HX.out.below HB.out).lc HQ.out).mono ?_; rintro e w4 ⟨rfl, hb_⟩; replace HB := Aside0.mk (below_step HB.out hb_); clear hb_
  go_wp2_with (fail)
  refine (swarflaw07_awake.calls ka true _ HAW.out).mono ?_; rintro e z4 ⟨rfl, hb_⟩; replace HB := Aside0.mk (below_step HB.out hb_); clear hb_; go_wp2; go_ret; exact ⟨rfl, HB.out⟩
def bests4.T4 : Bool × List (List Nat × List Nat) := (true, [([], []), ([], []), ([], []), ([], []), ([2, 3], [2, 3]), ([1, 4, 4], [1, 4]), ([0, 5], [0, 5]), ([6, 5, 0, 1, 2, 3, 4, 5, 6], [6])])
def bests4.B4 : List Nat := [0, 0, 0, 0, 12, 30, 63, 127]
theorem bests4.tab4 : rtab .any (opsOf Try.f4 4) = bests4.T4 := by kernel_rfl
theorem bests4.bits4 : waitsOk bests4.T4.2 bests4.B4 = true := by kernel_rfl
def bests4.T11 : Bool × List (List Nat × List Nat) := (true, [([], []), ([], []), ([0, 1], [0, 1]), ([2], [2]), ([3], [3]), ([3], [3]), ([4, 5, 3], [3, 4, 5]), ([3, 6], [3, 6]), ([7, 3], [7]), ([8], [8]), ([8], [8]), ([9, 10, 8, 8], [8, 9, 10]), ([11, 8], [8, 11]), ([8, 12], [8, 12]), ([13, 11], [13]), ([14], [14]), ([14], [14]), ([14], [14]), ([16, 17, 14], [14, 16, 17]), ([18, 14], [14, 18]), ([15, 19, 14, 14], [14, 15, 19]), ([20, 14], [14, 20]), ([14, 21], [14, 21])])
def bests4.B11 : List Nat := [0, 0, 3, 7, 15, 15, 63, 127, 255, 511, 511, 2047, 4095, 8191, 16383, 32767, 32767, 32767, 229375, 491519, 1048575, 2097151, 4194303]
theorem bests4.tab11 : rtab .any (opsOf Try.f4 11) = bests4.T11 := by kernel_rfl
theorem bests4.bits11 : waitsOk bests4.T11.2 bests4.B11 = true := by kernel_rfl
set_option maxHeartbeats 8000000 in
set_option maxRecDepth 100000 in
theorem bests_walk (x : VoyV) (A1 : Option Addr) (c1 : Nat) (l1 : List Int) (w : World) (hx : x.Ok w) (hr1 : Kd.C (Kd.int .i64) w A1 l1.length l1) (hc1 : l1.length ≤ c1) {fd T s1 s2 mL mU mR mV : Int} {kv : Nat} {mh : List S85} {ms : List S59} {ml : List S79} {kw ka : Nat} (hw : swarflaw07_wide.f kw x.light x.under x.trim x.holds x.leaves x.sills x.lots = some false) (hlg : ¬ (x.lots.length : Int) > 3 ∨ ((x.lots.length : Int) > 3 ∧ ∃ kq e', swarfref07_Check.f kq x.light x.under x.trim x.holds x.leaves x.sills x.lots = some e' ∧ ¬ e' = 0))
  (hf : swarfkit_FeedOf.f l1 = some fd) (he : swarfkit_Feed_Either.f fd [4, 30] = some (T, s1)) (hv : swarfkit_VoyageOf.f kv s1 2 2 4 T = some (mL, mU, mR, mh, mV, ms, ml, s2))
  (hq1 : BestQ x.light x.under x.trim x.holds x.leaves x.sills x.lots) (hq2 : BestQ mL mU mR mh mV ms ml) (haw : swarflaw07_awake.f ka = some true) :
  Calls Try.prog 4 #[.agg #[.int .i64 x.light, .int .i64 x.under, .int .i64 x.trim, .slice x.A3 x.holds.length x.c3, .int .i64 x.leaves, .slice x.A5 x.sills.length x.c5, .slice x.A6 x.lots.length x.c6], .slice A1 l1.length c1] w fun e w' => e = .returned (.bool true) ∧ Below w.heap.size w w' := by
 obtain ⟨wd_, hwd_⟩ : ∃ b : Bool, b = false := ⟨_, rfl⟩
 rw [← hwd_] at hw
 have HR1 := Aside0.mk hr1
 have HF := Aside0.mk hf
 have HE := Aside0.mk he
 have HV := Aside0.mk hv
 have HQ1 := Aside0.mk hq1
 have HQ2 := Aside0.mk hq2
 have HLG := Aside0.mk hlg
 have HW0 := Aside0.mk hwd_
 clear hr1 hf he hv hq1 hq2 hlg hwd_
 have hu26 := Try.underlying26
 have hu56 := Try.underlying56
 have HX := Aside0.mk hx
 have HWD := Aside0.mk hw
 have HAW := Aside0.mk haw
 clear hx hw haw
 go_enter Try.func4, Try.ntmps4
 go_upto_region 1 with (first | (refine box_r (N := 2) rfl (cs := #[.int .i64 x.light, .int .i64 x.under, .int .i64 x.trim, .slice x.A3 x.holds.length x.c3, .int .i64 x.leaves, .slice x.A5 x.sills.length x.c5, .slice x.A6 x.lots.length x.c6]) (t := 26) ?_; intro gx hg w2 hbox hb2; have BK := Aside0.mk hbox; have HB := Aside0.mk hb2; clear hg hbox hb2; have hz0_ := (blk_cell BK.out 0).trans rfl; have hz1_ := (blk_cell BK.out 1).trans rfl; have hz2_ := (blk_cell BK.out 2).trans rfl; have hz3_ := (blk_cell BK.out 3).trans rfl; have hz4_ := (blk_cell BK.out 4).trans rfl; have hz5_ := (blk_cell BK.out 5).trans rfl; have hz6_ := (blk_cell BK.out 6).trans rfl))
 go_cut [27] (fun v27 wc => v27 = .bool false ∧ Aside0 (wc.heap[gx]? = some (.cells #[.int .i64 x.light, .int .i64 x.under, .int .i64 x.trim, .slice x.A3 x.holds.length x.c3, .int .i64 x.leaves, .slice x.A5 x.sills.length x.c5, .slice x.A6 x.lots.length x.c6] 26 (0, 0))) ∧ Aside0 (Below w.heap.size w wc))
 case first =>
  go_wp2_with (fail)
  refine (swarflaw07_wide.calls kw x.light x.under x.trim x.A3 x.c3 x.holds x.leaves x.A5 x.c5 x.sills x.A6 x.c6 x.lots wd_ w2 (HX.out.below HB.out).h (HX.out.below HB.out).hc (HX.out.below HB.out).s (HX.out.below HB.out).sc (HX.out.below HB.out).l (HX.out.below HB.out).lc HWD.out).mono ?_; rintro e w3 ⟨rfl, hb_⟩; replace BK := Aside0.mk (blk_below BK.out hb_); replace HB := Aside0.mk (below_step HB.out hb_); clear hb_ hz0_ hz1_ hz2_ hz3_ hz4_ hz5_ hz6_; have hz0_ := (blk_cell BK.out 0).trans rfl; have hz1_ := (blk_cell BK.out 1).trans rfl; have hz2_ := (blk_cell BK.out 2).trans rfl; have hz3_ := (blk_cell BK.out 3).trans rfl; have hz4_ := (blk_cell BK.out 4).trans rfl; have hz5_ := (blk_cell BK.out 5).trans rfl; have hz6_ := (blk_cell BK.out 6).trans rfl; have hwd_ := HW0.out; subst hwd_; rcases HLG.out with hlg | ⟨hlg, kq, e', hq_, hne⟩
  ·
   have hd_ : decide (3 < (x.lots.length : Int)) = false := decide_eq_false (by omega); go_wp2; go_meet
   case rel => exact ⟨rfl, BK, HB⟩
  ·
   have hd_ : decide (3 < (x.lots.length : Int)) = true := decide_eq_true hlg; have hn_ : (e' == 0) = false := beq_eq_false_iff_ne.mpr hne; have HQ := Aside0.mk hq_; clear hq_ hne
   go_wp2_with (fail)
   refine (swarfref07_Check.calls kq x.light x.under x.trim x.A3 x.c3 x.holds x.leaves x.A5 x.c5 x.sills x.A6 x.c6 x.lots e' _ (HX.out.below HB.out).h (HX.out.below HB.out).hc (HX.out.below HB.out).s (HX.out.below HB.out).sc (HX.out.below HB.out).l (HX.out.below HB.out).lc HQ.out).mono ?_; rintro e w4 ⟨rfl, hb_⟩; replace HB := Aside0.mk (below_step HB.out hb_); replace BK := Aside0.mk (blk_below BK.out hb_); clear hb_; go_wp2; go_meet
   case rel => exact ⟨rfl, BK, HB⟩
 case rest =>
  clear hz0_ hz1_ hz2_ hz3_ hz4_ hz5_ hz6_ BK HB; obtain ⟨rfl, BK, HB⟩ := hcut
  go_wp2_with (fail)
  refine (swarfkit_FeedOf.calls A1 c1 l1 fd w _ HB.out (by exact HR1.out) hc1 HF.out).mono ?_; rintro e w4 ⟨g, rfl, hi_, hb_, hk_⟩; replace BK := Aside0.mk (blk_below BK.out hk_); have HI := Aside0.mk hi_; replace HB := Aside0.mk hb_; clear hi_ hb_ hk_
  go_upto_region 4 with (fail)
  have hd_ := below_drew1 (Below.refl w4.heap.size w4); replace BK := Aside0.mk (blk_below BK.out hd_); replace HI := Aside0.mk (IsS90.below HI.out hd_); replace HB := Aside0.mk (below_step HB.out hd_); clear hd_; refine start_ (n := 8) (S := fun w' => w'.cell? ⟨gx, 0, none⟩ = some (.int .i64 x.light) ∧ w'.cell? ⟨gx, 1, none⟩ = some (.int .i64 x.under) ∧ w'.cell? ⟨gx, 2, none⟩ = some (.int .i64 x.trim) ∧ w'.cell? ⟨gx, 3, none⟩ = some (.slice x.A3 x.holds.length x.c3) ∧ w'.cell? ⟨gx, 4, none⟩ = some (.int .i64 x.leaves) ∧ w'.cell? ⟨gx, 5, none⟩ = some (.slice x.A5 x.sills.length x.c5) ∧ w'.cell? ⟨gx, 6, none⟩ = some (.slice x.A6 x.lots.length x.c6)) (ds := []) #[false, false, false, false, false, false, false, false] (by kernel_rfl) rfl rfl ⟨(blk_cell BK.out 0).trans rfl, (blk_cell BK.out 1).trans rfl, (blk_cell BK.out 2).trans rfl, (blk_cell BK.out 3).trans rfl, (blk_cell BK.out 4).trans rfl, (blk_cell BK.out 5).trans rfl, (blk_cell BK.out 6).trans rfl⟩ (fun hHeld => ?_); generalize w4.drew = wd at BK HI HB hHeld ⊢; refine with_tabW bests4.tab4 bests4.bits4 (fun HT_ HW_ => ?_); refine pure_p 1 (some 32) (bz 8 2) HT_ ?_; refine pure_p 2 (some 33) (bz 8 6) HT_ ?_; refine take_p 0 (some 31) (bz 8 7) HT_ HW_ hHeld ?_; (refine one_t 3 (some 34) (bz 8 15) HT_ fun K hK => ?_); refine Kd.R_lit_step (Kd.int .i64) _ 3 ?hg (N := 34) ?hd (xs := ([4, 30] : List Int)) (inner := [.int .i64 4, .int .i64 30]) (ok := fun _ => True) (okp := fun _ => True) ?hr ?hp (fun _ hk => hk) trivial (Below.refl _ _) (Nat.le_refl _) (by simp) ?_; (case hd => rfl); (case hg => rfl); (case hr => first | (go_simp; done) | (go_simp; rfl)); (case hp => exact (Reps.one (show Kd.M (Kd.int .i64) _ _ _ 4 [.int .i64 4] from rfl) (Reps.one (show Kd.M (Kd.int .i64) _ _ _ 30 [.int .i64 30] from rfl) (Reps.none _ _)))); intro vl w5 ho_ hb_ hg_ hnew_; clear hg_ hnew_; obtain ⟨Al, cl, rfl⟩ := Kd.R_slice ho_; have RL := Aside0.mk ho_; have HFL := Aside0.mk (show ∀ ad, Al = some ad → 0 < [(4 : Int), 30].length → ad.block ≠ g from fun ad ha _ => by subst ha; have h1 := HI.out.lt; have h2 := Kd.R_base ho_ ad.block (by simp [Value.ownBlock]); omega); replace BK := Aside0.mk (blk_below BK.out hb_); replace HI := Aside0.mk (IsS90.below HI.out hb_); replace HB := Aside0.mk (below_step HB.out hb_); clear ho_ hb_; refine hK.out _ _ (bcs_y BK) (fun hHeld => ?_); clear hK K; refine norm_p (some 34) ?_; (refine one_t 4 (some 35) (bz 8 31) HT_ fun K hK => ?_); refine goes_x Try.func18 #[.pointer (some ⟨g, 0, none⟩), .slice Al [(4 : Int), 30].length cl] ?_
  with_reducible refine (swarfkit_Feed_Either.calls g fd Al cl [4, 30] T s1 w _ HI.out HB.out (Kd.R_reads' RL.out).2.2 (Kd.R_reads' RL.out).2.1 HFL.out HE.out).mono ?_
  rintro e w6 ⟨rfl, hi_, hb_, hk_⟩; replace BK := Aside0.mk (blk_kb BK.out hk_ (IsS90.ne_blk HI.out BK.out (by decide)).symm); replace HI := Aside0.mk hi_; replace HB := Aside0.mk hb_; clear hi_ hb_ hk_ RL HFL; refine ⟨_, rfl, ?_⟩; refine hK.out _ _ (bcs_y BK) (fun hHeld => ?_); clear hK K; refine norm_p (some 35) ?_; (refine one_t 5 (some 36) (bz 8 63) HT_ fun K hK => ?_); refine goes_x Try.func17 #[.pointer (some ⟨g, 0, none⟩), .int .i64 2, .int .i64 2, .int .i64 4, .int .i64 T] ?_
  with_reducible refine (swarfkit_VoyageOf.calls kv g s1 2 2 4 T mL mU mR mh mV ms ml s2 w _ HI.out HB.out HV.out).mono ?_
  rintro e w7 ⟨v3, v5, v6, rfl, ho3, ho5, ho6, hi_, hb_, hk_⟩; obtain ⟨M3, d3, rfl⟩ := Kd.R_slice ho3; obtain ⟨M5, d5, rfl⟩ := Kd.S_slice ho5; obtain ⟨M6, d6, rfl⟩ := Kd.R_slice ho6; replace BK := Aside0.mk (blk_kb BK.out hk_ (IsS90.ne_blk HI.out BK.out (by decide)).symm); have MO := Aside0.mk (show (⟨mL, mU, mR, M3, d3, mh, mV, M5, d5, ms, M6, d6, ml⟩ : VoyV).Ok w7 from ⟨(Kd.R_reads' ho3).2.2, (Kd.R_reads' ho3).2.1, (Kd.S_reads' ho5).2.2, (Kd.S_reads' ho5).2.1, (Kd.R_reads' ho6).2.2, (Kd.R_reads' ho6).2.1⟩); replace HB := Aside0.mk hb_; clear hi_ hb_ hk_ HI ho3 ho5 ho6; refine ⟨_, rfl, ?_⟩; refine hK.out _ _ (bcs_y BK) (fun hHeld => ?_); clear hK K; refine norm_p (some 36) ?_; (refine one_t 6 (some 37) (bz 8 127) HT_ fun K hK => ?_); refine value_ (w1 := ?_) (v := ?_) (by rfl) rfl ?_ ?_; rotate_left 2
  ·
   (go_simp; constructor <;> rfl)
  obtain ⟨ga, hg_⟩ : ∃ b, b = w7.heap.size := ⟨_, rfl⟩; have BA := Aside0.mk (blk_new w7 (.cells #[.int .i64 x.light, .int .i64 x.under, .int .i64 x.trim, .slice x.A3 x.holds.length x.c3, .int .i64 x.leaves, .slice x.A5 x.sills.length x.c5, .slice x.A6 x.lots.length x.c6, .int .i64 mL, .int .i64 mU, .int .i64 mR, .slice M3 mh.length d3, .int .i64 mV, .slice M5 ms.length d5, .slice M6 ml.length d6] 26 (0, 0))); have hb_ : Below w7.heap.size w7 (w7.alloc (.cells #[.int .i64 x.light, .int .i64 x.under, .int .i64 x.trim, .slice x.A3 x.holds.length x.c3, .int .i64 x.leaves, .slice x.A5 x.sills.length x.c5, .slice x.A6 x.lots.length x.c6, .int .i64 mL, .int .i64 mU, .int .i64 mR, .slice M3 mh.length d3, .int .i64 mV, .slice M5 ms.length d5, .slice M6 ml.length d6] 26 (0, 0))) := below_alloc (Below.refl _ _) _; generalize hw_ : w7.alloc (.cells #[.int .i64 x.light, .int .i64 x.under, .int .i64 x.trim, .slice x.A3 x.holds.length x.c3, .int .i64 x.leaves, .slice x.A5 x.sills.length x.c5, .slice x.A6 x.lots.length x.c6, .int .i64 mL, .int .i64 mU, .int .i64 mR, .slice M3 mh.length d3, .int .i64 mV, .slice M5 ms.length d5, .slice M6 ml.length d6] 26 (0, 0)) = wj at *; rw [← hg_] at BA ⊢; replace BK := Aside0.mk (blk_below BK.out hb_); replace MO := Aside0.mk (MO.out.below hb_); replace HB := Aside0.mk (below_step HB.out hb_); clear hw_ hg_ hb_; refine hK.out _ _ (bcs_y BK) (fun hHeld => ?_); clear hK K; refine norm_p (some 37) ?_; refine pure_p 7 (some 6) (bz 8 255) HT_ ?_; refine done_ (done_of HT_.out (by kernel_rfl)) ?_; clear hHeld; go_wp2
  have HEE : Aside0 (∀ k : Nat, k < 2 → ∃ y : VoyV, y.Ok wj ∧ BestQ y.light y.under y.trim y.holds y.leaves y.sills y.lots ∧ (∀ j v, (#[.int .i64 y.light, .int .i64 y.under, .int .i64 y.trim, .slice y.A3 y.holds.length y.c3, .int .i64 y.leaves, .slice y.A5 y.sills.length y.c5, .slice y.A6 y.lots.length y.c6] : Array Value)[j]? = some v → wj.cell? ⟨ga, k * 7 + j, none⟩ = some v)) := by
   have hx1 := HX.out.below HB.out; refine ⟨fun k hk => ?_⟩; rcases k with _ | _ | k
   ·
    refine ⟨x, hx1, HQ1.out, cells_at4 BA.out _ _ (fun j v hj => ?_)⟩; rcases j with _ | _ | _ | _ | _ | _ | _ | j <;> first | exact hj | (simp at hj)
   ·
    refine ⟨(⟨mL, mU, mR, M3, d3, mh, mV, M5, d5, ms, M6, d6, ml⟩ : VoyV), MO.out, HQ2.out, cells_at4 BA.out _ _ (fun j v hj => ?_)⟩; rcases j with _ | _ | _ | _ | _ | _ | _ | j <;> first | exact hj | (simp at hj)
   ·
    omega
  have HBj := HB; clear BA BK MO HQ1 HQ2 HB HF HE HV HX HR1
  go_loopg [7] 2 (fun gk v7 wr => ∃ k : Nat, k ≤ 2 ∧ 2 - k ≤ gk ∧ v7 = .int .i64 k ∧ Aside0 (Below wj.heap.size wj wr))
  case atStart => exact ⟨0, by omega, by omega, rfl, ⟨Below.refl _ _⟩⟩
  case round =>
   obtain ⟨k, hk, hgk, rfl, HBr⟩ := hrel; by_cases hlt : k < 2
   ·
    obtain ⟨y, hy, ⟨qc, ⟨bs, bm, be, qb, qr, kn, qn⟩, qv⟩, hcells⟩ := HEE.out k hlt; (have hlz : (k : Int) < 2 := by omega); have QC := Aside0.mk qc; have QB := Aside0.mk qb; have QR := Aside0.mk qr; have QV := Aside0.mk qv; have QN := Aside0.mk qn; have YO := Aside0.mk hy; have CE := Aside0.mk hcells; clear hy hcells qc qb qr qv qn
    go_upto_region 8 with (fail)
    have F_ := facts4 CE.out HBr.out; obtain ⟨hy0_, hy1_, hy2_, hy3_, hy4_, hy5_, hy6_⟩ := F_
    go_wp2_with (fail)
    refine (swarfkit_CopyVoyage.calls y.light y.under y.trim y.A3 y.c3 y.holds y.leaves y.A5 y.c5 y.sills y.A6 y.c6 y.lots y.light y.under y.trim y.holds y.leaves y.sills y.lots _ (YO.out.below HBr.out).h (YO.out.below HBr.out).hc (YO.out.below HBr.out).s (YO.out.below HBr.out).sc (YO.out.below HBr.out).l (YO.out.below HBr.out).lc QC.out).mono ?_; rintro e w8 ⟨v3, v5, v6, rfl, ho3, ho5, ho6, hb_⟩; obtain ⟨X3, e3, rfl⟩ := Kd.R_slice ho3; obtain ⟨X5, e5, rfl⟩ := Kd.S_slice ho5; obtain ⟨X6, e6, rfl⟩ := Kd.R_slice ho6; have OX := Aside0.mk (show (⟨y.light, y.under, y.trim, X3, e3, y.holds, y.leaves, X5, e5, y.sills, X6, e6, y.lots⟩ : VoyV).Ok w8 from ⟨(Kd.R_reads' ho3).2.2, (Kd.R_reads' ho3).2.1, (Kd.S_reads' ho5).2.2, (Kd.S_reads' ho5).2.1, (Kd.R_reads' ho6).2.2, (Kd.R_reads' ho6).2.1⟩); replace HBr := Aside0.mk (below_step HBr.out hb_); clear ho3 ho5 ho6 hb_ hy0_ hy1_ hy2_ hy3_ hy4_ hy5_ hy6_
    go_upto_region 9 with (fail)
    obtain ⟨go, hg_⟩ : ∃ b, b = w8.heap.size := ⟨_, rfl⟩; have BO := Aside0.mk (blk_new w8 (.cells #[.int .i64 y.light, .int .i64 y.under, .int .i64 y.trim, .slice X3 y.holds.length e3, .int .i64 y.leaves, .slice X5 y.sills.length e5, .slice X6 y.lots.length e6] 26 (0, 0))); have hbw : Below w8.heap.size w8 (w8.alloc (.cells #[.int .i64 y.light, .int .i64 y.under, .int .i64 y.trim, .slice X3 y.holds.length e3, .int .i64 y.leaves, .slice X5 y.sills.length e5, .slice X6 y.lots.length e6] 26 (0, 0))) := below_alloc (Below.refl _ _) _; generalize hw_ : w8.alloc (.cells #[.int .i64 y.light, .int .i64 y.under, .int .i64 y.trim, .slice X3 y.holds.length e3, .int .i64 y.leaves, .slice X5 y.sills.length e5, .slice X6 y.lots.length e6] 26 (0, 0)) = w9 at *; rw [← hg_] at BO ⊢; replace HBr := Aside0.mk (below_step HBr.out hbw); replace OX := Aside0.mk (OX.out.below hbw); clear hbw hw_ hg_; have hz0_ := (blk_cell BO.out 0).trans rfl; have hz1_ := (blk_cell BO.out 1).trans rfl; have hz2_ := (blk_cell BO.out 2).trans rfl; have hz3_ := (blk_cell BO.out 3).trans rfl; have hz4_ := (blk_cell BO.out 4).trans rfl; have hz5_ := (blk_cell BO.out 5).trans rfl; have hz6_ := (blk_cell BO.out 6).trans rfl
    go_wp2_with (fail)
    refine (ship_Best.calls y.light y.under y.trim X3 e3 y.holds y.leaves X5 e5 y.sills X6 e6 y.lots bs bm be _ OX.out.h OX.out.hc OX.out.s OX.out.sc OX.out.l OX.out.lc QB.out).mono ?_; rintro e w10 ⟨v0_, rfl, ho_, hb_⟩; obtain ⟨As, cs, rfl⟩ := Kd.R_slice ho_; have C1 := Aside0.mk (Kd.R_reads' ho_).2.2; have L1 := Aside0.mk (Kd.R_reads' ho_).2.1; clear ho_; replace HBr := Aside0.mk (below_step HBr.out hb_); replace OX := Aside0.mk (OX.out.below hb_); replace BO := Aside0.mk (blk_below BO.out hb_); clear hb_ hz0_ hz1_ hz2_ hz3_ hz4_ hz5_ hz6_; have F_ := facts4 CE.out HBr.out; obtain ⟨hy0_, hy1_, hy2_, hy3_, hy4_, hy5_, hy6_⟩ := F_
    go_wp2_with (fail)
    refine (refBest_both y bs bm be _ (YO.out.below HBr.out) QR.out).mono ?_; rintro e w11 ⟨Ar, cr, rfl, hC2_, hl2_, hb_⟩; have C2 := Aside0.mk hC2_; have L2 := Aside0.mk hl2_; clear hC2_ hl2_; replace HBr := Aside0.mk (below_step HBr.out hb_); replace OX := Aside0.mk (OX.out.below hb_); replace BO := Aside0.mk (blk_below BO.out hb_); replace C1 := Aside0.mk (Kd.C_below C1.out hb_); clear hb_ hy0_ hy1_ hy2_ hy3_ hy4_ hy5_ hy6_
    go_upto_region 11 with (fail)
    have hd_ := below_drew1 (Below.refl w11.heap.size w11); replace HBr := Aside0.mk (below_step HBr.out hd_); replace OX := Aside0.mk (OX.out.below hd_); replace BO := Aside0.mk (blk_below BO.out hd_); replace C1 := Aside0.mk (Kd.C_below C1.out hd_); replace C2 := Aside0.mk (Kd.C_below C2.out hd_); clear hd_; have F_ := facts4 CE.out HBr.out; refine start_ (n := 23) (S := fun w' => w'.cell? ⟨go, 0, none⟩ = some (.int .i64 y.light) ∧ w'.cell? ⟨go, 1, none⟩ = some (.int .i64 y.under) ∧ w'.cell? ⟨go, 2, none⟩ = some (.int .i64 y.trim) ∧ w'.cell? ⟨go, 3, none⟩ = some (.slice X3 y.holds.length e3) ∧ w'.cell? ⟨go, 4, none⟩ = some (.int .i64 y.leaves) ∧ w'.cell? ⟨go, 5, none⟩ = some (.slice X5 y.sills.length e5) ∧ w'.cell? ⟨go, 6, none⟩ = some (.slice X6 y.lots.length e6) ∧ w'.cell? ⟨ga, k * 7, none⟩ = some (.int .i64 y.light) ∧ w'.cell? ⟨ga, k * 7 + 1, none⟩ = some (.int .i64 y.under) ∧ w'.cell? ⟨ga, k * 7 + 2, none⟩ = some (.int .i64 y.trim) ∧ w'.cell? ⟨ga, k * 7 + 3, none⟩ = some (.slice y.A3 y.holds.length y.c3) ∧ w'.cell? ⟨ga, k * 7 + 4, none⟩ = some (.int .i64 y.leaves) ∧ w'.cell? ⟨ga, k * 7 + 5, none⟩ = some (.slice y.A5 y.sills.length y.c5) ∧ w'.cell? ⟨ga, k * 7 + 6, none⟩ = some (.slice y.A6 y.lots.length y.c6)) (ds := []) #[false, false, false, false, false, false, false, false, false, false, false, false, false, false, false, false, false, false, false, false, false, false, false] (by kernel_rfl) rfl rfl ⟨(blk_cell BO.out 0).trans rfl, (blk_cell BO.out 1).trans rfl, (blk_cell BO.out 2).trans rfl, (blk_cell BO.out 3).trans rfl, (blk_cell BO.out 4).trans rfl, (blk_cell BO.out 5).trans rfl, (blk_cell BO.out 6).trans rfl, F_.1, F_.2.1, F_.2.2.1, F_.2.2.2.1, F_.2.2.2.2.1, F_.2.2.2.2.2.1, F_.2.2.2.2.2.2⟩ (fun hHeld => ?_); generalize w11.drew = wd11 at HBr OX BO C1 C2 hHeld ⊢; refine with_tabW bests4.tab11 bests4.bits11 (fun HT_ HW_ => ?_); refine pure_p 0 (some 64) (bz 23 1) HT_ ?_; refine pure_p 1 (some 65) (bz 23 3) HT_ ?_; refine pure_p 2 (some 66) (bz 23 7) HT_ ?_; refine pure_p 3 (some 67) (bz 23 15) HT_ ?_; refine pure_p 4 (some 68) (bz 23 31) HT_ ?_; refine pure_p 5 (some 69) (bz 23 63) HT_ ?_; refine pure_p 6 (some 70) (bz 23 127) HT_ ?_; refine pure_p 7 (some 71) (bz 23 255) HT_ ?_; refine pure_p 8 (some 72) (bz 23 511) HT_ ?_; refine pure_p 9 (some 73) (bz 23 1023) HT_ ?_; refine pure_p 10 (some 74) (bz 23 2047) HT_ ?_; (refine one_t 11 (some 75) (bz 23 4095) HT_ fun K hK => ?_); refine goes_x Try.func26 #[.slice As bs.length cs, .slice Ar bs.length cr] ?_
    with_reducible refine (swarfkit_EqualInts.calls kn As cs bs Ar cr bs true _ C1.out L1.out C2.out L2.out QN.out).mono ?_
    rintro e w12 ⟨rfl, hd_⟩; have hb_ := hd_.below; clear hd_; replace HBr := Aside0.mk (below_step HBr.out hb_); replace OX := Aside0.mk (OX.out.below hb_); replace BO := Aside0.mk (blk_below BO.out hb_); replace C1 := Aside0.mk (Kd.C_below C1.out hb_); replace C2 := Aside0.mk (Kd.C_below C2.out hb_); clear hb_; have F_ := facts4 CE.out HBr.out; refine ⟨_, rfl, ?_⟩; refine hK.out _ _ ⟨(blk_cell BO.out 0).trans rfl, (blk_cell BO.out 1).trans rfl, (blk_cell BO.out 2).trans rfl, (blk_cell BO.out 3).trans rfl, (blk_cell BO.out 4).trans rfl, (blk_cell BO.out 5).trans rfl, (blk_cell BO.out 6).trans rfl, F_.1, F_.2.1, F_.2.2.1, F_.2.2.2.1, F_.2.2.2.2.1, F_.2.2.2.2.2.1, F_.2.2.2.2.2.2⟩ (fun hHeld => ?_); clear hK K; refine norm_p (some 75) ?_; refine pure_p 12 (some 76) (bz 23 8191) HT_ ?_; refine pure_p 13 (some 77) (bz 23 16383) HT_ ?_; refine pure_p 14 (some 78) (bz 23 32767) HT_ ?_; refine pure_p 16 (some 80) (bz 23 98303) HT_ ?_; refine pure_p 17 (some 81) (bz 23 229375) HT_ ?_; refine pure_p 18 (some 82) (bz 23 491519) HT_ ?_; refine take_p 15 (some 79) (bz 23 524287) HT_ HW_ hHeld ?_; refine take_p 19 (some 83) (bz 23 1048575) HT_ HW_ hHeld ?_; (refine one_t 20 (some 84) (bz 23 2097151) HT_ fun K hK => ?_); refine goes_x Try.func25 #[.agg #[.int .i64 y.light, .int .i64 y.under, .int .i64 y.trim, .slice X3 y.holds.length e3, .int .i64 y.leaves, .slice X5 y.sills.length e5, .slice X6 y.lots.length e6], .agg #[.int .i64 y.light, .int .i64 y.under, .int .i64 y.trim, .slice y.A3 y.holds.length y.c3, .int .i64 y.leaves, .slice y.A5 y.sills.length y.c5, .slice y.A6 y.lots.length y.c6]] ?_
    with_reducible refine (sameV_calls y.light y.under y.trim y.leaves X3 y.A3 e3 y.c3 y.holds X5 y.A5 e5 y.c5 y.sills X6 y.A6 e6 y.c6 y.lots _ OX.out (YO.out.below HBr.out) QV.out.1 QV.out.2.1 QV.out.2.2).mono ?_
    rintro e w13 ⟨rfl, hb_⟩; replace HBr := Aside0.mk (below_step HBr.out hb_); replace OX := Aside0.mk (OX.out.below hb_); replace BO := Aside0.mk (blk_below BO.out hb_); replace C1 := Aside0.mk (Kd.C_below C1.out hb_); replace C2 := Aside0.mk (Kd.C_below C2.out hb_); clear hb_; have F_ := facts4 CE.out HBr.out; refine ⟨_, rfl, ?_⟩; refine hK.out _ _ ⟨(blk_cell BO.out 0).trans rfl, (blk_cell BO.out 1).trans rfl, (blk_cell BO.out 2).trans rfl, (blk_cell BO.out 3).trans rfl, (blk_cell BO.out 4).trans rfl, (blk_cell BO.out 5).trans rfl, (blk_cell BO.out 6).trans rfl, F_.1, F_.2.1, F_.2.2.1, F_.2.2.2.1, F_.2.2.2.2.1, F_.2.2.2.2.2.1, F_.2.2.2.2.2.2⟩ (fun hHeld => ?_); clear hK K; refine norm_p (some 84) ?_; refine pure_p 21 (some 85) (bz 23 4194303) HT_ ?_; refine pure_p 22 (some 86) (bz 23 8388607) HT_ ?_; refine done_ (done_of HT_.out (by kernel_rfl)) ?_; clear hHeld F_; go_wp2; go_roundg (2 - (k + 1))
    case measure => omega
    case rel => exact ⟨k + 1, by omega, by omega, by go_num, HBr⟩
   ·
    (have : k = 2 := by omega); subst this
    go_wp2_with (fail)
    refine (swarflaw07_awake.calls ka true _ HAW.out).mono ?_; rintro e z4 ⟨rfl, hb_⟩; have HBz := Aside0.mk (below_step HBj.out (below_step HBr.out hb_)); clear hb_; go_wp2; go_ret; exact ⟨rfl, HBz.out⟩
theorem best_both {L U R V : Int} {holds : List S85} {sills : List S59} {lots : List S79} (hn : Narrow holds sills lots) :
    ∃ (s : List Int) (m e : Int), s.length ≤ 1000 ∧ ship_Best.f L U R holds V sills lots = some (s, m, e) ∧ RefBestQ L U R holds V sills lots s m e := by
  have hc := limO_of (shipCheck_ev L U R V holds sills lots hn.h hn.s hn.n hn.l)
  obtain ⟨kc, hr⟩ := (refCheck_ev L U R V holds sills lots hn.h hn.s hn.n hn.l).rounds
  by_cases h0 : checkE L U R holds V sills lots = 0
  · have hv := valid_of h0
    rw [h0] at hc hr
    have hln := hv.ln; have hhn := hv.hn; have hsn := hv.sn
    have hstr : ∀ t, t ∈ stowsL holds.length lots.length → t.length = lots.length ∧ ∀ y, y ∈ t → -1 ≤ y ∧ y < (holds.length : Int) := fun t ht => stowsL_mem _ _ t ht
    obtain ⟨ks, hks⟩ := (stows_ev L U R V holds sills lots (by omega) (by omega) lots.length [] (by simp)).rounds
    rw [show (List.map (fun t => [] ++ t) (stowsL holds.length lots.length)) = stowsL holds.length lots.length by simp] at hks
    have hpow := pow_bd (H := holds.length) (n := lots.length) (by omega) (by omega)
    have hlen := stowsL_len holds.length lots.length
    have hfrom := bestOf_from (goodB L U R holds V sills lots) (fun t => worthGo lots 0 t 0) (stowsL holds.length lots.length) ([], -1)
    refine ⟨(bestOf (goodB L U R holds V sills lots) (fun t => worthGo lots 0 t 0) (stowsL holds.length lots.length) ([], -1)).1, (bestOf (goodB L U R holds V sills lots) (fun t => worthGo lots 0 t 0) (stowsL holds.length lots.length) ([], -1)).2, 0, ?_, ?_, .inr ⟨rfl, goodB L U R holds V sills lots, fun t => worthGo lots 0 t 0, stowsL holds.length lots.length, kc, ks, hr, hks, fun t ht => ?_, fun t ht => ?_, ?_, by omega, rfl, rfl⟩⟩
    · rcases hfrom with h | ⟨t, ht, _, h⟩
      · rw [h]; exact Nat.zero_le _
      · rw [h]; show t.length ≤ 1000; rw [(hstr t ht).1]; omega
    · unfold ship_Best.f
      refine Option.bind_eq_some_iff.2 ⟨0, hc, ?_⟩
      rw [if_pos rfl, if_pos ⟨by omega, by omega, ⟨by omega, fun x hx => by have := hn.n x hx; omega⟩, fun t ht => by rw [(good_both hv t (hstr t ht).1 (hstr t ht).2).1]; rfl⟩]
    · have h := worth_ev L U R V holds sills lots t (hstr t ht).1 (by have := (hstr t ht).1; omega) t.length 0 0 (by omega)
      rw [List.drop_zero] at h
      exact (show Ev (fun k => swarfref07_Worth.f k L U R holds V sills lots t) _ from h).rounds
    · exact (good_both hv t (hstr t ht).1 (hstr t ht).2).2.rounds
    · rw [hlen]; exact Nat.pow_pos (by omega)
  · refine ⟨[], 0, checkE L U R holds V sills lots, by simp, ?_, .inl ⟨h0, rfl, rfl, kc, hr⟩⟩
    unfold ship_Best.f
    exact Option.bind_eq_some_iff.2 ⟨_, hc, by rw [if_neg h0]⟩
theorem bestQ_of {L U R V : Int} {holds : List S85} {sills : List S59} {lots : List S79} (hn : Narrow holds sills lots) (hc : swarfkit_CopyVoyage.f L U R holds V sills lots = some (L, U, R, holds, V, sills, lots)) : BestQ L U R holds V sills lots := by
  obtain ⟨s, m, e, hl, h1, h2⟩ := best_both (L := L) (U := U) (R := R) (V := V) hn
  exact ⟨hc, ⟨s, m, e, h1, h2, (selfInts_ev s (by omega)).rounds⟩, ⟨by have := hn.h; omega, by have := hn.l; omega, by have := hn.s; omega, fun y hy => by have := hn.n y hy; omega⟩⟩
theorem bests_all (x : VoyV) (A1 : Option Addr) (c1 : Nat) (l1 : List Int) (w : World) (hx : x.Ok w) (hr1 : Kd.C (Kd.int .i64) w A1 l1.length l1) (hc1 : l1.length ≤ c1) (hb8 : l1.length * 8 ≤ 140737488351232) :
    Calls Try.prog 4 #[.agg #[.int .i64 x.light, .int .i64 x.under, .int .i64 x.trim, .slice x.A3 x.holds.length x.c3, .int .i64 x.leaves, .slice x.A5 x.sills.length x.c5, .slice x.A6 x.lots.length x.c6], .slice A1 l1.length c1] w fun e w' => e = .returned (.bool true) ∧ Below w.heap.size w w' := by
  obtain ⟨b, hb, hnar⟩ := wide_res x.light x.under x.trim x.leaves x.holds x.sills x.lots
  obtain ⟨kw, hkw⟩ := hb.rounds
  obtain ⟨ka, hka⟩ := awake_ev.rounds
  cases b with
  | true => exact bests_wide x A1 c1 l1 w hx hkw (.inl rfl) hka
  | false =>
    obtain ⟨hn, n1, n2, n3, n4⟩ := hnar rfl
    have hchk := refCheck_ev x.light x.under x.trim x.leaves x.holds x.sills x.lots hn.h hn.s hn.n hn.l
    obtain ⟨kq, hq⟩ := hchk.rounds
    by_cases hbig : (x.lots.length : Int) > 3 ∧ checkE x.light x.under x.trim x.holds x.leaves x.sills x.lots = 0
    · rw [hbig.2] at hq
      exact bests_wide x A1 c1 l1 w hx hkw (.inr ⟨rfl, hbig.1, kq, hq⟩) hka
    · have hlg : ¬ (x.lots.length : Int) > 3 ∨ ((x.lots.length : Int) > 3 ∧ ∃ kq e', swarfref07_Check.f kq x.light x.under x.trim x.holds x.leaves x.sills x.lots = some e' ∧ ¬ e' = 0) := by
        by_cases h : (x.lots.length : Int) > 3
        · exact .inr ⟨h, kq, _, hq, fun h' => hbig ⟨h, h'⟩⟩
        · exact .inl h
      have e0 : swarfkit_FeedOf.f l1 = some (feedAll l1) := by unfold swarfkit_FeedOf.f; rw [if_pos (by omega)]
      obtain ⟨T, f1, e1, hT⟩ := either_ok (feedAll l1) [4, 30] (by simp) (show 2 ≤ 1000 by decide)
      have hTb : 1 ≤ T ∧ T ≤ 1000 := by
        rcases List.mem_cons.1 hT with rfl | hT
        · omega
        · rw [List.mem_singleton.1 hT]; omega
      obtain ⟨⟨L, U, R, holds, V, sills, lots, f2⟩, e2, hv⟩ := voyageOf_res f1 2 2 4 T (by decide) (by decide) (by decide) (by decide) hTb.1 hTb.2
      replace hv : VoyOK 2 2 4 T L U R holds V sills lots := hv
      obtain ⟨kv, e2⟩ := e2.rounds
      have hnm : Narrow holds sills lots := ⟨by have := hv.hn; omega, by have := hv.sn; omega, fun y hy => by obtain ⟨_, _, _, _, a5, _⟩ := hv.si y hy; omega, by have := hv.ln; omega⟩
      have hcx : swarfkit_CopyVoyage.f x.light x.under x.trim x.holds x.leaves x.sills x.lots = some (x.light, x.under, x.trim, x.holds, x.leaves, x.sills, x.lots) := by
        unfold swarfkit_CopyVoyage.f
        rw [if_pos ⟨by omega, by omega, by omega, fun y hy => by have := n4 y hy; omega⟩]
      exact bests_walk x A1 c1 l1 w hx hr1 hc1 hkw hlg e0 e1 e2 (bestQ_of hn hcx) (bestQ_of hnm (copy_ok hv (by decide) (by decide) (by decide))) hka
end Go.Proofs.Ytodmemndaaiolaa.PC7
namespace Go.Proofs.Ytodmemndaaiolaa.shipBests
open Go.ChangeShapes Go.WideShapes Go.ChangeAt Go.RowKit Go.Proofs.Ytodmemndaaiolaa Go.Proofs.YtodmemndaaiolaaW
open Go.ChangeMaps (open_string shut_string)
set_option linter.unusedVariables false
theorem own : ownKnob Try.prog.godebug = none := by kernel_rfl
theorem laidOut : laidOutB Try.prog = true := by kernel_rfl
set_option maxRecDepth 100000 in
theorem lifted (os : Os) (started : os.Started) (H : Type) (enc : TypeId × Value → H) :
    ReturnsInHanded {} Try.checked os 4 .any (Rows.shipBestsSpec.pre6 enc Try.prog Try.f4 Rows.shipBestsRow.domain false) (Rows.shipBestsSpec.post enc Try.prog Try.f4 false true false false) := by
  refine returnsInHanded_of_change_sized (C := Try.checked) own started (by kernel_rfl) Try.func4
    (ChangeSpec.witness6 (enc := enc) (C := Try.checked) false ⟨#[], #[.agg #[.int .i64 0, .int .i64 0, .int .i64 0, .slice none 0 0, .int .i64 0, .slice none 0 0, .slice none 0 0], .slice none 0 0], []⟩ 8 (by kernel_rfl) (by kernel_rfl) (by kernel_rfl) (by kernel_rfl)) ?_
  intro W base args ds gs before hval0 hW hcnd hsz0 _
  have hsz : (DataW.weightsEach Try.prog (Try.f4.params.toList ++ Rows.shipBestsSpec.plain.varTypes Try.prog) (ds ++ gs)).all (· ≤ reachBytes) = true := hsz0
  have hval : ∀ (j : Nat) t v, Try.f4.params[j]? = some t → args[j]? = some v → Value.okWide Try.prog W .any base t v := hval0
  have hW' := hW
  obtain ⟨p, q, hA0, hV, rfl, hfz, hnd⟩ := hW
  have hA : DataW.TrodAll enc Try.prog W 0 (fun _ => true) true Try.f4.params.toList args.toList ds p := hA0
  rw [Try.params4] at hA hval hsz
  obtain ⟨v0, vs0, d0, ds0, p0, q0, hargs, rfl, rfl, h0, r0⟩ := trodAll_cons hA
  obtain ⟨v1, vs1, d1, ds1, p1, q1, rfl, rfl, rfl, h1, r1⟩ := trodAll_cons r0
  obtain ⟨rfl, rfl, rfl⟩ := trodAll_nil r1
  obtain rfl : args = #[v0, v1] := by cases args; simp_all
  obtain ⟨rfl, rfl⟩ := trodVars_none hV
  have k0 := h0
  have lt0 : ∀ x ∈ p0, x.block < W.heap.size := by obtain ⟨m, hm⟩ := k0; exact DataW.trod_lt m _ _ _ hm
  obtain ⟨x0, rfl, hx0⟩ := PC7.open_voy (hval 0 26 v0 rfl rfl) h0
  obtain ⟨a1, len1, cap1, rfl⟩ := okWide_slice Try.underlying27 (hval 1 27 v1 rfl rfl)
  have k1 := h1
  have lt1 : ∀ x ∈ p1, x.block < W.heap.size := by obtain ⟨m, hm⟩ := k1; exact DataW.trod_lt m _ _ _ hm
  have y1 : len1 * 8 ≤ 140737488351232 := Go.Proofs.YtodmemndaaiolaaW.PrintWords.sized_ints hsz (j := 1) (t := 27) rfl rfl Try.underlying27 Try.underlying3 (by kernel_rfl) (by kernel_rfl) h1
  obtain ⟨A1, c1, l1, e1, hl1, _, hC1⟩ := (fun h => let ⟨_, hf⟩ := h; PC7.open_row (d := PrintWords.Kd.int .i64) (e := 3) Try.underlying27 (by kernel_rfl) (PC7.opens_int Try.underlying3) hf : _ → _) h1
  have f1 : [Value.slice a1 len1 cap1] = [Value.slice A1 l1.length c1] := e1
  injection f1 with f1 _
  injection f1 with f1 g1 k_1
  subst f1; subst g1; subst k_1
  clear hA0 hval0 hsz0 hsz
  refine (PC7.bests_all x0 a1 cap1 l1 W hx0 hC1 hl1 (by omega)).mono fun e W' ⟨he, bel⟩ => ?_
  subst he
  exact ⟨_, rfl, _, _, _, [], _, [], hW', trodAll_mk1 (shut_bool Try.underlying4 _), (trodAll_cons_mk (Below.trod laidOut (by kernel_rfl) (of_decide_eq_true (by kernel_rfl)) k0 bel lt0) (trodAll_cons_mk (Below.trod laidOut (by kernel_rfl) (of_decide_eq_true (by kernel_rfl)) k1 bel lt1) trodAll_mk0)), rfl, bel.frame _, fun h => by cases h⟩
theorem over : Rows.shipBestsRow.holds Try.pinned (OpenSpec.ofChange Rows.shipBestsSpec) :=
  OpenClaim.holds_of_wide 4 Try.f4 rfl rfl rfl rfl rfl rfl rfl ⟨rfl, rfl, rfl, rfl, rfl⟩ rfl rfl rfl rfl rfl (by kernel_rfl) Try.func4 (by kernel_rfl)
    (of_decide_eq_true (by kernel_rfl)) (by unfold Func.isWrapper; first | (rw [if_pos (by decide +kernel)]; kernel_rfl) | (rw [if_neg (by decide +kernel)]; exact ⟨rfl, rfl⟩))
    (fun os started H enc _ => lifted os started H enc)
theorem proved : Rows.ShipBestsSaid := over
#print axioms proved
end Go.Proofs.Ytodmemndaaiolaa.shipBests
namespace Go.Proofs.Ytodmemndaaiolaa
theorem shipBests_holds : Rows.ShipBestsSaid := shipBests.proved
end Go.Proofs.Ytodmemndaaiolaa
