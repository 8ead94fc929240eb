/- Lemmas on the way to this: whatever truly is -/
import Derived.Test.YtodmemndaaiolaaCShipTrue1
import Derived.Outline
import Derived.RegionTactic
import Derived.BigRegion
import Derived.ChangeAlike
import Derived.Deep.DeepCutAuto
import Derived.Deep.CutRange
import Derived.WalkMore
import Derived.ChangeKeysEq
import Derived.Laws.StructEq
namespace Go.Proofs.Ytodmemndaaiolaa.PC7
open Go.RowKit Go.Proofs.YtodmemndaaiolaaW.PrintWords Go.Proofs.YtodmemndaaiolaaW.PrintLast Go.Proofs.YtodmemndaaiolaaW.PrintMore
attribute [local go_sem] max2_int min2_int max_two min_two max_three min_three max_four min_four
set_option linter.unusedVariables false
set_option linter.unusedSimpArgs false
mutual
def ship_Check.j0 : Nat → Bool → Int → Int → Int → List (S85) → Int → List (S59) → List (S79) → Option (Int)
 | 0, _, _, _, _, _, _, _, _ => none
 | k + 1, x27, x120000, x120001, x120002, x120003, x120004, x120005, x120006 => if x27 = true then (some 1) else ((ship_many.f (x120003.length : Int) 3).bind fun t123 => (if t123 = 0 then (ship_Check.l0 k x120003 (x120003.length : Int) 0 x120000 x120001 x120002 x120003 x120004 x120005 x120006) else (some t123)))
def ship_Check.l0 : Nat → List (S85) → Int → Int → Int → Int → Int → List (S85) → Int → List (S59) → List (S79) → Option (Int)
 | 0, _, _, _, _, _, _, _, _, _, _ => none
 | k + 1, x36, x37, x38, x120000, x120001, x120002, x120003, x120004, x120005, x120006 => if x38 < x37 then (if 0 ≤ x38 then (if x38 < (x36.length : Int) then ((ship_in.f ((rd_T85 x36 x38).f0) 0 5000).bind fun t126 => (if t126 = true then ((ship_in.f ((rd_T85 x36 x38).f1) 0 10000).bind fun t127 => (if t127 = true then ((ship_in.f ((rd_T85 x36 x38).f2) 0 10000).bind fun t128 => (if t128 = true then (ship_Check.l0 k x36 x37 (wrap64 (x38 + 1)) x120000 x120001 x120002 x120003 x120004 x120005 x120006) else (some 1))) else (some 1))) else (some 1))) else (none)) else (none)) else ((ship_in.f x120004 0 2880).bind fun t129 => (if t129 = true then (if (x120005.length : Int) > 4 then (some 6) else (ship_Check.l1 k x120005 (x120005.length : Int) 0 x120000 x120001 x120002 x120003 x120004 x120005 x120006)) else (some 1)))
def ship_Check.l1 : Nat → List (S59) → Int → Int → Int → Int → Int → List (S85) → Int → List (S59) → List (S79) → Option (Int)
 | 0, _, _, _, _, _, _, _, _, _, _ => none
 | k + 1, x70, x71, x72, x120000, x120001, x120002, x120003, x120004, x120005, x120006 => if x72 < x71 then (if 0 ≤ x72 then (if x72 < (x70.length : Int) then ((ship_checkSill.f k ((rd_T59 x70 x72).f0.f0) ((rd_T59 x70 x72).f0.f1) ((rd_T59 x70 x72).f1)).bind fun t132 => (if t132 = 0 then (ship_Check.l1 k x70 x71 (wrap64 (x72 + 1)) x120000 x120001 x120002 x120003 x120004 x120005 x120006) else (some t132))) else (none)) else (none)) else (if (x120006.length : Int) > 6 then (some 6) else (ship_Check.l2 k x120006 (x120006.length : Int) 0))
def ship_Check.l2 : Nat → List (S79) → Int → Int → Option (Int)
 | 0, _, _, _ => none
 | k + 1, x87, x88, x89 => if x89 < x88 then (if 0 ≤ x89 then (if x89 < (x87.length : Int) then ((ship_checkRange.f k ((rd_T79 x87 x89).f0.f0) ((rd_T79 x87 x89).f0.f1) 5000).bind fun t135 => (if t135 = 0 then ((ship_in.f ((rd_T79 x87 x89).f1) 0 100000).bind fun t136 => (if t136 = true then (ship_Check.l2 k x87 x88 (wrap64 (x89 + 1))) else (some 1))) else (some t135))) else (none)) else (none)) else (some 0)
end
def ship_Check.f (k : Nat) (a0_0 : Int) (a0_1 : Int) (a0_2 : Int) (l0_3 : List (S85)) (a0_4 : Int) (l0_5 : List (S59)) (l0_6 : List (S79)) : Option (Int) := (ship_in.f a0_0 0 5000).bind fun t120 => (if t120 = true then ((ship_in.f a0_1 0 5000).bind fun t121 => (if t121 = true then ((ship_in.f a0_2 0 5000).bind fun t122 => (ship_Check.j0 k (!t122) a0_0 a0_1 a0_2 l0_3 a0_4 l0_5 l0_6)) else (ship_Check.j0 k true a0_0 a0_1 a0_2 l0_3 a0_4 l0_5 l0_6))) else (ship_Check.j0 k true a0_0 a0_1 a0_2 l0_3 a0_4 l0_5 l0_6))
theorem ship_Check.mono_l : ∀ k, (∀ y0 y1 y2 y3 y4 y5 y6 y7, LeO (ship_Check.j0 k y0 y1 y2 y3 y4 y5 y6 y7) (ship_Check.j0 (k + 1) y0 y1 y2 y3 y4 y5 y6 y7)) ∧ (∀ y0 y1 y2 y3 y4 y5 y6 y7 y8 y9, LeO (ship_Check.l0 k y0 y1 y2 y3 y4 y5 y6 y7 y8 y9) (ship_Check.l0 (k + 1) y0 y1 y2 y3 y4 y5 y6 y7 y8 y9)) ∧ (∀ y0 y1 y2 y3 y4 y5 y6 y7 y8 y9, LeO (ship_Check.l1 k y0 y1 y2 y3 y4 y5 y6 y7 y8 y9) (ship_Check.l1 (k + 1) y0 y1 y2 y3 y4 y5 y6 y7 y8 y9)) ∧ (∀ y0 y1 y2, LeO (ship_Check.l2 k y0 y1 y2) (ship_Check.l2 (k + 1) y0 y1 y2))
 | 0 => ⟨fun _ _ _ _ _ _ _ _ r h => by simp [ship_Check.j0] at h, fun _ _ _ _ _ _ _ _ _ _ r h => by simp [ship_Check.l0] at h, fun _ _ _ _ _ _ _ _ _ _ r h => by simp [ship_Check.l1] at h, fun _ _ _ r h => by simp [ship_Check.l2] at h⟩
 | k + 1 => by
  obtain ⟨ih0, ih1, ih2, ih3⟩ := ship_Check.mono_l k
  refine ⟨?_, ?_, ?_, ?_⟩
  ·
   intro y0 y1 y2 y3 y4 y5 y6 y7
   unfold ship_Check.j0
   repeat' first
   | (with_reducible exact ih0 _ _ _ _ _ _ _ _)
   | (with_reducible exact ih1 _ _ _ _ _ _ _ _ _ _)
   | (with_reducible exact ih2 _ _ _ _ _ _ _ _ _ _)
   | (with_reducible exact ih3 _ _ _)
   | (with_reducible exact ship_checkRange.mono _ _ _ _)
   | (with_reducible exact ship_checkSill.mono _ _ _ _)
   | (with_reducible exact LeO.refl _)
   | (with_reducible exact LeO.none _)
   | (with_reducible refine LeO.ite ?_ ?_)
   | (with_reducible refine LeO.bind ?_ (fun _ => ?_))
   | exact ih0 _ _ _ _ _ _ _ _
   | exact ih1 _ _ _ _ _ _ _ _ _ _
   | exact ih2 _ _ _ _ _ _ _ _ _ _
   | exact ih3 _ _ _
   | exact ship_checkRange.mono _ _ _ _
   | exact ship_checkSill.mono _ _ _ _
   | exact LeO.none _
   | refine LeO.ite ?_ ?_
   | refine LeO.bind ?_ (fun _ => ?_)
  ·
   intro y0 y1 y2 y3 y4 y5 y6 y7 y8 y9
   unfold ship_Check.l0
   repeat' first
   | (with_reducible exact ih0 _ _ _ _ _ _ _ _)
   | (with_reducible exact ih1 _ _ _ _ _ _ _ _ _ _)
   | (with_reducible exact ih2 _ _ _ _ _ _ _ _ _ _)
   | (with_reducible exact ih3 _ _ _)
   | (with_reducible exact ship_checkRange.mono _ _ _ _)
   | (with_reducible exact ship_checkSill.mono _ _ _ _)
   | (with_reducible exact LeO.refl _)
   | (with_reducible exact LeO.none _)
   | (with_reducible refine LeO.ite ?_ ?_)
   | (with_reducible refine LeO.bind ?_ (fun _ => ?_))
   | exact ih0 _ _ _ _ _ _ _ _
   | exact ih1 _ _ _ _ _ _ _ _ _ _
   | exact ih2 _ _ _ _ _ _ _ _ _ _
   | exact ih3 _ _ _
   | exact ship_checkRange.mono _ _ _ _
   | exact ship_checkSill.mono _ _ _ _
   | exact LeO.none _
   | refine LeO.ite ?_ ?_
   | refine LeO.bind ?_ (fun _ => ?_)
  ·
   intro y0 y1 y2 y3 y4 y5 y6 y7 y8 y9
   unfold ship_Check.l1
   repeat' first
   | (with_reducible exact ih0 _ _ _ _ _ _ _ _)
   | (with_reducible exact ih1 _ _ _ _ _ _ _ _ _ _)
   | (with_reducible exact ih2 _ _ _ _ _ _ _ _ _ _)
   | (with_reducible exact ih3 _ _ _)
   | (with_reducible exact ship_checkRange.mono _ _ _ _)
   | (with_reducible exact ship_checkSill.mono _ _ _ _)
   | (with_reducible exact LeO.refl _)
   | (with_reducible exact LeO.none _)
   | (with_reducible refine LeO.ite ?_ ?_)
   | (with_reducible refine LeO.bind ?_ (fun _ => ?_))
   | exact ih0 _ _ _ _ _ _ _ _
   | exact ih1 _ _ _ _ _ _ _ _ _ _
   | exact ih2 _ _ _ _ _ _ _ _ _ _
   | exact ih3 _ _ _
   | exact ship_checkRange.mono _ _ _ _
   | exact ship_checkSill.mono _ _ _ _
   | exact LeO.none _
   | refine LeO.ite ?_ ?_
   | refine LeO.bind ?_ (fun _ => ?_)
  ·
   intro y0 y1 y2
   unfold ship_Check.l2
   repeat' first
   | (with_reducible exact ih0 _ _ _ _ _ _ _ _)
   | (with_reducible exact ih1 _ _ _ _ _ _ _ _ _ _)
   | (with_reducible exact ih2 _ _ _ _ _ _ _ _ _ _)
   | (with_reducible exact ih3 _ _ _)
   | (with_reducible exact ship_checkRange.mono _ _ _ _)
   | (with_reducible exact ship_checkSill.mono _ _ _ _)
   | (with_reducible exact LeO.refl _)
   | (with_reducible exact LeO.none _)
   | (with_reducible refine LeO.ite ?_ ?_)
   | (with_reducible refine LeO.bind ?_ (fun _ => ?_))
   | exact ih0 _ _ _ _ _ _ _ _
   | exact ih1 _ _ _ _ _ _ _ _ _ _
   | exact ih2 _ _ _ _ _ _ _ _ _ _
   | exact ih3 _ _ _
   | exact ship_checkRange.mono _ _ _ _
   | exact ship_checkSill.mono _ _ _ _
   | exact LeO.none _
   | refine LeO.ite ?_ ?_
   | refine LeO.bind ?_ (fun _ => ?_)
theorem ship_Check.mono : ∀ a0 a1 a2 a3 a4 a5 a6 k, LeO (ship_Check.f k a0 a1 a2 a3 a4 a5 a6) (ship_Check.f (k + 1) a0 a1 a2 a3 a4 a5 a6) := by
 intro a0 a1 a2 a3 a4 a5 a6 k
 obtain ⟨ih0, ih1, ih2, ih3⟩ := ship_Check.mono_l k
 unfold ship_Check.f
 repeat' first
   | (with_reducible exact ih0 _ _ _ _ _ _ _ _)
   | (with_reducible exact ih1 _ _ _ _ _ _ _ _ _ _)
   | (with_reducible exact ih2 _ _ _ _ _ _ _ _ _ _)
   | (with_reducible exact ih3 _ _ _)
   | (with_reducible exact ship_checkRange.mono _ _ _ _)
   | (with_reducible exact ship_checkSill.mono _ _ _ _)
   | (with_reducible exact LeO.refl _)
   | (with_reducible exact LeO.none _)
   | (with_reducible refine LeO.ite ?_ ?_)
   | (with_reducible refine LeO.bind ?_ (fun _ => ?_))
   | exact ih0 _ _ _ _ _ _ _ _
   | exact ih1 _ _ _ _ _ _ _ _ _ _
   | exact ih2 _ _ _ _ _ _ _ _ _ _
   | exact ih3 _ _ _
   | exact ship_checkRange.mono _ _ _ _
   | exact ship_checkSill.mono _ _ _ _
   | exact LeO.none _
   | refine LeO.ite ?_ ?_
   | refine LeO.bind ?_ (fun _ => ?_)
set_option maxHeartbeats 8000000 in
set_option maxRecDepth 100000 in
theorem ship_Check.calls (k : Nat) (a0_0 : Int) (a0_1 : Int) (a0_2 : Int) (A0_3 : Option Addr) (c0_3 : Nat) (l0_3 : List (S85)) (a0_4 : Int) (A0_5 : Option Addr) (c0_5 : Nat) (l0_5 : List (S59)) (A0_6 : Option Addr) (c0_6 : Nat) (l0_6 : List (S79)) (r : Int) (w : World) (hr0_3 : Kd.C k85 w A0_3 l0_3.length l0_3) (hc0_3 : l0_3.length ≤ c0_3) (hr0_5 : Kd.C k59 w A0_5 l0_5.length l0_5) (hc0_5 : l0_5.length ≤ c0_5) (hr0_6 : Kd.C k79 w A0_6 l0_6.length l0_6) (hc0_6 : l0_6.length ≤ c0_6) (h : ship_Check.f k a0_0 a0_1 a0_2 l0_3 a0_4 l0_5 l0_6 = some r) :
  Calls Try.prog 39 #[.agg #[.int .i64 a0_0, .int .i64 a0_1, .int .i64 a0_2, .slice A0_3 l0_3.length c0_3, .int .i64 a0_4, .slice A0_5 l0_5.length c0_5, .slice A0_6 l0_6.length c0_6]] w fun e w' => e = .returned (.int .i64 r) ∧ Below w.heap.size w w' := by
 have hu26 := Try.underlying26
 have hu85 := Try.underlying85
 have hu59 := Try.underlying59
 have hu79 := Try.underlying79
 have hu56 := Try.underlying56
 have HR0_3 := Aside0.mk hr0_3
 have HC0_3 := Aside0.mk hc0_3
 clear hr0_3 hc0_3
 have HR0_5 := Aside0.mk hr0_5
 have HC0_5 := Aside0.mk hc0_5
 clear hr0_5 hc0_5
 have HR0_6 := Aside0.mk hr0_6
 have HC0_6 := Aside0.mk hc0_6
 clear hr0_6 hc0_6
 have HB := Aside0.mk (Below.refl w.heap.size w)
 have H : ((ship_in.f a0_0 0 5000).bind fun t120 => (if t120 = true then ((ship_in.f a0_1 0 5000).bind fun t121 => (if t121 = true then ((ship_in.f a0_2 0 5000).bind fun t122 => (ship_Check.j0 k (!t122) a0_0 a0_1 a0_2 l0_3 a0_4 l0_5 l0_6)) else (ship_Check.j0 k true a0_0 a0_1 a0_2 l0_3 a0_4 l0_5 l0_6))) else (ship_Check.j0 k true a0_0 a0_1 a0_2 l0_3 a0_4 l0_5 l0_6))) = some r := h
 clear h
 have HC2 := Aside0.mk H
 clear H
 go_enter Try.func39, Try.ntmps39
 go_upto_region 1 with (first | ((with_reducible refine gate_dst (N := 1) rfl ?_); refine box_event ?hg (N := 1) ?hd (cs := #[.int .i64 a0_0, .int .i64 a0_1, .int .i64 a0_2, .slice A0_3 l0_3.length c0_3, .int .i64 a0_4, .slice A0_5 l0_5.length c0_5, .slice A0_6 l0_6.length c0_6]) (t := 26) ?hr ?_; (case hd => rfl); (case hg => rfl); (case hr => first | (go_simp; done) | (go_simp; rfl)); intro gb119 hg w3 hbox hb; have BK119 := Aside0.mk (hbox); have GW119 := Aside0.mk ((by rw [hg]; exact (below_size (below_x HB.out)) : w.heap.size ≤ gb119)); have GE119 := Aside0.mk ((by rw [hg]; exact (below_size (below_x HB.out)) : w.heap.size ≤ gb119)); replace HB := Aside0.mk (below_step (below_x HB.out) hb); clear hb hbox hg))
 (try simp only [Act.put, put_x])
 go_cut [27] (fun v27 wc => ∃ (kq : Nat) (x27_1 : Bool), v27 = .bool x27_1 ∧ Aside0 (ship_Check.j0 kq x27_1 a0_0 a0_1 a0_2 l0_3 a0_4 l0_5 l0_6 = some r) ∧ Aside0 (kq ≤ k) ∧ Aside0 (wc.heap[gb119]? = some (.cells #[.int .i64 a0_0, .int .i64 a0_1, .int .i64 a0_2, (.slice A0_3 l0_3.length c0_3), .int .i64 a0_4, (.slice A0_5 l0_5.length c0_5), (.slice A0_6 l0_6.length c0_6)] 26 (0, 0))) ∧ Aside0 (Below w.heap.size w wc))
 case first =>
  have H := HC2.out
  clear HC2
  replace H := Option.bind_eq_some_iff.mp H
  obtain ⟨t120, A40, H⟩ := H
  try dsimp only at H
  have A4 := Aside0.mk A40
  clear A40
  by_cases c5 : t120 = true
  ·
   subst c5
   have H1 : ((ship_in.f a0_1 0 5000).bind fun t121 => (if t121 = true then ((ship_in.f a0_2 0 5000).bind fun t122 => (ship_Check.j0 k (!t122) a0_0 a0_1 a0_2 l0_3 a0_4 l0_5 l0_6)) else (ship_Check.j0 k true a0_0 a0_1 a0_2 l0_3 a0_4 l0_5 l0_6))) = some r := by rw [if_pos rfl] at H; exact H
   clear H
   have H := H1
   clear H1
   replace H := Option.bind_eq_some_iff.mp H
   obtain ⟨t121, A60, H⟩ := H
   try dsimp only at H
   have A6 := Aside0.mk A60
   clear A60
   by_cases c7 : t121 = true
   ·
    subst c7
    have H1 : ((ship_in.f a0_2 0 5000).bind fun t122 => (ship_Check.j0 k (!t122) a0_0 a0_1 a0_2 l0_3 a0_4 l0_5 l0_6)) = some r := by rw [if_pos rfl] at H; exact H
    clear H
    have H := H1
    clear H1
    replace H := Option.bind_eq_some_iff.mp H
    obtain ⟨t122, A80, H⟩ := H
    try dsimp only at H
    have A8 := Aside0.mk A80
    clear A80
    have H' := Aside0.mk H
    clear H
    obtain ⟨_, _, _, _, _, _, _⟩ := cz7 BK119
    have hfz9_0 := blk_frozen BK119.out
    go_wp2_with (first | ((with_reducible refine gate_callee (f := 72) rfl ?_); refine goesL_ (some 14) rfl rfl Try.func72 (by kernel_rfl) rfl #[.int .i64 a0_0, .int .i64 0, .int .i64 5000] rfl (by (try simp only [List.map_toArray, List.map_cons, List.map_nil]); first | done | rfl | (simp only [List.length_drop, List.length_take]; rfl)) ?_; (with_reducible refine (ship_in.calls a0_0 0 5000 true _ A4.out).mono ?_); rintro e w' ⟨rfl, ⟨nd, rfl⟩⟩; refine ⟨_, rfl, ?_⟩) | (go_at_call 72; (with_reducible refine (ship_in.calls a0_1 0 5000 true _ A6.out).mono ?_); rintro e w' ⟨rfl, ⟨nd, rfl⟩⟩) | (go_at_call 72; (with_reducible refine (ship_in.calls a0_2 0 5000 t122 _ A8.out).mono ?_); rintro e w' ⟨rfl, ⟨nd, rfl⟩⟩))
    go_meet
    case rel => exact ⟨_, (!t122), (by first | rfl | (simp; done) | (simp [*]; done)), H', ⟨by first | omega | exact Nat.le_refl _⟩, ⟨blk_x BK119.out⟩, ⟨by exact below_y HB.out⟩⟩
   ·
    replace c7 := Bool.eq_false_iff.mpr c7
    subst c7
    have H1 : (ship_Check.j0 k true a0_0 a0_1 a0_2 l0_3 a0_4 l0_5 l0_6) = some r := by rw [if_neg (show ¬ (false = true) by decide)] at H; exact H
    clear H
    have H := H1
    clear H1
    have H' := Aside0.mk H
    clear H
    obtain ⟨_, _, _, _, _, _, _⟩ := cz7 BK119
    have hfz10_0 := blk_frozen BK119.out
    go_wp2_with (first | ((with_reducible refine gate_callee (f := 72) rfl ?_); refine goesL_ (some 14) rfl rfl Try.func72 (by kernel_rfl) rfl #[.int .i64 a0_0, .int .i64 0, .int .i64 5000] rfl (by (try simp only [List.map_toArray, List.map_cons, List.map_nil]); first | done | rfl | (simp only [List.length_drop, List.length_take]; rfl)) ?_; (with_reducible refine (ship_in.calls a0_0 0 5000 true _ A4.out).mono ?_); rintro e w' ⟨rfl, ⟨nd, rfl⟩⟩; refine ⟨_, rfl, ?_⟩) | (go_at_call 72; (with_reducible refine (ship_in.calls a0_1 0 5000 false _ A6.out).mono ?_); rintro e w' ⟨rfl, ⟨nd, rfl⟩⟩))
    go_meet
    case rel => exact ⟨_, (true), (by first | rfl | (simp; done) | (simp [*]; done)), H', ⟨by first | omega | exact Nat.le_refl _⟩, ⟨blk_x BK119.out⟩, ⟨by exact below_y HB.out⟩⟩
  ·
   replace c5 := Bool.eq_false_iff.mpr c5
   subst c5
   have H1 : (ship_Check.j0 k true a0_0 a0_1 a0_2 l0_3 a0_4 l0_5 l0_6) = some r := by rw [if_neg (show ¬ (false = true) by decide)] at H; exact H
   clear H
   have H := H1
   clear H1
   have H' := Aside0.mk H
   clear H
   obtain ⟨_, _, _, _, _, _, _⟩ := cz7 BK119
   have hfz11_0 := blk_frozen BK119.out
   go_wp2_with (first | ((with_reducible refine gate_callee (f := 72) rfl ?_); refine goesL_ (some 14) rfl rfl Try.func72 (by kernel_rfl) rfl #[.int .i64 a0_0, .int .i64 0, .int .i64 5000] rfl (by (try simp only [List.map_toArray, List.map_cons, List.map_nil]); first | done | rfl | (simp only [List.length_drop, List.length_take]; rfl)) ?_; (with_reducible refine (ship_in.calls a0_0 0 5000 false _ A4.out).mono ?_); rintro e w' ⟨rfl, ⟨nd, rfl⟩⟩; refine ⟨_, rfl, ?_⟩))
   go_meet
   case rel => exact ⟨_, (true), (by first | rfl | (simp; done) | (simp [*]; done)), H', ⟨by first | omega | exact Nat.le_refl _⟩, ⟨blk_x BK119.out⟩, ⟨by exact below_y HB.out⟩⟩
 case rest =>
  clear HC2
  obtain ⟨kq, x27_1, rfl, HA, HJ1, BK119, HB⟩ := hcut
  cases kq with
  | zero => exact absurd HA.out (by simp [ship_Check.j0])
  | succ kj1 =>
   have H := HA.out
   clear HA
   simp only [ship_Check.j0] at H
   by_cases c12 : x27_1 = true
   ·
    subst c12
    have H1 : (some 1) = some r := by rw [if_pos rfl] at H; exact H
    clear H
    have H := H1
    clear H1
    obtain rfl := Option.some.inj H
    go_wp2
    go_ret
    exact ⟨by first | rfl | (simp [errW_none, errW_some] <;> rfl) | (simp [*, errW_none, errW_some] <;> rfl), by exact below_y HB.out⟩
   ·
    replace c12 := Bool.eq_false_iff.mpr c12
    subst c12
    have H1 : ((ship_many.f (l0_3.length : Int) 3).bind fun t123 => (if t123 = 0 then (ship_Check.l0 kj1 l0_3 (l0_3.length : Int) 0 a0_0 a0_1 a0_2 l0_3 a0_4 l0_5 l0_6) else (some t123))) = some r := by rw [if_neg (show ¬ (false = true) by decide)] at H; exact H
    clear H
    have H := H1
    clear H1
    replace H := Option.bind_eq_some_iff.mp H
    obtain ⟨t123, A130, H⟩ := H
    try dsimp only at H
    have A13 := Aside0.mk A130
    clear A130
    by_cases c14 : t123 = 0
    ·
     rw [if_pos c14] at H
     have c14b0 : (t123 == 0) = true := beq_iff_eq.mpr c14
     have c14b1 : (t123 != 0) = false := bne_eq_false_iff_eq.mpr c14
     clear c14
     have H' := Aside0.mk H
     clear H
     obtain ⟨_, _, _, _, _, _, _⟩ := cz7 BK119
     have hfz15_0 := blk_frozen BK119.out
     go_wp2_with (first | ((with_reducible refine gate_callee (f := 73) rfl ?_); refine goesL_ (some 31) rfl rfl Try.func73 (by kernel_rfl) rfl #[.int .i64 (l0_3.length : Int), .int .i64 3] rfl (by (try simp only [List.map_toArray, List.map_cons, List.map_nil]); first | done | rfl | (simp only [List.length_drop, List.length_take]; rfl)) ?_; (with_reducible refine (ship_many.calls (l0_3.length : Int) 3 t123 _ A13.out).mono ?_); rintro e w' ⟨rfl, ⟨nd, rfl⟩⟩; refine ⟨_, rfl, ?_⟩))
     go_loopg [38] kj1 (fun kq v38 w' => ∃ (x38_2 : Int), v38 = .int .i64 x38_2 ∧ Aside0 (ship_Check.l0 kq l0_3 (l0_3.length : Int) x38_2 a0_0 a0_1 a0_2 l0_3 a0_4 l0_5 l0_6 = some r) ∧ Aside0 (kq ≤ kj1) ∧ Aside0 (w'.heap[gb119]? = some (.cells #[.int .i64 a0_0, .int .i64 a0_1, .int .i64 a0_2, (.slice A0_3 l0_3.length c0_3), .int .i64 a0_4, (.slice A0_5 l0_5.length c0_5), (.slice A0_6 l0_6.length c0_6)] 26 (0, 0))) ∧ Aside0 (Below w.heap.size w w'))
     case atStart => exact ⟨(0), (by first | rfl | (simp; done) | (simp [*]; done)), H', ⟨Nat.le_refl _⟩, ⟨blk_x BK119.out⟩, ⟨by exact below_y HB.out⟩⟩
     case round =>
      clear H'
      obtain ⟨x38_2, rfl, HA, HK2, BK119, HB⟩ := hrel
      cases gk with
      | zero => exact absurd HA.out (by simp [ship_Check.l0])
      | succ k2 =>
       have H := HA.out
       clear HA
       simp only [ship_Check.l0] at H
       by_cases c16 : x38_2 < (l0_3.length : Int)
       ·
        rw [if_pos c16] at H
        have c16b0 : decide (x38_2 < (l0_3.length : Int)) = true := decide_eq_true c16
        clear c16
        by_cases c17 : 0 ≤ x38_2
        ·
         rw [if_pos c17] at H
         have c17b0 : decide (0 ≤ x38_2) = true := decide_eq_true c17
         clear c17
         by_cases c18 : x38_2 < (l0_3.length : Int)
         ·
          rw [if_pos c18] at H
          have c18b0 : decide (x38_2 < (l0_3.length : Int)) = true := decide_eq_true c18
          clear c18
          replace H := Option.bind_eq_some_iff.mp H
          obtain ⟨t126, A190, H⟩ := H
          try dsimp only at H
          have A19 := Aside0.mk A190
          clear A190
          by_cases c20 : t126 = true
          ·
           subst c20
           have H1 : ((ship_in.f ((rd_T85 l0_3 x38_2).f1) 0 10000).bind fun t127 => (if t127 = true then ((ship_in.f ((rd_T85 l0_3 x38_2).f2) 0 10000).bind fun t128 => (if t128 = true then (ship_Check.l0 k2 l0_3 (l0_3.length : Int) (wrap64 (x38_2 + 1)) a0_0 a0_1 a0_2 l0_3 a0_4 l0_5 l0_6) else (some 1))) else (some 1))) = some r := by rw [if_pos rfl] at H; exact H
           clear H
           have H := H1
           clear H1
           replace H := Option.bind_eq_some_iff.mp H
           obtain ⟨t127, A210, H⟩ := H
           try dsimp only at H
           have A21 := Aside0.mk A210
           clear A210
           by_cases c22 : t127 = true
           ·
            subst c22
            have H1 : ((ship_in.f ((rd_T85 l0_3 x38_2).f2) 0 10000).bind fun t128 => (if t128 = true then (ship_Check.l0 k2 l0_3 (l0_3.length : Int) (wrap64 (x38_2 + 1)) a0_0 a0_1 a0_2 l0_3 a0_4 l0_5 l0_6) else (some 1))) = some r := by rw [if_pos rfl] at H; exact H
            clear H
            have H := H1
            clear H1
            replace H := Option.bind_eq_some_iff.mp H
            obtain ⟨t128, A230, H⟩ := H
            try dsimp only at H
            have A23 := Aside0.mk A230
            clear A230
            by_cases c24 : t128 = true
            ·
             subst c24
             have H1 : (ship_Check.l0 k2 l0_3 (l0_3.length : Int) (wrap64 (x38_2 + 1)) a0_0 a0_1 a0_2 l0_3 a0_4 l0_5 l0_6) = some r := by rw [if_pos rfl] at H; exact H
             clear H
             have H := H1
             clear H1
             have H' := Aside0.mk H
             clear H
             have p124 : 0 ≤ (x38_2 : Int) := of_x
             have q124 : x38_2 < (l0_3.length : Int) := of_x
             obtain ⟨ad124, e124, hx124_0, hx124_1, hx124_2⟩ := at_T85 HR0_3.out x38_2 p124 q124
             cases e124
             replace hx124_0 := cell_x HB hx124_0
             replace hx124_1 := cell_x HB hx124_1
             replace hx124_2 := cell_x HB hx124_2
             replace p124 := eq_true p124
             replace q124 := eq_true q124
             go_wp2_with (first | ((with_reducible refine gate_dst (N := 5) rfl ?_); refine box_event ?hg (N := 5) ?hd (cs := #[.int .i64 0, .int .i64 0, .int .i64 0]) (t := 85) ?hr ?_; (case hd => rfl); (case hg => rfl); (case hr => first | (go_simp; done) | (go_simp; rfl)); intro gb125 hg w25 hbox hb; have BK125 := Aside0.mk (hbox); have GW125 := Aside0.mk ((by rw [hg]; exact (below_size (by exact below_y HB.out)) : w.heap.size ≤ gb125)); have GE125 := Aside0.mk ((by rw [hg]; exact (below_size (by exact below_y HB.out)) : w.heap.size ≤ gb125)); replace HB := bl_x HB hb; have NB119_125 := Aside0.mk ((by rw [hg]; exact Nat.ne_of_lt (blk_lt (g := gb119) (o := .cells #[.int .i64 a0_0, .int .i64 a0_1, .int .i64 a0_2, .slice (some ad124) l0_3.length c0_3, .int .i64 a0_4, .slice A0_5 l0_5.length c0_5, .slice A0_6 l0_6.length c0_6] 26 (0, 0)) (blk_x BK119.out)) : gb119 ≠ gb125)); have NB125_119 := Aside0.mk ((by rw [hg]; exact Nat.ne_of_gt (blk_lt (g := gb119) (o := .cells #[.int .i64 a0_0, .int .i64 a0_1, .int .i64 a0_2, .slice (some ad124) l0_3.length c0_3, .int .i64 a0_4, .slice A0_5 l0_5.length c0_5, .slice A0_6 l0_6.length c0_6] 26 (0, 0)) (blk_x BK119.out)) : gb125 ≠ gb119)); replace BK119 := Aside0.mk (blk_below (blk_x BK119.out) hb); clear hb hbox hg; have hnb26 := NB125_119.out; have hnc26 := NB119_125.out; obtain ⟨_, _, _⟩ := cz3 BK125; have hfz27_0 := blk_frozen BK125.out) | ((with_reducible refine gate_callee (f := 72) rfl ?_); refine goesL_ (some 44) rfl rfl Try.func72 (by kernel_rfl) rfl #[.int .i64 ((rd_T85 l0_3 x38_2).f0), .int .i64 0, .int .i64 5000] rfl (by (try simp only [List.map_toArray, List.map_cons, List.map_nil]); first | done | rfl | (simp only [List.length_drop, List.length_take]; rfl)) ?_; (with_reducible refine (ship_in.calls ((rd_T85 l0_3 x38_2).f0) 0 5000 true _ A19.out).mono ?_); rintro e w' ⟨rfl, ⟨nd, rfl⟩⟩; refine ⟨_, rfl, ?_⟩) | (go_at_call 72; (with_reducible refine (ship_in.calls ((rd_T85 l0_3 x38_2).f1) 0 10000 true _ A21.out).mono ?_); rintro e w' ⟨rfl, ⟨nd, rfl⟩⟩) | (go_at_call 72; (with_reducible refine (ship_in.calls ((rd_T85 l0_3 x38_2).f2) 0 10000 true _ A23.out).mono ?_); rintro e w' ⟨rfl, ⟨nd, rfl⟩⟩))
             go_roundg k2
             case measure => have := HJ1.out; have := HK2.out; omega
             case rel => exact ⟨(wrap64 (x38_2 + 1)), (by first | rfl | (simp; done) | (simp [*]; done)), H', ⟨by have := HJ1.out; have := HK2.out; omega⟩, ⟨blk_w BK119.out⟩, ⟨by exact below_y HB.out⟩⟩
            ·
             replace c24 := Bool.eq_false_iff.mpr c24
             subst c24
             have H1 : (some 1) = some r := by rw [if_neg (show ¬ (false = true) by decide)] at H; exact H
             clear H
             have H := H1
             clear H1
             obtain rfl := Option.some.inj H
             have p124 : 0 ≤ (x38_2 : Int) := of_x
             have q124 : x38_2 < (l0_3.length : Int) := of_x
             obtain ⟨ad124, e124, hx124_0, hx124_1, hx124_2⟩ := at_T85 HR0_3.out x38_2 p124 q124
             cases e124
             replace hx124_0 := cell_x HB hx124_0
             replace hx124_1 := cell_x HB hx124_1
             replace hx124_2 := cell_x HB hx124_2
             replace p124 := eq_true p124
             replace q124 := eq_true q124
             go_wp2_with (first | ((with_reducible refine gate_dst (N := 5) rfl ?_); refine box_event ?hg (N := 5) ?hd (cs := #[.int .i64 0, .int .i64 0, .int .i64 0]) (t := 85) ?hr ?_; (case hd => rfl); (case hg => rfl); (case hr => first | (go_simp; done) | (go_simp; rfl)); intro gb125 hg w28 hbox hb; have BK125 := Aside0.mk (hbox); have GW125 := Aside0.mk ((by rw [hg]; exact (below_size (by exact below_y HB.out)) : w.heap.size ≤ gb125)); have GE125 := Aside0.mk ((by rw [hg]; exact (below_size (by exact below_y HB.out)) : w.heap.size ≤ gb125)); replace HB := bl_x HB hb; have NB119_125 := Aside0.mk ((by rw [hg]; exact Nat.ne_of_lt (blk_lt (g := gb119) (o := .cells #[.int .i64 a0_0, .int .i64 a0_1, .int .i64 a0_2, .slice (some ad124) l0_3.length c0_3, .int .i64 a0_4, .slice A0_5 l0_5.length c0_5, .slice A0_6 l0_6.length c0_6] 26 (0, 0)) (blk_x BK119.out)) : gb119 ≠ gb125)); have NB125_119 := Aside0.mk ((by rw [hg]; exact Nat.ne_of_gt (blk_lt (g := gb119) (o := .cells #[.int .i64 a0_0, .int .i64 a0_1, .int .i64 a0_2, .slice (some ad124) l0_3.length c0_3, .int .i64 a0_4, .slice A0_5 l0_5.length c0_5, .slice A0_6 l0_6.length c0_6] 26 (0, 0)) (blk_x BK119.out)) : gb125 ≠ gb119)); replace BK119 := Aside0.mk (blk_below (blk_x BK119.out) hb); clear hb hbox hg; have hnb29 := NB125_119.out; have hnc29 := NB119_125.out; obtain ⟨_, _, _⟩ := cz3 BK125; have hfz30_0 := blk_frozen BK125.out) | ((with_reducible refine gate_callee (f := 72) rfl ?_); refine goesL_ (some 44) rfl rfl Try.func72 (by kernel_rfl) rfl #[.int .i64 ((rd_T85 l0_3 x38_2).f0), .int .i64 0, .int .i64 5000] rfl (by (try simp only [List.map_toArray, List.map_cons, List.map_nil]); first | done | rfl | (simp only [List.length_drop, List.length_take]; rfl)) ?_; (with_reducible refine (ship_in.calls ((rd_T85 l0_3 x38_2).f0) 0 5000 true _ A19.out).mono ?_); rintro e w' ⟨rfl, ⟨nd, rfl⟩⟩; refine ⟨_, rfl, ?_⟩) | (go_at_call 72; (with_reducible refine (ship_in.calls ((rd_T85 l0_3 x38_2).f1) 0 10000 true _ A21.out).mono ?_); rintro e w' ⟨rfl, ⟨nd, rfl⟩⟩) | (go_at_call 72; (with_reducible refine (ship_in.calls ((rd_T85 l0_3 x38_2).f2) 0 10000 false _ A23.out).mono ?_); rintro e w' ⟨rfl, ⟨nd, rfl⟩⟩))
             go_ret
             exact ⟨by first | rfl | (simp [errW_none, errW_some] <;> rfl) | (simp [*, errW_none, errW_some] <;> rfl), by exact below_y HB.out⟩
           ·
            replace c22 := Bool.eq_false_iff.mpr c22
            subst c22
            have H1 : (some 1) = some r := by rw [if_neg (show ¬ (false = true) by decide)] at H; exact H
            clear H
            have H := H1
            clear H1
            obtain rfl := Option.some.inj H
            have p124 : 0 ≤ (x38_2 : Int) := of_x
            have q124 : x38_2 < (l0_3.length : Int) := of_x
            obtain ⟨ad124, e124, hx124_0, hx124_1, hx124_2⟩ := at_T85 HR0_3.out x38_2 p124 q124
            cases e124
            replace hx124_0 := cell_x HB hx124_0
            replace hx124_1 := cell_x HB hx124_1
            replace hx124_2 := cell_x HB hx124_2
            replace p124 := eq_true p124
            replace q124 := eq_true q124
            go_wp2_with (first | ((with_reducible refine gate_dst (N := 5) rfl ?_); refine box_event ?hg (N := 5) ?hd (cs := #[.int .i64 0, .int .i64 0, .int .i64 0]) (t := 85) ?hr ?_; (case hd => rfl); (case hg => rfl); (case hr => first | (go_simp; done) | (go_simp; rfl)); intro gb125 hg w31 hbox hb; have BK125 := Aside0.mk (hbox); have GW125 := Aside0.mk ((by rw [hg]; exact (below_size (by exact below_y HB.out)) : w.heap.size ≤ gb125)); have GE125 := Aside0.mk ((by rw [hg]; exact (below_size (by exact below_y HB.out)) : w.heap.size ≤ gb125)); replace HB := bl_x HB hb; have NB119_125 := Aside0.mk ((by rw [hg]; exact Nat.ne_of_lt (blk_lt (g := gb119) (o := .cells #[.int .i64 a0_0, .int .i64 a0_1, .int .i64 a0_2, .slice (some ad124) l0_3.length c0_3, .int .i64 a0_4, .slice A0_5 l0_5.length c0_5, .slice A0_6 l0_6.length c0_6] 26 (0, 0)) (blk_x BK119.out)) : gb119 ≠ gb125)); have NB125_119 := Aside0.mk ((by rw [hg]; exact Nat.ne_of_gt (blk_lt (g := gb119) (o := .cells #[.int .i64 a0_0, .int .i64 a0_1, .int .i64 a0_2, .slice (some ad124) l0_3.length c0_3, .int .i64 a0_4, .slice A0_5 l0_5.length c0_5, .slice A0_6 l0_6.length c0_6] 26 (0, 0)) (blk_x BK119.out)) : gb125 ≠ gb119)); replace BK119 := Aside0.mk (blk_below (blk_x BK119.out) hb); clear hb hbox hg; have hnb32 := NB125_119.out; have hnc32 := NB119_125.out; obtain ⟨_, _, _⟩ := cz3 BK125; have hfz33_0 := blk_frozen BK125.out) | ((with_reducible refine gate_callee (f := 72) rfl ?_); refine goesL_ (some 44) rfl rfl Try.func72 (by kernel_rfl) rfl #[.int .i64 ((rd_T85 l0_3 x38_2).f0), .int .i64 0, .int .i64 5000] rfl (by (try simp only [List.map_toArray, List.map_cons, List.map_nil]); first | done | rfl | (simp only [List.length_drop, List.length_take]; rfl)) ?_; (with_reducible refine (ship_in.calls ((rd_T85 l0_3 x38_2).f0) 0 5000 true _ A19.out).mono ?_); rintro e w' ⟨rfl, ⟨nd, rfl⟩⟩; refine ⟨_, rfl, ?_⟩) | (go_at_call 72; (with_reducible refine (ship_in.calls ((rd_T85 l0_3 x38_2).f1) 0 10000 false _ A21.out).mono ?_); rintro e w' ⟨rfl, ⟨nd, rfl⟩⟩))
            go_ret
            exact ⟨by first | rfl | (simp [errW_none, errW_some] <;> rfl) | (simp [*, errW_none, errW_some] <;> rfl), by exact below_y HB.out⟩
          ·
           replace c20 := Bool.eq_false_iff.mpr c20
           subst c20
           have H1 : (some 1) = some r := by rw [if_neg (show ¬ (false = true) by decide)] at H; exact H
           clear H
           have H := H1
           clear H1
           obtain rfl := Option.some.inj H
           have p124 : 0 ≤ (x38_2 : Int) := of_x
           have q124 : x38_2 < (l0_3.length : Int) := of_x
           obtain ⟨ad124, e124, hx124_0, hx124_1, hx124_2⟩ := at_T85 HR0_3.out x38_2 p124 q124
           cases e124
           replace hx124_0 := cell_x HB hx124_0
           replace hx124_1 := cell_x HB hx124_1
           replace hx124_2 := cell_x HB hx124_2
           replace p124 := eq_true p124
           replace q124 := eq_true q124
           go_wp2_with (first | ((with_reducible refine gate_dst (N := 5) rfl ?_); refine box_event ?hg (N := 5) ?hd (cs := #[.int .i64 0, .int .i64 0, .int .i64 0]) (t := 85) ?hr ?_; (case hd => rfl); (case hg => rfl); (case hr => first | (go_simp; done) | (go_simp; rfl)); intro gb125 hg w34 hbox hb; have BK125 := Aside0.mk (hbox); have GW125 := Aside0.mk ((by rw [hg]; exact (below_size (by exact below_y HB.out)) : w.heap.size ≤ gb125)); have GE125 := Aside0.mk ((by rw [hg]; exact (below_size (by exact below_y HB.out)) : w.heap.size ≤ gb125)); replace HB := bl_x HB hb; have NB119_125 := Aside0.mk ((by rw [hg]; exact Nat.ne_of_lt (blk_lt (g := gb119) (o := .cells #[.int .i64 a0_0, .int .i64 a0_1, .int .i64 a0_2, .slice (some ad124) l0_3.length c0_3, .int .i64 a0_4, .slice A0_5 l0_5.length c0_5, .slice A0_6 l0_6.length c0_6] 26 (0, 0)) (blk_x BK119.out)) : gb119 ≠ gb125)); have NB125_119 := Aside0.mk ((by rw [hg]; exact Nat.ne_of_gt (blk_lt (g := gb119) (o := .cells #[.int .i64 a0_0, .int .i64 a0_1, .int .i64 a0_2, .slice (some ad124) l0_3.length c0_3, .int .i64 a0_4, .slice A0_5 l0_5.length c0_5, .slice A0_6 l0_6.length c0_6] 26 (0, 0)) (blk_x BK119.out)) : gb125 ≠ gb119)); replace BK119 := Aside0.mk (blk_below (blk_x BK119.out) hb); clear hb hbox hg; have hnb35 := NB125_119.out; have hnc35 := NB119_125.out; obtain ⟨_, _, _⟩ := cz3 BK125; have hfz36_0 := blk_frozen BK125.out) | ((with_reducible refine gate_callee (f := 72) rfl ?_); refine goesL_ (some 44) rfl rfl Try.func72 (by kernel_rfl) rfl #[.int .i64 ((rd_T85 l0_3 x38_2).f0), .int .i64 0, .int .i64 5000] rfl (by (try simp only [List.map_toArray, List.map_cons, List.map_nil]); first | done | rfl | (simp only [List.length_drop, List.length_take]; rfl)) ?_; (with_reducible refine (ship_in.calls ((rd_T85 l0_3 x38_2).f0) 0 5000 false _ A19.out).mono ?_); rintro e w' ⟨rfl, ⟨nd, rfl⟩⟩; refine ⟨_, rfl, ?_⟩))
           go_ret
           exact ⟨by first | rfl | (simp [errW_none, errW_some] <;> rfl) | (simp [*, errW_none, errW_some] <;> rfl), by exact below_y HB.out⟩
         ·
          rw [if_neg c18] at H
          exact absurd H (by simp)
        ·
         rw [if_neg c17] at H
         exact absurd H (by simp)
       ·
        rw [if_neg c16] at H
        have c16b0 : decide (x38_2 < (l0_3.length : Int)) = false := decide_eq_false c16
        clear c16
        replace H := Option.bind_eq_some_iff.mp H
        obtain ⟨t129, A370, H⟩ := H
        try dsimp only at H
        have A37 := Aside0.mk A370
        clear A370
        by_cases c38 : t129 = true
        ·
         subst c38
         have H1 : (if (l0_5.length : Int) > 4 then (some 6) else (ship_Check.l1 k2 l0_5 (l0_5.length : Int) 0 a0_0 a0_1 a0_2 l0_3 a0_4 l0_5 l0_6)) = some r := by rw [if_pos rfl] at H; exact H
         clear H
         have H := H1
         clear H1
         by_cases c39 : (l0_5.length : Int) > 4
         ·
          rw [if_pos c39] at H
          have c39b0 : decide (4 < (l0_5.length : Int)) = true := decide_eq_true c39
          have c39b1 : decide (4 < l0_5.length) = true := decide_eq_true (by omega)
          clear c39
          obtain rfl := Option.some.inj H
          obtain ⟨_, _, _, _, _, _, _⟩ := cz7 BK119
          have hfz40_0 := blk_frozen BK119.out
          go_wp2_with (first | ((with_reducible refine gate_callee (f := 72) rfl ?_); refine goesL_ (some 62) rfl rfl Try.func72 (by kernel_rfl) rfl #[.int .i64 a0_4, .int .i64 0, .int .i64 2880] rfl (by (try simp only [List.map_toArray, List.map_cons, List.map_nil]); first | done | rfl | (simp only [List.length_drop, List.length_take]; rfl)) ?_; (with_reducible refine (ship_in.calls a0_4 0 2880 true _ A37.out).mono ?_); rintro e w' ⟨rfl, ⟨nd, rfl⟩⟩; refine ⟨_, rfl, ?_⟩))
          go_ret
          exact ⟨by first | rfl | (simp [errW_none, errW_some] <;> rfl) | (simp [*, errW_none, errW_some] <;> rfl), by exact below_y HB.out⟩
         ·
          rw [if_neg c39] at H
          have c39b0 : decide (4 < (l0_5.length : Int)) = false := decide_eq_false c39
          have c39b1 : decide (4 < l0_5.length) = false := decide_eq_false (by omega)
          clear c39
          have H' := Aside0.mk H
          clear H
          obtain ⟨_, _, _, _, _, _, _⟩ := cz7 BK119
          have hfz41_0 := blk_frozen BK119.out
          go_wp2_with (first | ((with_reducible refine gate_callee (f := 72) rfl ?_); refine goesL_ (some 62) rfl rfl Try.func72 (by kernel_rfl) rfl #[.int .i64 a0_4, .int .i64 0, .int .i64 2880] rfl (by (try simp only [List.map_toArray, List.map_cons, List.map_nil]); first | done | rfl | (simp only [List.length_drop, List.length_take]; rfl)) ?_; (with_reducible refine (ship_in.calls a0_4 0 2880 true _ A37.out).mono ?_); rintro e w' ⟨rfl, ⟨nd, rfl⟩⟩; refine ⟨_, rfl, ?_⟩))
          go_loopg [72] k2 (fun kq v72 w' => ∃ (x72_3 : Int), v72 = .int .i64 x72_3 ∧ Aside0 (ship_Check.l1 kq l0_5 (l0_5.length : Int) x72_3 a0_0 a0_1 a0_2 l0_3 a0_4 l0_5 l0_6 = some r) ∧ Aside0 (kq ≤ k2) ∧ Aside0 (w'.heap[gb119]? = some (.cells #[.int .i64 a0_0, .int .i64 a0_1, .int .i64 a0_2, (.slice A0_3 l0_3.length c0_3), .int .i64 a0_4, (.slice A0_5 l0_5.length c0_5), (.slice A0_6 l0_6.length c0_6)] 26 (0, 0))) ∧ Aside0 (Below w.heap.size w w'))
          case atStart => exact ⟨(0), (by first | rfl | (simp; done) | (simp [*]; done)), H', ⟨Nat.le_refl _⟩, ⟨blk_x BK119.out⟩, ⟨by exact below_y HB.out⟩⟩
          case round =>
           clear H'
           obtain ⟨x72_3, rfl, HA, HK3, BK119, HB⟩ := hrel
           cases gk with
           | zero => exact absurd HA.out (by simp [ship_Check.l1])
           | succ k3 =>
            have H := HA.out
            clear HA
            simp only [ship_Check.l1] at H
            by_cases c42 : x72_3 < (l0_5.length : Int)
            ·
             rw [if_pos c42] at H
             have c42b0 : decide (x72_3 < (l0_5.length : Int)) = true := decide_eq_true c42
             clear c42
             by_cases c43 : 0 ≤ x72_3
             ·
              rw [if_pos c43] at H
              have c43b0 : decide (0 ≤ x72_3) = true := decide_eq_true c43
              clear c43
              by_cases c44 : x72_3 < (l0_5.length : Int)
              ·
               rw [if_pos c44] at H
               have c44b0 : decide (x72_3 < (l0_5.length : Int)) = true := decide_eq_true c44
               clear c44
               replace H := Option.bind_eq_some_iff.mp H
               obtain ⟨t132, A450, H⟩ := H
               try dsimp only at H
               have A45 := Aside0.mk A450
               clear A450
               by_cases c46 : t132 = 0
               ·
                rw [if_pos c46] at H
                have c46b0 : (t132 == 0) = true := beq_iff_eq.mpr c46
                have c46b1 : (t132 != 0) = false := bne_eq_false_iff_eq.mpr c46
                clear c46
                have H' := Aside0.mk H
                clear H
                have p130 : 0 ≤ (x72_3 : Int) := of_x
                have q130 : x72_3 < (l0_5.length : Int) := of_x
                obtain ⟨ad130, A130_2, c130_2, e130, hx130_0, hx130_1, hx130_2, hl130_2, hi130_2⟩ := at_T59 HR0_5.out x72_3 p130 q130
                cases e130
                replace hx130_0 := cell_x HB hx130_0
                replace hx130_1 := cell_x HB hx130_1
                replace hx130_2 := cell_x HB hx130_2
                have HR130_2 := Aside0.mk hi130_2
                have HC130_2 := Aside0.mk hl130_2
                clear hi130_2 hl130_2
                replace p130 := eq_true p130
                replace q130 := eq_true q130
                go_wp2_with (first | ((with_reducible refine gate_dst (N := 7) rfl ?_); refine box_event ?hg (N := 7) ?hd (cs := #[.int .i64 0, .int .i64 0, .slice none 0 0]) (t := 59) ?hr ?_; (case hd => rfl); (case hg => rfl); (case hr => first | (go_simp; done) | (go_simp; rfl)); intro gb131 hg w47 hbox hb; have BK131 := Aside0.mk (hbox); have GW131 := Aside0.mk ((by rw [hg]; exact (below_size (by exact below_y HB.out)) : w.heap.size ≤ gb131)); have GE131 := Aside0.mk ((by rw [hg]; exact (below_size (by exact below_y HB.out)) : w.heap.size ≤ gb131)); replace HB := bl_x HB hb; have NB119_131 := Aside0.mk ((by rw [hg]; exact Nat.ne_of_lt (blk_lt (g := gb119) (o := .cells #[.int .i64 a0_0, .int .i64 a0_1, .int .i64 a0_2, .slice A0_3 l0_3.length c0_3, .int .i64 a0_4, .slice (some ad130) l0_5.length c0_5, .slice A0_6 l0_6.length c0_6] 26 (0, 0)) (blk_x BK119.out)) : gb119 ≠ gb131)); have NB131_119 := Aside0.mk ((by rw [hg]; exact Nat.ne_of_gt (blk_lt (g := gb119) (o := .cells #[.int .i64 a0_0, .int .i64 a0_1, .int .i64 a0_2, .slice A0_3 l0_3.length c0_3, .int .i64 a0_4, .slice (some ad130) l0_5.length c0_5, .slice A0_6 l0_6.length c0_6] 26 (0, 0)) (blk_x BK119.out)) : gb131 ≠ gb119)); replace BK119 := Aside0.mk (blk_below (blk_x BK119.out) hb); clear hb hbox hg; have hnb48 := NB131_119.out; have hnc48 := NB119_131.out; obtain ⟨_, _, _⟩ := cz3 BK131; have hfz49_0 := blk_frozen BK131.out) | ((with_reducible refine gate_callee (f := 74) rfl ?_); refine goesL_ (some 77) rfl rfl Try.func74 (by kernel_rfl) rfl #[.agg #[.int .i64 ((rd_T59 l0_5 x72_3).f0.f0), .int .i64 ((rd_T59 l0_5 x72_3).f0.f1), .slice A130_2 ((rd_T59 l0_5 x72_3).f1).length c130_2]] rfl (by (try simp only [List.map_toArray, List.map_cons, List.map_nil]); first | done | rfl | (simp only [List.length_drop, List.length_take]; rfl)) ?_; (with_reducible refine (ship_checkSill.calls k3 ((rd_T59 l0_5 x72_3).f0.f0) ((rd_T59 l0_5 x72_3).f0.f1) _ _ ((rd_T59 l0_5 x72_3).f1) t132 _ ?side1 ?side2 A45.out).mono ?_); (case side1 => exact Kd.C_below HR130_2.out (by exact below_y HB.out)); (case side2 => exact HC130_2.out); rintro e w50 ⟨rfl, hb⟩; refine ⟨_, rfl, ?_⟩; replace BK119 := Aside0.mk (blk_below (g := gb119) (o := .cells #[.int .i64 a0_0, .int .i64 a0_1, .int .i64 a0_2, .slice A0_3 l0_3.length c0_3, .int .i64 a0_4, .slice (some ad130) l0_5.length c0_5, .slice A0_6 l0_6.length c0_6] 26 (0, 0)) (blk_w BK119.out) hb); replace BK131 := Aside0.mk (blk_below (g := gb131) (o := .cells #[.int .i64 ((rd_T59 l0_5 x72_3).f0.f0), .int .i64 ((rd_T59 l0_5 x72_3).f0.f1), .slice A130_2 ((rd_T59 l0_5 x72_3).f1).length c130_2] 59 (0, 0)) (by (with_reducible repeat (first | refine blk_drewN ?_ _ | refine blk_drew ?_ | refine blk_alloc ?_ _)); refine blk_put (cs := #[.int .i64 ((rd_T59 l0_5 x72_3).f0.f0), .int .i64 ((rd_T59 l0_5 x72_3).f0.f1), .slice none 0 0]) ?_ 2 _ rfl; (with_reducible repeat (first | refine blk_drewN ?_ _ | refine blk_drew ?_ | refine blk_alloc ?_ _)); refine blk_put (cs := #[.int .i64 ((rd_T59 l0_5 x72_3).f0.f0), .int .i64 0, .slice none 0 0]) ?_ 1 _ rfl; (with_reducible repeat (first | refine blk_drewN ?_ _ | refine blk_drew ?_ | refine blk_alloc ?_ _)); refine blk_put (cs := #[.int .i64 0, .int .i64 0, .slice none 0 0]) ?_ 0 _ rfl; (with_reducible repeat (first | refine blk_drewN ?_ _ | refine blk_drew ?_ | refine blk_alloc ?_ _)); exact BK131.out) hb); replace HB := bl_x HB hb; (try clear hb); (try clear hk); (try clear hi)))
                go_roundg k3
                case measure => have := HJ1.out; have := HK2.out; have := HK3.out; omega
                case rel => exact ⟨(wrap64 (x72_3 + 1)), (by first | rfl | (simp; done) | (simp [*]; done)), H', ⟨by have := HJ1.out; have := HK2.out; have := HK3.out; omega⟩, ⟨blk_x BK119.out⟩, ⟨by exact below_y HB.out⟩⟩
               ·
                rw [if_neg c46] at H
                have c46b0 : (t132 == 0) = false := beq_eq_false_iff_ne.mpr c46
                have c46b1 : (t132 != 0) = true := bne_iff_ne.mpr c46
                obtain rfl := Option.some.inj H
                have p130 : 0 ≤ (x72_3 : Int) := of_x
                have q130 : x72_3 < (l0_5.length : Int) := of_x
                obtain ⟨ad130, A130_2, c130_2, e130, hx130_0, hx130_1, hx130_2, hl130_2, hi130_2⟩ := at_T59 HR0_5.out x72_3 p130 q130
                cases e130
                replace hx130_0 := cell_x HB hx130_0
                replace hx130_1 := cell_x HB hx130_1
                replace hx130_2 := cell_x HB hx130_2
                have HR130_2 := Aside0.mk hi130_2
                have HC130_2 := Aside0.mk hl130_2
                clear hi130_2 hl130_2
                replace p130 := eq_true p130
                replace q130 := eq_true q130
                go_wp2_with (first | ((with_reducible refine gate_dst (N := 7) rfl ?_); refine box_event ?hg (N := 7) ?hd (cs := #[.int .i64 0, .int .i64 0, .slice none 0 0]) (t := 59) ?hr ?_; (case hd => rfl); (case hg => rfl); (case hr => first | (go_simp; done) | (go_simp; rfl)); intro gb131 hg w51 hbox hb; have BK131 := Aside0.mk (hbox); have GW131 := Aside0.mk ((by rw [hg]; exact (below_size (by exact below_y HB.out)) : w.heap.size ≤ gb131)); have GE131 := Aside0.mk ((by rw [hg]; exact (below_size (by exact below_y HB.out)) : w.heap.size ≤ gb131)); replace HB := bl_x HB hb; have NB119_131 := Aside0.mk ((by rw [hg]; exact Nat.ne_of_lt (blk_lt (g := gb119) (o := .cells #[.int .i64 a0_0, .int .i64 a0_1, .int .i64 a0_2, .slice A0_3 l0_3.length c0_3, .int .i64 a0_4, .slice (some ad130) l0_5.length c0_5, .slice A0_6 l0_6.length c0_6] 26 (0, 0)) (blk_x BK119.out)) : gb119 ≠ gb131)); have NB131_119 := Aside0.mk ((by rw [hg]; exact Nat.ne_of_gt (blk_lt (g := gb119) (o := .cells #[.int .i64 a0_0, .int .i64 a0_1, .int .i64 a0_2, .slice A0_3 l0_3.length c0_3, .int .i64 a0_4, .slice (some ad130) l0_5.length c0_5, .slice A0_6 l0_6.length c0_6] 26 (0, 0)) (blk_x BK119.out)) : gb131 ≠ gb119)); replace BK119 := Aside0.mk (blk_below (blk_x BK119.out) hb); clear hb hbox hg; have hnb52 := NB131_119.out; have hnc52 := NB119_131.out; obtain ⟨_, _, _⟩ := cz3 BK131; have hfz53_0 := blk_frozen BK131.out) | ((with_reducible refine gate_callee (f := 74) rfl ?_); refine goesL_ (some 77) rfl rfl Try.func74 (by kernel_rfl) rfl #[.agg #[.int .i64 ((rd_T59 l0_5 x72_3).f0.f0), .int .i64 ((rd_T59 l0_5 x72_3).f0.f1), .slice A130_2 ((rd_T59 l0_5 x72_3).f1).length c130_2]] rfl (by (try simp only [List.map_toArray, List.map_cons, List.map_nil]); first | done | rfl | (simp only [List.length_drop, List.length_take]; rfl)) ?_; (with_reducible refine (ship_checkSill.calls k3 ((rd_T59 l0_5 x72_3).f0.f0) ((rd_T59 l0_5 x72_3).f0.f1) _ _ ((rd_T59 l0_5 x72_3).f1) t132 _ ?side1 ?side2 A45.out).mono ?_); (case side1 => exact Kd.C_below HR130_2.out (by exact below_y HB.out)); (case side2 => exact HC130_2.out); rintro e w54 ⟨rfl, hb⟩; refine ⟨_, rfl, ?_⟩; replace BK119 := Aside0.mk (blk_below (g := gb119) (o := .cells #[.int .i64 a0_0, .int .i64 a0_1, .int .i64 a0_2, .slice A0_3 l0_3.length c0_3, .int .i64 a0_4, .slice (some ad130) l0_5.length c0_5, .slice A0_6 l0_6.length c0_6] 26 (0, 0)) (blk_w BK119.out) hb); replace BK131 := Aside0.mk (blk_below (g := gb131) (o := .cells #[.int .i64 ((rd_T59 l0_5 x72_3).f0.f0), .int .i64 ((rd_T59 l0_5 x72_3).f0.f1), .slice A130_2 ((rd_T59 l0_5 x72_3).f1).length c130_2] 59 (0, 0)) (by (with_reducible repeat (first | refine blk_drewN ?_ _ | refine blk_drew ?_ | refine blk_alloc ?_ _)); refine blk_put (cs := #[.int .i64 ((rd_T59 l0_5 x72_3).f0.f0), .int .i64 ((rd_T59 l0_5 x72_3).f0.f1), .slice none 0 0]) ?_ 2 _ rfl; (with_reducible repeat (first | refine blk_drewN ?_ _ | refine blk_drew ?_ | refine blk_alloc ?_ _)); refine blk_put (cs := #[.int .i64 ((rd_T59 l0_5 x72_3).f0.f0), .int .i64 0, .slice none 0 0]) ?_ 1 _ rfl; (with_reducible repeat (first | refine blk_drewN ?_ _ | refine blk_drew ?_ | refine blk_alloc ?_ _)); refine blk_put (cs := #[.int .i64 0, .int .i64 0, .slice none 0 0]) ?_ 0 _ rfl; (with_reducible repeat (first | refine blk_drewN ?_ _ | refine blk_drew ?_ | refine blk_alloc ?_ _)); exact BK131.out) hb); replace HB := bl_x HB hb; (try clear hb); (try clear hk); (try clear hi)))
                go_ret
                exact ⟨by first | rfl | (simp [errW_none, errW_some] <;> rfl) | (simp [*, errW_none, errW_some] <;> rfl), by exact below_y HB.out⟩
              ·
               rw [if_neg c44] at H
               exact absurd H (by simp)
             ·
              rw [if_neg c43] at H
              exact absurd H (by simp)
            ·
             rw [if_neg c42] at H
             have c42b0 : decide (x72_3 < (l0_5.length : Int)) = false := decide_eq_false c42
             clear c42
             by_cases c55 : (l0_6.length : Int) > 6
             ·
              rw [if_pos c55] at H
              have c55b0 : decide (6 < (l0_6.length : Int)) = true := decide_eq_true c55
              have c55b1 : decide (6 < l0_6.length) = true := decide_eq_true (by omega)
              clear c55
              obtain rfl := Option.some.inj H
              obtain ⟨_, _, _, _, _, _, _⟩ := cz7 BK119
              have hfz56_0 := blk_frozen BK119.out
              go_wp2
              go_ret
              exact ⟨by first | rfl | (simp [errW_none, errW_some] <;> rfl) | (simp [*, errW_none, errW_some] <;> rfl), by exact below_y HB.out⟩
             ·
              rw [if_neg c55] at H
              have c55b0 : decide (6 < (l0_6.length : Int)) = false := decide_eq_false c55
              have c55b1 : decide (6 < l0_6.length) = false := decide_eq_false (by omega)
              clear c55
              have H' := Aside0.mk H
              clear H
              obtain ⟨_, _, _, _, _, _, _⟩ := cz7 BK119
              have hfz57_0 := blk_frozen BK119.out
              go_wp2
              go_loopg [89] k3 (fun kq v89 w' => ∃ (x89_4 : Int), v89 = .int .i64 x89_4 ∧ Aside0 (ship_Check.l2 kq l0_6 (l0_6.length : Int) x89_4 = some r) ∧ Aside0 (kq ≤ k3) ∧ Aside0 (w'.heap[gb119]? = some (.cells #[.int .i64 a0_0, .int .i64 a0_1, .int .i64 a0_2, (.slice A0_3 l0_3.length c0_3), .int .i64 a0_4, (.slice A0_5 l0_5.length c0_5), (.slice A0_6 l0_6.length c0_6)] 26 (0, 0))) ∧ Aside0 (Below w.heap.size w w'))
              case atStart => exact ⟨(0), (by first | rfl | (simp; done) | (simp [*]; done)), H', ⟨Nat.le_refl _⟩, ⟨blk_x BK119.out⟩, ⟨by exact below_y HB.out⟩⟩
              case round =>
               clear H'
               obtain ⟨x89_4, rfl, HA, HK4, BK119, HB⟩ := hrel
               cases gk with
               | zero => exact absurd HA.out (by simp [ship_Check.l2])
               | succ k4 =>
                have H := HA.out
                clear HA
                simp only [ship_Check.l2] at H
                by_cases c58 : x89_4 < (l0_6.length : Int)
                ·
                 rw [if_pos c58] at H
                 have c58b0 : decide (x89_4 < (l0_6.length : Int)) = true := decide_eq_true c58
                 clear c58
                 by_cases c59 : 0 ≤ x89_4
                 ·
                  rw [if_pos c59] at H
                  have c59b0 : decide (0 ≤ x89_4) = true := decide_eq_true c59
                  clear c59
                  by_cases c60 : x89_4 < (l0_6.length : Int)
                  ·
                   rw [if_pos c60] at H
                   have c60b0 : decide (x89_4 < (l0_6.length : Int)) = true := decide_eq_true c60
                   clear c60
                   replace H := Option.bind_eq_some_iff.mp H
                   obtain ⟨t135, A610, H⟩ := H
                   try dsimp only at H
                   have A61 := Aside0.mk A610
                   clear A610
                   by_cases c62 : t135 = 0
                   ·
                    rw [if_pos c62] at H
                    have c62b0 : (t135 == 0) = true := beq_iff_eq.mpr c62
                    have c62b1 : (t135 != 0) = false := bne_eq_false_iff_eq.mpr c62
                    clear c62
                    replace H := Option.bind_eq_some_iff.mp H
                    obtain ⟨t136, A630, H⟩ := H
                    try dsimp only at H
                    have A63 := Aside0.mk A630
                    clear A630
                    by_cases c64 : t136 = true
                    ·
                     subst c64
                     have H1 : (ship_Check.l2 k4 l0_6 (l0_6.length : Int) (wrap64 (x89_4 + 1))) = some r := by rw [if_pos rfl] at H; exact H
                     clear H
                     have H := H1
                     clear H1
                     have H' := Aside0.mk H
                     clear H
                     have p133 : 0 ≤ (x89_4 : Int) := of_x
                     have q133 : x89_4 < (l0_6.length : Int) := of_x
                     obtain ⟨ad133, e133, hx133_0, hx133_1, hx133_2⟩ := at_T79 HR0_6.out x89_4 p133 q133
                     cases e133
                     replace hx133_0 := cell_x HB hx133_0
                     replace hx133_1 := cell_x HB hx133_1
                     replace hx133_2 := cell_x HB hx133_2
                     replace p133 := eq_true p133
                     replace q133 := eq_true q133
                     go_wp2_with (first | ((with_reducible refine gate_dst (N := 10) rfl ?_); refine box_event ?hg (N := 10) ?hd (cs := #[.int .i64 0, .int .i64 0, .int .i64 0]) (t := 79) ?hr ?_; (case hd => rfl); (case hg => rfl); (case hr => first | (go_simp; done) | (go_simp; rfl)); intro gb134 hg w65 hbox hb; have BK134 := Aside0.mk (hbox); have GW134 := Aside0.mk ((by rw [hg]; exact (below_size (by exact below_y HB.out)) : w.heap.size ≤ gb134)); have GE134 := Aside0.mk ((by rw [hg]; exact (below_size (by exact below_y HB.out)) : w.heap.size ≤ gb134)); replace HB := bl_x HB hb; have NB119_134 := Aside0.mk ((by rw [hg]; exact Nat.ne_of_lt (blk_lt (g := gb119) (o := .cells #[.int .i64 a0_0, .int .i64 a0_1, .int .i64 a0_2, .slice A0_3 l0_3.length c0_3, .int .i64 a0_4, .slice A0_5 l0_5.length c0_5, .slice (some ad133) l0_6.length c0_6] 26 (0, 0)) (blk_x BK119.out)) : gb119 ≠ gb134)); have NB134_119 := Aside0.mk ((by rw [hg]; exact Nat.ne_of_gt (blk_lt (g := gb119) (o := .cells #[.int .i64 a0_0, .int .i64 a0_1, .int .i64 a0_2, .slice A0_3 l0_3.length c0_3, .int .i64 a0_4, .slice A0_5 l0_5.length c0_5, .slice (some ad133) l0_6.length c0_6] 26 (0, 0)) (blk_x BK119.out)) : gb134 ≠ gb119)); replace BK119 := Aside0.mk (blk_below (blk_x BK119.out) hb); clear hb hbox hg; have hnb66 := NB134_119.out; have hnc66 := NB119_134.out; obtain ⟨_, _, _⟩ := cz3 BK134; have hfz67_0 := blk_frozen BK134.out) | ((with_reducible refine gate_callee (f := 75) rfl ?_); refine goesL_ (some 95) rfl rfl Try.func75 (by kernel_rfl) rfl #[.agg #[.int .i64 ((rd_T79 l0_6 x89_4).f0.f0), .int .i64 ((rd_T79 l0_6 x89_4).f0.f1)], .int .i64 5000] rfl (by (try simp only [List.map_toArray, List.map_cons, List.map_nil]); first | done | rfl | (simp only [List.length_drop, List.length_take]; rfl)) ?_; (with_reducible refine (ship_checkRange.calls k4 ((rd_T79 l0_6 x89_4).f0.f0) ((rd_T79 l0_6 x89_4).f0.f1) 5000 t135 _ A61.out).mono ?_); rintro e w68 ⟨rfl, hb⟩; refine ⟨_, rfl, ?_⟩; replace BK119 := Aside0.mk (blk_below (g := gb119) (o := .cells #[.int .i64 a0_0, .int .i64 a0_1, .int .i64 a0_2, .slice A0_3 l0_3.length c0_3, .int .i64 a0_4, .slice A0_5 l0_5.length c0_5, .slice (some ad133) l0_6.length c0_6] 26 (0, 0)) (blk_w BK119.out) hb); replace BK134 := Aside0.mk (blk_below (g := gb134) (o := .cells #[.int .i64 ((rd_T79 l0_6 x89_4).f0.f0), .int .i64 ((rd_T79 l0_6 x89_4).f0.f1), .int .i64 ((rd_T79 l0_6 x89_4).f1)] 79 (0, 0)) (by (with_reducible repeat (first | refine blk_drewN ?_ _ | refine blk_drew ?_ | refine blk_alloc ?_ _)); refine blk_put (cs := #[.int .i64 ((rd_T79 l0_6 x89_4).f0.f0), .int .i64 ((rd_T79 l0_6 x89_4).f0.f1), .int .i64 0]) ?_ 2 _ rfl; (with_reducible repeat (first | refine blk_drewN ?_ _ | refine blk_drew ?_ | refine blk_alloc ?_ _)); refine blk_put (cs := #[.int .i64 ((rd_T79 l0_6 x89_4).f0.f0), .int .i64 0, .int .i64 0]) ?_ 1 _ rfl; (with_reducible repeat (first | refine blk_drewN ?_ _ | refine blk_drew ?_ | refine blk_alloc ?_ _)); refine blk_put (cs := #[.int .i64 0, .int .i64 0, .int .i64 0]) ?_ 0 _ rfl; (with_reducible repeat (first | refine blk_drewN ?_ _ | refine blk_drew ?_ | refine blk_alloc ?_ _)); exact BK134.out) hb); replace HB := bl_x HB hb; (try clear hb); (try clear hk); (try clear hi); obtain ⟨_, _, _⟩ := cz3 BK134; have hfz69_0 := blk_frozen BK134.out) | ((with_reducible refine gate_callee (f := 72) rfl ?_); refine goesL_ (some 101) rfl rfl Try.func72 (by kernel_rfl) rfl #[.int .i64 ((rd_T79 l0_6 x89_4).f1), .int .i64 0, .int .i64 100000] rfl (by (try simp only [List.map_toArray, List.map_cons, List.map_nil]); first | done | rfl | (simp only [List.length_drop, List.length_take]; rfl)) ?_; (with_reducible refine (ship_in.calls ((rd_T79 l0_6 x89_4).f1) 0 100000 true _ A63.out).mono ?_); rintro e w' ⟨rfl, ⟨nd, rfl⟩⟩; refine ⟨_, rfl, ?_⟩))
                     go_roundg k4
                     case measure => have := HJ1.out; have := HK2.out; have := HK3.out; have := HK4.out; omega
                     case rel => exact ⟨(wrap64 (x89_4 + 1)), (by first | rfl | (simp; done) | (simp [*]; done)), H', ⟨by have := HJ1.out; have := HK2.out; have := HK3.out; have := HK4.out; omega⟩, ⟨blk_x BK119.out⟩, ⟨by exact below_y HB.out⟩⟩
                    ·
                     replace c64 := Bool.eq_false_iff.mpr c64
                     subst c64
                     have H1 : (some 1) = some r := by rw [if_neg (show ¬ (false = true) by decide)] at H; exact H
                     clear H
                     have H := H1
                     clear H1
                     obtain rfl := Option.some.inj H
                     have p133 : 0 ≤ (x89_4 : Int) := of_x
                     have q133 : x89_4 < (l0_6.length : Int) := of_x
                     obtain ⟨ad133, e133, hx133_0, hx133_1, hx133_2⟩ := at_T79 HR0_6.out x89_4 p133 q133
                     cases e133
                     replace hx133_0 := cell_x HB hx133_0
                     replace hx133_1 := cell_x HB hx133_1
                     replace hx133_2 := cell_x HB hx133_2
                     replace p133 := eq_true p133
                     replace q133 := eq_true q133
                     go_wp2_with (first | ((with_reducible refine gate_dst (N := 10) rfl ?_); refine box_event ?hg (N := 10) ?hd (cs := #[.int .i64 0, .int .i64 0, .int .i64 0]) (t := 79) ?hr ?_; (case hd => rfl); (case hg => rfl); (case hr => first | (go_simp; done) | (go_simp; rfl)); intro gb134 hg w70 hbox hb; have BK134 := Aside0.mk (hbox); have GW134 := Aside0.mk ((by rw [hg]; exact (below_size (by exact below_y HB.out)) : w.heap.size ≤ gb134)); have GE134 := Aside0.mk ((by rw [hg]; exact (below_size (by exact below_y HB.out)) : w.heap.size ≤ gb134)); replace HB := bl_x HB hb; have NB119_134 := Aside0.mk ((by rw [hg]; exact Nat.ne_of_lt (blk_lt (g := gb119) (o := .cells #[.int .i64 a0_0, .int .i64 a0_1, .int .i64 a0_2, .slice A0_3 l0_3.length c0_3, .int .i64 a0_4, .slice A0_5 l0_5.length c0_5, .slice (some ad133) l0_6.length c0_6] 26 (0, 0)) (blk_x BK119.out)) : gb119 ≠ gb134)); have NB134_119 := Aside0.mk ((by rw [hg]; exact Nat.ne_of_gt (blk_lt (g := gb119) (o := .cells #[.int .i64 a0_0, .int .i64 a0_1, .int .i64 a0_2, .slice A0_3 l0_3.length c0_3, .int .i64 a0_4, .slice A0_5 l0_5.length c0_5, .slice (some ad133) l0_6.length c0_6] 26 (0, 0)) (blk_x BK119.out)) : gb134 ≠ gb119)); replace BK119 := Aside0.mk (blk_below (blk_x BK119.out) hb); clear hb hbox hg; have hnb71 := NB134_119.out; have hnc71 := NB119_134.out; obtain ⟨_, _, _⟩ := cz3 BK134; have hfz72_0 := blk_frozen BK134.out) | ((with_reducible refine gate_callee (f := 75) rfl ?_); refine goesL_ (some 95) rfl rfl Try.func75 (by kernel_rfl) rfl #[.agg #[.int .i64 ((rd_T79 l0_6 x89_4).f0.f0), .int .i64 ((rd_T79 l0_6 x89_4).f0.f1)], .int .i64 5000] rfl (by (try simp only [List.map_toArray, List.map_cons, List.map_nil]); first | done | rfl | (simp only [List.length_drop, List.length_take]; rfl)) ?_; (with_reducible refine (ship_checkRange.calls k4 ((rd_T79 l0_6 x89_4).f0.f0) ((rd_T79 l0_6 x89_4).f0.f1) 5000 t135 _ A61.out).mono ?_); rintro e w73 ⟨rfl, hb⟩; refine ⟨_, rfl, ?_⟩; replace BK119 := Aside0.mk (blk_below (g := gb119) (o := .cells #[.int .i64 a0_0, .int .i64 a0_1, .int .i64 a0_2, .slice A0_3 l0_3.length c0_3, .int .i64 a0_4, .slice A0_5 l0_5.length c0_5, .slice (some ad133) l0_6.length c0_6] 26 (0, 0)) (blk_w BK119.out) hb); replace BK134 := Aside0.mk (blk_below (g := gb134) (o := .cells #[.int .i64 ((rd_T79 l0_6 x89_4).f0.f0), .int .i64 ((rd_T79 l0_6 x89_4).f0.f1), .int .i64 ((rd_T79 l0_6 x89_4).f1)] 79 (0, 0)) (by (with_reducible repeat (first | refine blk_drewN ?_ _ | refine blk_drew ?_ | refine blk_alloc ?_ _)); refine blk_put (cs := #[.int .i64 ((rd_T79 l0_6 x89_4).f0.f0), .int .i64 ((rd_T79 l0_6 x89_4).f0.f1), .int .i64 0]) ?_ 2 _ rfl; (with_reducible repeat (first | refine blk_drewN ?_ _ | refine blk_drew ?_ | refine blk_alloc ?_ _)); refine blk_put (cs := #[.int .i64 ((rd_T79 l0_6 x89_4).f0.f0), .int .i64 0, .int .i64 0]) ?_ 1 _ rfl; (with_reducible repeat (first | refine blk_drewN ?_ _ | refine blk_drew ?_ | refine blk_alloc ?_ _)); refine blk_put (cs := #[.int .i64 0, .int .i64 0, .int .i64 0]) ?_ 0 _ rfl; (with_reducible repeat (first | refine blk_drewN ?_ _ | refine blk_drew ?_ | refine blk_alloc ?_ _)); exact BK134.out) hb); replace HB := bl_x HB hb; (try clear hb); (try clear hk); (try clear hi); obtain ⟨_, _, _⟩ := cz3 BK134; have hfz74_0 := blk_frozen BK134.out) | ((with_reducible refine gate_callee (f := 72) rfl ?_); refine goesL_ (some 101) rfl rfl Try.func72 (by kernel_rfl) rfl #[.int .i64 ((rd_T79 l0_6 x89_4).f1), .int .i64 0, .int .i64 100000] rfl (by (try simp only [List.map_toArray, List.map_cons, List.map_nil]); first | done | rfl | (simp only [List.length_drop, List.length_take]; rfl)) ?_; (with_reducible refine (ship_in.calls ((rd_T79 l0_6 x89_4).f1) 0 100000 false _ A63.out).mono ?_); rintro e w' ⟨rfl, ⟨nd, rfl⟩⟩; refine ⟨_, rfl, ?_⟩))
                     go_ret
                     exact ⟨by first | rfl | (simp [errW_none, errW_some] <;> rfl) | (simp [*, errW_none, errW_some] <;> rfl), by exact below_y HB.out⟩
                   ·
                    rw [if_neg c62] at H
                    have c62b0 : (t135 == 0) = false := beq_eq_false_iff_ne.mpr c62
                    have c62b1 : (t135 != 0) = true := bne_iff_ne.mpr c62
                    obtain rfl := Option.some.inj H
                    have p133 : 0 ≤ (x89_4 : Int) := of_x
                    have q133 : x89_4 < (l0_6.length : Int) := of_x
                    obtain ⟨ad133, e133, hx133_0, hx133_1, hx133_2⟩ := at_T79 HR0_6.out x89_4 p133 q133
                    cases e133
                    replace hx133_0 := cell_x HB hx133_0
                    replace hx133_1 := cell_x HB hx133_1
                    replace hx133_2 := cell_x HB hx133_2
                    replace p133 := eq_true p133
                    replace q133 := eq_true q133
                    go_wp2_with (first | ((with_reducible refine gate_dst (N := 10) rfl ?_); refine box_event ?hg (N := 10) ?hd (cs := #[.int .i64 0, .int .i64 0, .int .i64 0]) (t := 79) ?hr ?_; (case hd => rfl); (case hg => rfl); (case hr => first | (go_simp; done) | (go_simp; rfl)); intro gb134 hg w75 hbox hb; have BK134 := Aside0.mk (hbox); have GW134 := Aside0.mk ((by rw [hg]; exact (below_size (by exact below_y HB.out)) : w.heap.size ≤ gb134)); have GE134 := Aside0.mk ((by rw [hg]; exact (below_size (by exact below_y HB.out)) : w.heap.size ≤ gb134)); replace HB := bl_x HB hb; have NB119_134 := Aside0.mk ((by rw [hg]; exact Nat.ne_of_lt (blk_lt (g := gb119) (o := .cells #[.int .i64 a0_0, .int .i64 a0_1, .int .i64 a0_2, .slice A0_3 l0_3.length c0_3, .int .i64 a0_4, .slice A0_5 l0_5.length c0_5, .slice (some ad133) l0_6.length c0_6] 26 (0, 0)) (blk_x BK119.out)) : gb119 ≠ gb134)); have NB134_119 := Aside0.mk ((by rw [hg]; exact Nat.ne_of_gt (blk_lt (g := gb119) (o := .cells #[.int .i64 a0_0, .int .i64 a0_1, .int .i64 a0_2, .slice A0_3 l0_3.length c0_3, .int .i64 a0_4, .slice A0_5 l0_5.length c0_5, .slice (some ad133) l0_6.length c0_6] 26 (0, 0)) (blk_x BK119.out)) : gb134 ≠ gb119)); replace BK119 := Aside0.mk (blk_below (blk_x BK119.out) hb); clear hb hbox hg; have hnb76 := NB134_119.out; have hnc76 := NB119_134.out; obtain ⟨_, _, _⟩ := cz3 BK134; have hfz77_0 := blk_frozen BK134.out) | ((with_reducible refine gate_callee (f := 75) rfl ?_); refine goesL_ (some 95) rfl rfl Try.func75 (by kernel_rfl) rfl #[.agg #[.int .i64 ((rd_T79 l0_6 x89_4).f0.f0), .int .i64 ((rd_T79 l0_6 x89_4).f0.f1)], .int .i64 5000] rfl (by (try simp only [List.map_toArray, List.map_cons, List.map_nil]); first | done | rfl | (simp only [List.length_drop, List.length_take]; rfl)) ?_; (with_reducible refine (ship_checkRange.calls k4 ((rd_T79 l0_6 x89_4).f0.f0) ((rd_T79 l0_6 x89_4).f0.f1) 5000 t135 _ A61.out).mono ?_); rintro e w78 ⟨rfl, hb⟩; refine ⟨_, rfl, ?_⟩; replace BK119 := Aside0.mk (blk_below (g := gb119) (o := .cells #[.int .i64 a0_0, .int .i64 a0_1, .int .i64 a0_2, .slice A0_3 l0_3.length c0_3, .int .i64 a0_4, .slice A0_5 l0_5.length c0_5, .slice (some ad133) l0_6.length c0_6] 26 (0, 0)) (blk_w BK119.out) hb); replace BK134 := Aside0.mk (blk_below (g := gb134) (o := .cells #[.int .i64 ((rd_T79 l0_6 x89_4).f0.f0), .int .i64 ((rd_T79 l0_6 x89_4).f0.f1), .int .i64 ((rd_T79 l0_6 x89_4).f1)] 79 (0, 0)) (by (with_reducible repeat (first | refine blk_drewN ?_ _ | refine blk_drew ?_ | refine blk_alloc ?_ _)); refine blk_put (cs := #[.int .i64 ((rd_T79 l0_6 x89_4).f0.f0), .int .i64 ((rd_T79 l0_6 x89_4).f0.f1), .int .i64 0]) ?_ 2 _ rfl; (with_reducible repeat (first | refine blk_drewN ?_ _ | refine blk_drew ?_ | refine blk_alloc ?_ _)); refine blk_put (cs := #[.int .i64 ((rd_T79 l0_6 x89_4).f0.f0), .int .i64 0, .int .i64 0]) ?_ 1 _ rfl; (with_reducible repeat (first | refine blk_drewN ?_ _ | refine blk_drew ?_ | refine blk_alloc ?_ _)); refine blk_put (cs := #[.int .i64 0, .int .i64 0, .int .i64 0]) ?_ 0 _ rfl; (with_reducible repeat (first | refine blk_drewN ?_ _ | refine blk_drew ?_ | refine blk_alloc ?_ _)); exact BK134.out) hb); replace HB := bl_x HB hb; (try clear hb); (try clear hk); (try clear hi)))
                    go_ret
                    exact ⟨by first | rfl | (simp [errW_none, errW_some] <;> rfl) | (simp [*, errW_none, errW_some] <;> rfl), by exact below_y HB.out⟩
                  ·
                   rw [if_neg c60] at H
                   exact absurd H (by simp)
                 ·
                  rw [if_neg c59] at H
                  exact absurd H (by simp)
                ·
                 rw [if_neg c58] at H
                 have c58b0 : decide (x89_4 < (l0_6.length : Int)) = false := decide_eq_false c58
                 clear c58
                 obtain rfl := Option.some.inj H
                 go_wp2
                 go_ret
                 exact ⟨by first | rfl | (simp [errW_none, errW_some] <;> rfl) | (simp [*, errW_none, errW_some] <;> rfl), by exact below_y HB.out⟩
        ·
         replace c38 := Bool.eq_false_iff.mpr c38
         subst c38
         have H1 : (some 1) = some r := by rw [if_neg (show ¬ (false = true) by decide)] at H; exact H
         clear H
         have H := H1
         clear H1
         obtain rfl := Option.some.inj H
         obtain ⟨_, _, _, _, _, _, _⟩ := cz7 BK119
         have hfz79_0 := blk_frozen BK119.out
         go_wp2_with (first | ((with_reducible refine gate_callee (f := 72) rfl ?_); refine goesL_ (some 62) rfl rfl Try.func72 (by kernel_rfl) rfl #[.int .i64 a0_4, .int .i64 0, .int .i64 2880] rfl (by (try simp only [List.map_toArray, List.map_cons, List.map_nil]); first | done | rfl | (simp only [List.length_drop, List.length_take]; rfl)) ?_; (with_reducible refine (ship_in.calls a0_4 0 2880 false _ A37.out).mono ?_); rintro e w' ⟨rfl, ⟨nd, rfl⟩⟩; refine ⟨_, rfl, ?_⟩))
         go_ret
         exact ⟨by first | rfl | (simp [errW_none, errW_some] <;> rfl) | (simp [*, errW_none, errW_some] <;> rfl), by exact below_y HB.out⟩
    ·
     rw [if_neg c14] at H
     have c14b0 : (t123 == 0) = false := beq_eq_false_iff_ne.mpr c14
     have c14b1 : (t123 != 0) = true := bne_iff_ne.mpr c14
     obtain rfl := Option.some.inj H
     obtain ⟨_, _, _, _, _, _, _⟩ := cz7 BK119
     have hfz80_0 := blk_frozen BK119.out
     go_wp2_with (first | ((with_reducible refine gate_callee (f := 73) rfl ?_); refine goesL_ (some 31) rfl rfl Try.func73 (by kernel_rfl) rfl #[.int .i64 (l0_3.length : Int), .int .i64 3] rfl (by (try simp only [List.map_toArray, List.map_cons, List.map_nil]); first | done | rfl | (simp only [List.length_drop, List.length_take]; rfl)) ?_; (with_reducible refine (ship_many.calls (l0_3.length : Int) 3 t123 _ A13.out).mono ?_); rintro e w' ⟨rfl, ⟨nd, rfl⟩⟩; refine ⟨_, rfl, ?_⟩))
     go_ret
     exact ⟨by first | rfl | (simp [errW_none, errW_some] <;> rfl) | (simp [*, errW_none, errW_some] <;> rfl), by exact below_y HB.out⟩
mutual
def ship_checkStowage.l0 : Nat → List Int → List Int → Int → Int → Int → Int → Int → List (S85) → Int → List (S59) → List (S79) → Option (Int)
 | 0, _, _, _, _, _, _, _, _, _, _, _ => none
 | k + 1, x1, x18, x19, x20, x102000, x102001, x102002, x102003, x102004, x102005, x102006 => if x20 < x19 then (if 0 ≤ x20 then (if x20 < (x18.length : Int) then ((ship_in.f (rd x18 x20) (-1) (wrap64 ((x102003.length : Int) - 1))).bind fun t103 => (if t103 = true then (ship_checkStowage.l0 k x1 x18 x19 (wrap64 (x20 + 1)) x102000 x102001 x102002 x102003 x102004 x102005 x102006) else (some 3))) else (none)) else (none)) else (ship_checkStowage.l1 k x1 x102003 (x102003.length : Int) 0 x102000 x102001 x102002 x102003 x102004 x102005 x102006)
def ship_checkStowage.l1 : Nat → List Int → List (S85) → Int → Int → Int → Int → Int → List (S85) → Int → List (S59) → List (S79) → Option (Int)
 | 0, _, _, _, _, _, _, _, _, _, _, _ => none
 | k + 1, x1, x33, x34, x35, x102000, x102001, x102002, x102003, x102004, x102005, x102006 => if x35 < x34 then (if 0 ≤ x35 then (if x35 < (x33.length : Int) then (ship_checkStowage.l2 k x1 x35 ((rd_T85 x33 x35).f0) x33 x34 x35 x1 (x1.length : Int) 0 x102000 x102001 x102002 x102003 x102004 x102005 x102006) else (none)) else (none)) else (some 0)
def ship_checkStowage.l2 : Nat → List Int → Int → Int → List (S85) → Int → Int → List Int → Int → Int → Int → Int → Int → List (S85) → Int → List (S59) → List (S79) → Option (Int)
 | 0, _, _, _, _, _, _, _, _, _, _, _, _, _, _, _, _ => none
 | k + 1, x1, x7, x9, x33, x34, x35, x42, x43, x44, x102000, x102001, x102002, x102003, x102004, x102005, x102006 => if x44 < x43 then (if 0 ≤ x44 then (if x44 < (x42.length : Int) then (if (rd x42 x44) = x7 then (if x44 < (x102006.length : Int) then (ship_checkStowage.l2 k x1 x7 (wrap64 (x9 - ((rd_T79 x102006 x44).f0.f1))) x33 x34 x35 x42 x43 (wrap64 (x44 + 1)) x102000 x102001 x102002 x102003 x102004 x102005 x102006) else (none)) else (ship_checkStowage.l2 k x1 x7 x9 x33 x34 x35 x42 x43 (wrap64 (x44 + 1)) x102000 x102001 x102002 x102003 x102004 x102005 x102006)) else (none)) else (none)) else (if x9 < 0 then (some 13) else (ship_checkStowage.l1 k x1 x33 x34 (wrap64 (x35 + 1)) x102000 x102001 x102002 x102003 x102004 x102005 x102006))
end
def ship_checkStowage.f (k : Nat) (a0_0 : Int) (a0_1 : Int) (a0_2 : Int) (l0_3 : List (S85)) (a0_4 : Int) (l0_5 : List (S59)) (l0_6 : List (S79)) (l1 : List Int) : Option (Int) := if (l1.length : Int) = (l0_6.length : Int) then (ship_checkStowage.l0 k l1 l1 (l1.length : Int) 0 a0_0 a0_1 a0_2 l0_3 a0_4 l0_5 l0_6) else (some 2)
theorem ship_checkStowage.mono_l : ∀ k, (∀ y0 y1 y2 y3 y4 y5 y6 y7 y8 y9 y10, LeO (ship_checkStowage.l0 k y0 y1 y2 y3 y4 y5 y6 y7 y8 y9 y10) (ship_checkStowage.l0 (k + 1) y0 y1 y2 y3 y4 y5 y6 y7 y8 y9 y10)) ∧ (∀ y0 y1 y2 y3 y4 y5 y6 y7 y8 y9 y10, LeO (ship_checkStowage.l1 k y0 y1 y2 y3 y4 y5 y6 y7 y8 y9 y10) (ship_checkStowage.l1 (k + 1) y0 y1 y2 y3 y4 y5 y6 y7 y8 y9 y10)) ∧ (∀ y0 y1 y2 y3 y4 y5 y6 y7 y8 y9 y10 y11 y12 y13 y14 y15, LeO (ship_checkStowage.l2 k y0 y1 y2 y3 y4 y5 y6 y7 y8 y9 y10 y11 y12 y13 y14 y15) (ship_checkStowage.l2 (k + 1) y0 y1 y2 y3 y4 y5 y6 y7 y8 y9 y10 y11 y12 y13 y14 y15))
 | 0 => ⟨fun _ _ _ _ _ _ _ _ _ _ _ r h => by simp [ship_checkStowage.l0] at h, fun _ _ _ _ _ _ _ _ _ _ _ r h => by simp [ship_checkStowage.l1] at h, fun _ _ _ _ _ _ _ _ _ _ _ _ _ _ _ _ r h => by simp [ship_checkStowage.l2] at h⟩
 | k + 1 => by
  obtain ⟨ih0, ih1, ih2⟩ := ship_checkStowage.mono_l k
  refine ⟨?_, ?_, ?_⟩
  ·
   intro y0 y1 y2 y3 y4 y5 y6 y7 y8 y9 y10
   unfold ship_checkStowage.l0
   repeat' first
   | (with_reducible exact ih0 _ _ _ _ _ _ _ _ _ _ _)
   | (with_reducible exact ih1 _ _ _ _ _ _ _ _ _ _ _)
   | (with_reducible exact ih2 _ _ _ _ _ _ _ _ _ _ _ _ _ _ _ _)
   | (with_reducible exact LeO.refl _)
   | (with_reducible exact LeO.none _)
   | (with_reducible refine LeO.ite ?_ ?_)
   | (with_reducible refine LeO.bind ?_ (fun _ => ?_))
   | exact ih0 _ _ _ _ _ _ _ _ _ _ _
   | exact ih1 _ _ _ _ _ _ _ _ _ _ _
   | exact ih2 _ _ _ _ _ _ _ _ _ _ _ _ _ _ _ _
   | exact LeO.none _
   | refine LeO.ite ?_ ?_
   | refine LeO.bind ?_ (fun _ => ?_)
  ·
   intro y0 y1 y2 y3 y4 y5 y6 y7 y8 y9 y10
   unfold ship_checkStowage.l1
   repeat' first
   | (with_reducible exact ih0 _ _ _ _ _ _ _ _ _ _ _)
   | (with_reducible exact ih1 _ _ _ _ _ _ _ _ _ _ _)
   | (with_reducible exact ih2 _ _ _ _ _ _ _ _ _ _ _ _ _ _ _ _)
   | (with_reducible exact LeO.refl _)
   | (with_reducible exact LeO.none _)
   | (with_reducible refine LeO.ite ?_ ?_)
   | (with_reducible refine LeO.bind ?_ (fun _ => ?_))
   | exact ih0 _ _ _ _ _ _ _ _ _ _ _
   | exact ih1 _ _ _ _ _ _ _ _ _ _ _
   | exact ih2 _ _ _ _ _ _ _ _ _ _ _ _ _ _ _ _
   | exact LeO.none _
   | refine LeO.ite ?_ ?_
   | refine LeO.bind ?_ (fun _ => ?_)
  ·
   intro y0 y1 y2 y3 y4 y5 y6 y7 y8 y9 y10 y11 y12 y13 y14 y15
   unfold ship_checkStowage.l2
   repeat' first
   | (with_reducible exact ih0 _ _ _ _ _ _ _ _ _ _ _)
   | (with_reducible exact ih1 _ _ _ _ _ _ _ _ _ _ _)
   | (with_reducible exact ih2 _ _ _ _ _ _ _ _ _ _ _ _ _ _ _ _)
   | (with_reducible exact LeO.refl _)
   | (with_reducible exact LeO.none _)
   | (with_reducible refine LeO.ite ?_ ?_)
   | (with_reducible refine LeO.bind ?_ (fun _ => ?_))
   | exact ih0 _ _ _ _ _ _ _ _ _ _ _
   | exact ih1 _ _ _ _ _ _ _ _ _ _ _
   | exact ih2 _ _ _ _ _ _ _ _ _ _ _ _ _ _ _ _
   | exact LeO.none _
   | refine LeO.ite ?_ ?_
   | refine LeO.bind ?_ (fun _ => ?_)
theorem ship_checkStowage.mono : ∀ a0 a1 a2 a3 a4 a5 a6 a7 k, LeO (ship_checkStowage.f k a0 a1 a2 a3 a4 a5 a6 a7) (ship_checkStowage.f (k + 1) a0 a1 a2 a3 a4 a5 a6 a7) := by
 intro a0 a1 a2 a3 a4 a5 a6 a7 k
 obtain ⟨ih0, ih1, ih2⟩ := ship_checkStowage.mono_l k
 unfold ship_checkStowage.f
 repeat' first
   | (with_reducible exact ih0 _ _ _ _ _ _ _ _ _ _ _)
   | (with_reducible exact ih1 _ _ _ _ _ _ _ _ _ _ _)
   | (with_reducible exact ih2 _ _ _ _ _ _ _ _ _ _ _ _ _ _ _ _)
   | (with_reducible exact LeO.refl _)
   | (with_reducible exact LeO.none _)
   | (with_reducible refine LeO.ite ?_ ?_)
   | (with_reducible refine LeO.bind ?_ (fun _ => ?_))
   | exact ih0 _ _ _ _ _ _ _ _ _ _ _
   | exact ih1 _ _ _ _ _ _ _ _ _ _ _
   | exact ih2 _ _ _ _ _ _ _ _ _ _ _ _ _ _ _ _
   | exact LeO.none _
   | refine LeO.ite ?_ ?_
   | refine LeO.bind ?_ (fun _ => ?_)
set_option maxHeartbeats 8000000 in
set_option maxRecDepth 100000 in
theorem ship_checkStowage.calls (k : Nat) (a0_0 : Int) (a0_1 : Int) (a0_2 : Int) (A0_3 : Option Addr) (c0_3 : Nat) (l0_3 : List (S85)) (a0_4 : Int) (A0_5 : Option Addr) (c0_5 : Nat) (l0_5 : List (S59)) (A0_6 : Option Addr) (c0_6 : Nat) (l0_6 : List (S79)) (A1 : Option Addr) (c1 : Nat) (l1 : List Int) (r : Int) (w : World) (hr0_3 : Kd.C k85 w A0_3 l0_3.length l0_3) (hc0_3 : l0_3.length ≤ c0_3) (hr0_5 : Kd.C k59 w A0_5 l0_5.length l0_5) (hc0_5 : l0_5.length ≤ c0_5) (hr0_6 : Kd.C k79 w A0_6 l0_6.length l0_6) (hc0_6 : l0_6.length ≤ c0_6) (hr1 : Kd.C (Kd.int .i64) w A1 l1.length l1) (hc1 : l1.length ≤ c1) (h : ship_checkStowage.f k a0_0 a0_1 a0_2 l0_3 a0_4 l0_5 l0_6 l1 = some r) :
  Calls Try.prog 63 #[.agg #[.int .i64 a0_0, .int .i64 a0_1, .int .i64 a0_2, .slice A0_3 l0_3.length c0_3, .int .i64 a0_4, .slice A0_5 l0_5.length c0_5, .slice A0_6 l0_6.length c0_6], .slice A1 l1.length c1] w fun e w' => e = .returned (.int .i64 r) ∧ Below w.heap.size w w' := by
 have hu26 := Try.underlying26
 have hu85 := Try.underlying85
 have HR0_3 := Aside0.mk hr0_3
 have HC0_3 := Aside0.mk hc0_3
 clear hr0_3 hc0_3
 have HR0_5 := Aside0.mk hr0_5
 have HC0_5 := Aside0.mk hc0_5
 clear hr0_5 hc0_5
 have HR0_6 := Aside0.mk hr0_6
 have HC0_6 := Aside0.mk hc0_6
 clear hr0_6 hc0_6
 have HR1 := Aside0.mk hr1
 have HC1 := Aside0.mk hc1
 clear hr1 hc1
 have HB := Aside0.mk (Below.refl w.heap.size w)
 have H : (if (l1.length : Int) = (l0_6.length : Int) then (ship_checkStowage.l0 k l1 l1 (l1.length : Int) 0 a0_0 a0_1 a0_2 l0_3 a0_4 l0_5 l0_6) else (some 2)) = some r := h
 clear h
 by_cases c3 : (l1.length : Int) = (l0_6.length : Int)
 ·
  rw [if_pos c3] at H
  have c3b0 : ((l1.length : Int) == (l0_6.length : Int)) = true := beq_iff_eq.mpr c3
  have c3b1 : ((l1.length : Int) != (l0_6.length : Int)) = false := bne_eq_false_iff_eq.mpr c3
  have c3b2 : (l1.length == l0_6.length) = true := by first | simpa using c3 | (simp at c3 ⊢; omega)
  clear c3
  have H' := Aside0.mk H
  clear H
  go_enter Try.func63, Try.ntmps63
  go_wp2_with (first | ((with_reducible refine gate_dst (N := 2) rfl ?_); refine box_event ?hg (N := 2) ?hd (cs := #[.int .i64 a0_0, .int .i64 a0_1, .int .i64 a0_2, .slice A0_3 l0_3.length c0_3, .int .i64 a0_4, .slice A0_5 l0_5.length c0_5, .slice A0_6 l0_6.length c0_6]) (t := 26) ?hr ?_; (case hd => rfl); (case hg => rfl); (case hr => first | (go_simp; done) | (go_simp; rfl)); intro gb101 hg w4 hbox hb; have BK101 := Aside0.mk (hbox); have GW101 := Aside0.mk ((by rw [hg]; exact (below_size (below_x HB.out)) : w.heap.size ≤ gb101)); have GE101 := Aside0.mk ((by rw [hg]; exact (below_size (below_x HB.out)) : w.heap.size ≤ gb101)); replace HB := Aside0.mk (below_step (below_x HB.out) hb); clear hb hbox hg; obtain ⟨_, _, _, _, _, _, _⟩ := cz7 BK101; have hfz5_0 := blk_frozen BK101.out))
  go_loopg [20] k (fun kq v20 w' => ∃ (x20_1 : Int), v20 = .int .i64 x20_1 ∧ Aside0 (ship_checkStowage.l0 kq l1 l1 (l1.length : Int) x20_1 a0_0 a0_1 a0_2 l0_3 a0_4 l0_5 l0_6 = some r) ∧ Aside0 (kq ≤ k) ∧ Aside0 (w'.heap[gb101]? = some (.cells #[.int .i64 a0_0, .int .i64 a0_1, .int .i64 a0_2, (.slice A0_3 l0_3.length c0_3), .int .i64 a0_4, (.slice A0_5 l0_5.length c0_5), (.slice A0_6 l0_6.length c0_6)] 26 (0, 0))) ∧ Aside0 (Below w.heap.size w w'))
  case atStart => exact ⟨(0), (by first | rfl | (simp; done) | (simp [*]; done)), H', ⟨Nat.le_refl _⟩, ⟨blk_x BK101.out⟩, ⟨by exact below_y HB.out⟩⟩
  case round =>
   clear H'
   obtain ⟨x20_1, rfl, HA, HK1, BK101, HB⟩ := hrel
   cases gk with
   | zero => exact absurd HA.out (by simp [ship_checkStowage.l0])
   | succ k1 =>
    have H := HA.out
    clear HA
    simp only [ship_checkStowage.l0] at H
    by_cases c6 : x20_1 < (l1.length : Int)
    ·
     rw [if_pos c6] at H
     have c6b0 : decide (x20_1 < (l1.length : Int)) = true := decide_eq_true c6
     clear c6
     by_cases c7 : 0 ≤ x20_1
     ·
      rw [if_pos c7] at H
      have c7b0 : decide (0 ≤ x20_1) = true := decide_eq_true c7
      clear c7
      by_cases c8 : x20_1 < (l1.length : Int)
      ·
       rw [if_pos c8] at H
       have c8b0 : decide (x20_1 < (l1.length : Int)) = true := decide_eq_true c8
       clear c8
       replace H := Option.bind_eq_some_iff.mp H
       obtain ⟨t103, A90, H⟩ := H
       try dsimp only at H
       have A9 := Aside0.mk A90
       clear A90
       by_cases c10 : t103 = true
       ·
        subst c10
        have H1 : (ship_checkStowage.l0 k1 l1 l1 (l1.length : Int) (wrap64 (x20_1 + 1)) a0_0 a0_1 a0_2 l0_3 a0_4 l0_5 l0_6) = some r := by rw [if_pos rfl] at H; exact H
        clear H
        have H := H1
        clear H1
        have H' := Aside0.mk H
        clear H
        have p102 : 0 ≤ (x20_1 : Int) := of_x
        have q102 : x20_1 < (l1.length : Int) := of_x
        obtain ⟨ad102, e102, hx102_0⟩ := Kd.at_int HR1.out x20_1 p102 q102
        cases e102
        replace hx102_0 := cell_x HB hx102_0
        replace p102 := eq_true p102
        replace q102 := eq_true q102
        obtain ⟨_, _, _, _, _, _, _⟩ := cz7 BK101
        have hfz11_0 := blk_frozen BK101.out
        go_wp2_with (first | ((with_reducible refine gate_callee (f := 72) rfl ?_); refine goesL_ (some 29) rfl rfl Try.func72 (by kernel_rfl) rfl #[.int .i64 (rd l1 x20_1), .int .i64 (-1), .int .i64 (wrap64 ((l0_3.length : Int) - 1))] rfl (by (try simp only [List.map_toArray, List.map_cons, List.map_nil]); first | done | rfl | (simp only [List.length_drop, List.length_take]; rfl)) ?_; (with_reducible refine (ship_in.calls (rd l1 x20_1) (-1) (wrap64 ((l0_3.length : Int) - 1)) true _ A9.out).mono ?_); rintro e w' ⟨rfl, ⟨nd, rfl⟩⟩; refine ⟨_, rfl, ?_⟩))
        go_roundg k1
        case measure => have := HK1.out; omega
        case rel => exact ⟨(wrap64 (x20_1 + 1)), (by first | rfl | (simp; done) | (simp [*]; done)), H', ⟨by have := HK1.out; omega⟩, ⟨blk_x BK101.out⟩, ⟨by exact below_y HB.out⟩⟩
       ·
        replace c10 := Bool.eq_false_iff.mpr c10
        subst c10
        have H1 : (some 3) = some r := by rw [if_neg (show ¬ (false = true) by decide)] at H; exact H
        clear H
        have H := H1
        clear H1
        obtain rfl := Option.some.inj H
        have p102 : 0 ≤ (x20_1 : Int) := of_x
        have q102 : x20_1 < (l1.length : Int) := of_x
        obtain ⟨ad102, e102, hx102_0⟩ := Kd.at_int HR1.out x20_1 p102 q102
        cases e102
        replace hx102_0 := cell_x HB hx102_0
        replace p102 := eq_true p102
        replace q102 := eq_true q102
        obtain ⟨_, _, _, _, _, _, _⟩ := cz7 BK101
        have hfz12_0 := blk_frozen BK101.out
        go_wp2_with (first | ((with_reducible refine gate_callee (f := 72) rfl ?_); refine goesL_ (some 29) rfl rfl Try.func72 (by kernel_rfl) rfl #[.int .i64 (rd l1 x20_1), .int .i64 (-1), .int .i64 (wrap64 ((l0_3.length : Int) - 1))] rfl (by (try simp only [List.map_toArray, List.map_cons, List.map_nil]); first | done | rfl | (simp only [List.length_drop, List.length_take]; rfl)) ?_; (with_reducible refine (ship_in.calls (rd l1 x20_1) (-1) (wrap64 ((l0_3.length : Int) - 1)) false _ A9.out).mono ?_); rintro e w' ⟨rfl, ⟨nd, rfl⟩⟩; refine ⟨_, rfl, ?_⟩))
        go_ret
        exact ⟨by first | rfl | (simp [errW_none, errW_some] <;> rfl) | (simp [*, errW_none, errW_some] <;> rfl), by exact below_y HB.out⟩
      ·
       rw [if_neg c8] at H
       exact absurd H (by simp)
     ·
      rw [if_neg c7] at H
      exact absurd H (by simp)
    ·
     rw [if_neg c6] at H
     have c6b0 : decide (x20_1 < (l1.length : Int)) = false := decide_eq_false c6
     clear c6
     have H' := Aside0.mk H
     clear H
     obtain ⟨_, _, _, _, _, _, _⟩ := cz7 BK101
     have hfz13_0 := blk_frozen BK101.out
     go_wp2
     go_loopg [35] k1 (fun kq v35 w' => ∃ (x35_2 : Int), v35 = .int .i64 x35_2 ∧ Aside0 (ship_checkStowage.l1 kq l1 l0_3 (l0_3.length : Int) x35_2 a0_0 a0_1 a0_2 l0_3 a0_4 l0_5 l0_6 = some r) ∧ Aside0 (kq ≤ k1) ∧ Aside0 (w'.heap[gb101]? = some (.cells #[.int .i64 a0_0, .int .i64 a0_1, .int .i64 a0_2, (.slice A0_3 l0_3.length c0_3), .int .i64 a0_4, (.slice A0_5 l0_5.length c0_5), (.slice A0_6 l0_6.length c0_6)] 26 (0, 0))) ∧ Aside0 (Below w.heap.size w w'))
     case atStart => exact ⟨(0), (by first | rfl | (simp; done) | (simp [*]; done)), H', ⟨Nat.le_refl _⟩, ⟨blk_x BK101.out⟩, ⟨by exact below_y HB.out⟩⟩
     case round =>
      clear H'
      obtain ⟨x35_2, rfl, HA, HK2, BK101, HB⟩ := hrel
      cases gk with
      | zero => exact absurd HA.out (by simp [ship_checkStowage.l1])
      | succ k2 =>
       have H := HA.out
       clear HA
       simp only [ship_checkStowage.l1] at H
       by_cases c14 : x35_2 < (l0_3.length : Int)
       ·
        rw [if_pos c14] at H
        have c14b0 : decide (x35_2 < (l0_3.length : Int)) = true := decide_eq_true c14
        clear c14
        by_cases c15 : 0 ≤ x35_2
        ·
         rw [if_pos c15] at H
         have c15b0 : decide (0 ≤ x35_2) = true := decide_eq_true c15
         clear c15
         by_cases c16 : x35_2 < (l0_3.length : Int)
         ·
          rw [if_pos c16] at H
          have c16b0 : decide (x35_2 < (l0_3.length : Int)) = true := decide_eq_true c16
          clear c16
          have H' := Aside0.mk H
          clear H
          have p104 : 0 ≤ (x35_2 : Int) := of_x
          have q104 : x35_2 < (l0_3.length : Int) := of_x
          obtain ⟨ad104, e104, hx104_0, hx104_1, hx104_2⟩ := at_T85 HR0_3.out x35_2 p104 q104
          cases e104
          replace hx104_0 := cell_x HB hx104_0
          replace hx104_1 := cell_x HB hx104_1
          replace hx104_2 := cell_x HB hx104_2
          replace p104 := eq_true p104
          replace q104 := eq_true q104
          go_wp2_with (first | ((with_reducible refine gate_dst (N := 8) rfl ?_); refine box_event ?hg (N := 8) ?hd (cs := #[.int .i64 0, .int .i64 0, .int .i64 0]) (t := 85) ?hr ?_; (case hd => rfl); (case hg => rfl); (case hr => first | (go_simp; done) | (go_simp; rfl)); intro gb105 hg w17 hbox hb; have BK105 := Aside0.mk (hbox); have GW105 := Aside0.mk ((by rw [hg]; exact (below_size (by exact below_y HB.out)) : w.heap.size ≤ gb105)); have GE105 := Aside0.mk ((by rw [hg]; exact (below_size (by exact below_y HB.out)) : w.heap.size ≤ gb105)); replace HB := bl_x HB hb; have NB101_105 := Aside0.mk ((by rw [hg]; exact Nat.ne_of_lt (blk_lt (g := gb101) (o := .cells #[.int .i64 a0_0, .int .i64 a0_1, .int .i64 a0_2, .slice (some ad104) l0_3.length c0_3, .int .i64 a0_4, .slice A0_5 l0_5.length c0_5, .slice A0_6 l0_6.length c0_6] 26 (0, 0)) (blk_x BK101.out)) : gb101 ≠ gb105)); have NB105_101 := Aside0.mk ((by rw [hg]; exact Nat.ne_of_gt (blk_lt (g := gb101) (o := .cells #[.int .i64 a0_0, .int .i64 a0_1, .int .i64 a0_2, .slice (some ad104) l0_3.length c0_3, .int .i64 a0_4, .slice A0_5 l0_5.length c0_5, .slice A0_6 l0_6.length c0_6] 26 (0, 0)) (blk_x BK101.out)) : gb105 ≠ gb101)); replace BK101 := Aside0.mk (blk_below (blk_x BK101.out) hb); clear hb hbox hg; have hnb18 := NB105_101.out; have hnc18 := NB101_105.out; obtain ⟨_, _, _⟩ := cz3 BK105; have hfz19_0 := blk_frozen BK105.out))
          go_loopg [9, 44] k2 (fun kq v9 v44 w' => ∃ (x9_3 : Int) (x44_3 : Int), v9 = .int .i64 x9_3 ∧ v44 = .int .i64 x44_3 ∧ Aside0 (ship_checkStowage.l2 kq l1 x35_2 x9_3 l0_3 (l0_3.length : Int) x35_2 l1 (l1.length : Int) x44_3 a0_0 a0_1 a0_2 l0_3 a0_4 l0_5 l0_6 = some r) ∧ Aside0 (kq ≤ k2) ∧ Aside0 (w'.heap[gb101]? = some (.cells #[.int .i64 a0_0, .int .i64 a0_1, .int .i64 a0_2, (.slice (some ad104) l0_3.length c0_3), .int .i64 a0_4, (.slice A0_5 l0_5.length c0_5), (.slice A0_6 l0_6.length c0_6)] 26 (0, 0))) ∧ Aside0 (w'.heap[gb105]? = some (.cells #[.int .i64 ((rd_T85 l0_3 x35_2).f0), .int .i64 ((rd_T85 l0_3 x35_2).f1), .int .i64 ((rd_T85 l0_3 x35_2).f2)] 85 (0, 0))) ∧ Aside0 (Below w.heap.size w w'))
          case atStart => exact ⟨((rd_T85 l0_3 x35_2).f0), (0), (by first | rfl | (simp; done) | (simp [*]; done)), (by first | rfl | (simp; done) | (simp [*]; done)), H', ⟨Nat.le_refl _⟩, ⟨blk_w BK101.out⟩, ⟨by (with_reducible repeat (first | refine blk_drewN ?_ _ | refine blk_drew ?_ | refine blk_alloc ?_ _)); refine blk_put (cs := #[.int .i64 ((rd_T85 l0_3 x35_2).f0), .int .i64 ((rd_T85 l0_3 x35_2).f1), .int .i64 0]) ?_ 2 _ rfl; (with_reducible repeat (first | refine blk_drewN ?_ _ | refine blk_drew ?_ | refine blk_alloc ?_ _)); refine blk_put (cs := #[.int .i64 ((rd_T85 l0_3 x35_2).f0), .int .i64 0, .int .i64 0]) ?_ 1 _ rfl; (with_reducible repeat (first | refine blk_drewN ?_ _ | refine blk_drew ?_ | refine blk_alloc ?_ _)); refine blk_put (cs := #[.int .i64 0, .int .i64 0, .int .i64 0]) ?_ 0 _ rfl; (with_reducible repeat (first | refine blk_drewN ?_ _ | refine blk_drew ?_ | refine blk_alloc ?_ _)); exact BK105.out⟩, ⟨by exact below_y HB.out⟩⟩
          case round =>
           clear H'
           obtain ⟨x9_3, x44_3, rfl, rfl, HA, HK3, BK101, BK105, HB⟩ := hrel
           cases gk with
           | zero => exact absurd HA.out (by simp [ship_checkStowage.l2])
           | succ k3 =>
            have H := HA.out
            clear HA
            simp only [ship_checkStowage.l2] at H
            by_cases c20 : x44_3 < (l1.length : Int)
            ·
             rw [if_pos c20] at H
             have c20b0 : decide (x44_3 < (l1.length : Int)) = true := decide_eq_true c20
             clear c20
             by_cases c21 : 0 ≤ x44_3
             ·
              rw [if_pos c21] at H
              have c21b0 : decide (0 ≤ x44_3) = true := decide_eq_true c21
              clear c21
              by_cases c22 : x44_3 < (l1.length : Int)
              ·
               rw [if_pos c22] at H
               have c22b0 : decide (x44_3 < (l1.length : Int)) = true := decide_eq_true c22
               clear c22
               by_cases c23 : (rd l1 x44_3) = x35_2
               ·
                rw [if_pos c23] at H
                have c23b0 : ((rd l1 x44_3) == x35_2) = true := beq_iff_eq.mpr c23
                have c23b1 : ((rd l1 x44_3) != x35_2) = false := bne_eq_false_iff_eq.mpr c23
                clear c23
                by_cases c24 : x44_3 < (l0_6.length : Int)
                ·
                 rw [if_pos c24] at H
                 have c24b0 : decide (x44_3 < (l0_6.length : Int)) = true := decide_eq_true c24
                 clear c24
                 have H' := Aside0.mk H
                 clear H
                 have p106 : 0 ≤ (x44_3 : Int) := of_x
                 have q106 : x44_3 < (l1.length : Int) := of_x
                 obtain ⟨ad106, e106, hx106_0⟩ := Kd.at_int HR1.out x44_3 p106 q106
                 cases e106
                 replace hx106_0 := cell_x HB hx106_0
                 replace p106 := eq_true p106
                 replace q106 := eq_true q106
                 have hnb25 := NB101_105.out
                 have hnc25 := NB105_101.out
                 obtain ⟨_, _, _, _, _, _, _⟩ := cz7 BK101
                 have hfz26_0 := blk_frozen BK101.out
                 have p107 : 0 ≤ (x44_3 : Int) := of_x
                 have q107 : x44_3 < (l0_6.length : Int) := of_x
                 obtain ⟨ad107, e107, hx107_0, hx107_1, hx107_2⟩ := at_T79 HR0_6.out x44_3 p107 q107
                 cases e107
                 replace hx107_0 := cell_x HB hx107_0
                 replace hx107_1 := cell_x HB hx107_1
                 replace hx107_2 := cell_x HB hx107_2
                 replace p107 := eq_true p107
                 replace q107 := eq_true q107
                 go_wp2
                 go_roundg k3
                 case measure => have := HK1.out; have := HK2.out; have := HK3.out; omega
                 case rel => exact ⟨(wrap64 (x9_3 - ((rd_T79 l0_6 x44_3).f0.f1))), (wrap64 (x44_3 + 1)), (by first | rfl | (simp; done) | (simp [*]; done)), (by first | rfl | (simp; done) | (simp [*]; done)), H', ⟨by have := HK1.out; have := HK2.out; have := HK3.out; omega⟩, ⟨blk_x BK101.out⟩, ⟨blk_x BK105.out⟩, ⟨by exact below_y HB.out⟩⟩
                ·
                 rw [if_neg c24] at H
                 exact absurd H (by simp)
               ·
                rw [if_neg c23] at H
                have c23b0 : ((rd l1 x44_3) == x35_2) = false := beq_eq_false_iff_ne.mpr c23
                have c23b1 : ((rd l1 x44_3) != x35_2) = true := bne_iff_ne.mpr c23
                have H' := Aside0.mk H
                clear H
                have p106 : 0 ≤ (x44_3 : Int) := of_x
                have q106 : x44_3 < (l1.length : Int) := of_x
                obtain ⟨ad106, e106, hx106_0⟩ := Kd.at_int HR1.out x44_3 p106 q106
                cases e106
                replace hx106_0 := cell_x HB hx106_0
                replace p106 := eq_true p106
                replace q106 := eq_true q106
                go_wp2
                go_roundg k3
                case measure => have := HK1.out; have := HK2.out; have := HK3.out; omega
                case rel => exact ⟨(x9_3), (wrap64 (x44_3 + 1)), (by first | rfl | (simp; done) | (simp [*]; done)), (by first | rfl | (simp; done) | (simp [*]; done)), H', ⟨by have := HK1.out; have := HK2.out; have := HK3.out; omega⟩, ⟨blk_x BK101.out⟩, ⟨blk_x BK105.out⟩, ⟨by exact below_y HB.out⟩⟩
              ·
               rw [if_neg c22] at H
               exact absurd H (by simp)
             ·
              rw [if_neg c21] at H
              exact absurd H (by simp)
            ·
             rw [if_neg c20] at H
             have c20b0 : decide (x44_3 < (l1.length : Int)) = false := decide_eq_false c20
             clear c20
             by_cases c27 : x9_3 < 0
             ·
              rw [if_pos c27] at H
              have c27b0 : decide (x9_3 < 0) = true := decide_eq_true c27
              clear c27
              obtain rfl := Option.some.inj H
              go_wp2
              go_ret
              exact ⟨by first | rfl | (simp [errW_none, errW_some] <;> rfl) | (simp [*, errW_none, errW_some] <;> rfl), by exact below_y HB.out⟩
             ·
              rw [if_neg c27] at H
              have c27b0 : decide (x9_3 < 0) = false := decide_eq_false c27
              clear c27
              have H' := Aside0.mk H
              clear H
              go_wp2
              go_roundg k3
              case measure => have := HK1.out; have := HK2.out; have := HK3.out; omega
              case rel => exact ⟨(wrap64 (x35_2 + 1)), (by first | rfl | (simp; done) | (simp [*]; done)), H', ⟨by have := HK1.out; have := HK2.out; have := HK3.out; omega⟩, ⟨blk_x BK101.out⟩, ⟨by exact below_y HB.out⟩⟩
         ·
          rw [if_neg c16] at H
          exact absurd H (by simp)
        ·
         rw [if_neg c15] at H
         exact absurd H (by simp)
       ·
        rw [if_neg c14] at H
        have c14b0 : decide (x35_2 < (l0_3.length : Int)) = false := decide_eq_false c14
        clear c14
        obtain rfl := Option.some.inj H
        go_wp2
        go_ret
        exact ⟨by first | rfl | (simp [errW_none, errW_some] <;> rfl) | (simp [*, errW_none, errW_some] <;> rfl), by exact below_y HB.out⟩
 ·
  rw [if_neg c3] at H
  have c3b0 : ((l1.length : Int) == (l0_6.length : Int)) = false := beq_eq_false_iff_ne.mpr c3
  have c3b1 : ((l1.length : Int) != (l0_6.length : Int)) = true := bne_iff_ne.mpr c3
  have c3b2 : (l1.length == l0_6.length) = false := by first | simpa using c3 | (simp at c3 ⊢; omega)
  obtain rfl := Option.some.inj H
  go_enter Try.func63, Try.ntmps63
  go_wp2_with (first | ((with_reducible refine gate_dst (N := 2) rfl ?_); refine box_event ?hg (N := 2) ?hd (cs := #[.int .i64 a0_0, .int .i64 a0_1, .int .i64 a0_2, .slice A0_3 l0_3.length c0_3, .int .i64 a0_4, .slice A0_5 l0_5.length c0_5, .slice A0_6 l0_6.length c0_6]) (t := 26) ?hr ?_; (case hd => rfl); (case hg => rfl); (case hr => first | (go_simp; done) | (go_simp; rfl)); intro gb101 hg w28 hbox hb; have BK101 := Aside0.mk (hbox); have GW101 := Aside0.mk ((by rw [hg]; exact (below_size (below_x HB.out)) : w.heap.size ≤ gb101)); have GE101 := Aside0.mk ((by rw [hg]; exact (below_size (below_x HB.out)) : w.heap.size ≤ gb101)); replace HB := Aside0.mk (below_step (below_x HB.out) hb); clear hb hbox hg; obtain ⟨_, _, _, _, _, _, _⟩ := cz7 BK101; have hfz29_0 := blk_frozen BK101.out))
  go_ret
  exact ⟨by first | rfl | (simp [errW_none, errW_some] <;> rfl) | (simp [*, errW_none, errW_some] <;> rfl), by exact below_y HB.out⟩
def ship_CheckStowage.f (k : Nat) (a0_0 : Int) (a0_1 : Int) (a0_2 : Int) (l0_3 : List (S85)) (a0_4 : Int) (l0_5 : List (S59)) (l0_6 : List (S79)) (l1 : List Int) : Option (Int) := (ship_Check.f k a0_0 a0_1 a0_2 l0_3 a0_4 l0_5 l0_6).bind fun t138 => (if t138 = 0 then ((ship_checkStowage.f k a0_0 a0_1 a0_2 l0_3 a0_4 l0_5 l0_6 l1).bind fun t139 => (some t139)) else (some t138))
theorem ship_CheckStowage.mono : ∀ a0 a1 a2 a3 a4 a5 a6 a7 k, LeO (ship_CheckStowage.f k a0 a1 a2 a3 a4 a5 a6 a7) (ship_CheckStowage.f (k + 1) a0 a1 a2 a3 a4 a5 a6 a7) := by
 intro a0 a1 a2 a3 a4 a5 a6 a7 k
 unfold ship_CheckStowage.f
 repeat' first
   | (with_reducible exact ship_Check.mono _ _ _ _ _ _ _ _)
   | (with_reducible exact ship_checkStowage.mono _ _ _ _ _ _ _ _ _)
   | (with_reducible exact LeO.refl _)
   | (with_reducible exact LeO.none _)
   | (with_reducible refine LeO.ite ?_ ?_)
   | (with_reducible refine LeO.bind ?_ (fun _ => ?_))
   | exact ship_Check.mono _ _ _ _ _ _ _ _
   | exact ship_checkStowage.mono _ _ _ _ _ _ _ _ _
   | exact LeO.none _
   | refine LeO.ite ?_ ?_
   | refine LeO.bind ?_ (fun _ => ?_)
set_option maxHeartbeats 8000000 in
set_option maxRecDepth 100000 in
theorem ship_CheckStowage.calls (k : Nat) (a0_0 : Int) (a0_1 : Int) (a0_2 : Int) (A0_3 : Option Addr) (c0_3 : Nat) (l0_3 : List (S85)) (a0_4 : Int) (A0_5 : Option Addr) (c0_5 : Nat) (l0_5 : List (S59)) (A0_6 : Option Addr) (c0_6 : Nat) (l0_6 : List (S79)) (A1 : Option Addr) (c1 : Nat) (l1 : List Int) (r : Int) (w : World) (hr0_3 : Kd.C k85 w A0_3 l0_3.length l0_3) (hc0_3 : l0_3.length ≤ c0_3) (hr0_5 : Kd.C k59 w A0_5 l0_5.length l0_5) (hc0_5 : l0_5.length ≤ c0_5) (hr0_6 : Kd.C k79 w A0_6 l0_6.length l0_6) (hc0_6 : l0_6.length ≤ c0_6) (hr1 : Kd.C (Kd.int .i64) w A1 l1.length l1) (hc1 : l1.length ≤ c1) (h : ship_CheckStowage.f k a0_0 a0_1 a0_2 l0_3 a0_4 l0_5 l0_6 l1 = some r) :
  Calls Try.prog 40 #[.agg #[.int .i64 a0_0, .int .i64 a0_1, .int .i64 a0_2, .slice A0_3 l0_3.length c0_3, .int .i64 a0_4, .slice A0_5 l0_5.length c0_5, .slice A0_6 l0_6.length c0_6], .slice A1 l1.length c1] w fun e w' => e = .returned (.int .i64 r) ∧ Below w.heap.size w w' := by
 have hu26 := Try.underlying26
 have HR0_3 := Aside0.mk hr0_3
 have HC0_3 := Aside0.mk hc0_3
 clear hr0_3 hc0_3
 have HR0_5 := Aside0.mk hr0_5
 have HC0_5 := Aside0.mk hc0_5
 clear hr0_5 hc0_5
 have HR0_6 := Aside0.mk hr0_6
 have HC0_6 := Aside0.mk hc0_6
 clear hr0_6 hc0_6
 have HR1 := Aside0.mk hr1
 have HC1 := Aside0.mk hc1
 clear hr1 hc1
 have HB := Aside0.mk (Below.refl w.heap.size w)
 have H : ((ship_Check.f k a0_0 a0_1 a0_2 l0_3 a0_4 l0_5 l0_6).bind fun t138 => (if t138 = 0 then ((ship_checkStowage.f k a0_0 a0_1 a0_2 l0_3 a0_4 l0_5 l0_6 l1).bind fun t139 => (some t139)) else (some t138))) = some r := h
 clear h
 replace H := Option.bind_eq_some_iff.mp H
 obtain ⟨t138, A30, H⟩ := H
 try dsimp only at H
 have A3 := Aside0.mk A30
 clear A30
 by_cases c4 : t138 = 0
 ·
  rw [if_pos c4] at H
  have c4b0 : (t138 == 0) = true := beq_iff_eq.mpr c4
  have c4b1 : (t138 != 0) = false := bne_eq_false_iff_eq.mpr c4
  clear c4
  replace H := Option.bind_eq_some_iff.mp H
  obtain ⟨t139, A50, H⟩ := H
  replace H : (some t139) = some r := H
  have A5 := Aside0.mk A50
  clear A50
  obtain rfl := Option.some.inj H
  go_enter Try.func40, Try.ntmps40
  go_wp2_with (first | ((with_reducible refine gate_dst (N := 2) rfl ?_); refine box_event ?hg (N := 2) ?hd (cs := #[.int .i64 a0_0, .int .i64 a0_1, .int .i64 a0_2, .slice A0_3 l0_3.length c0_3, .int .i64 a0_4, .slice A0_5 l0_5.length c0_5, .slice A0_6 l0_6.length c0_6]) (t := 26) ?hr ?_; (case hd => rfl); (case hg => rfl); (case hr => first | (go_simp; done) | (go_simp; rfl)); intro gb137 hg w6 hbox hb; have BK137 := Aside0.mk (hbox); have GW137 := Aside0.mk ((by rw [hg]; exact (below_size (below_x HB.out)) : w.heap.size ≤ gb137)); have GE137 := Aside0.mk ((by rw [hg]; exact (below_size (below_x HB.out)) : w.heap.size ≤ gb137)); replace HB := Aside0.mk (below_step (below_x HB.out) hb); clear hb hbox hg; obtain ⟨_, _, _, _, _, _, _⟩ := cz7 BK137; have hfz7_0 := blk_frozen BK137.out) | ((with_reducible refine gate_callee (f := 39) rfl ?_); refine goesL_ (some 7) rfl rfl Try.func39 (by kernel_rfl) rfl #[.agg #[.int .i64 a0_0, .int .i64 a0_1, .int .i64 a0_2, .slice A0_3 l0_3.length c0_3, .int .i64 a0_4, .slice A0_5 l0_5.length c0_5, .slice A0_6 l0_6.length c0_6]] rfl (by (try simp only [List.map_toArray, List.map_cons, List.map_nil]); first | done | rfl | (simp only [List.length_drop, List.length_take]; rfl)) ?_; (with_reducible refine (ship_Check.calls k a0_0 a0_1 a0_2 _ _ l0_3 a0_4 _ _ l0_5 _ _ l0_6 t138 _ ?side1 ?side2 ?side3 ?side4 ?side5 ?side6 A3.out).mono ?_); (case side1 => exact Kd.C_x HR0_3.out HB.out); (case side2 => exact HC0_3.out); (case side3 => exact Kd.C_x HR0_5.out HB.out); (case side4 => exact HC0_5.out); (case side5 => exact Kd.C_x HR0_6.out HB.out); (case side6 => exact HC0_6.out); rintro e w8 ⟨rfl, hb⟩; refine ⟨_, rfl, ?_⟩; replace BK137 := Aside0.mk (blk_below (blk_x BK137.out) hb); replace HB := bl_x HB hb; (try clear hb); (try clear hk); (try clear hi); obtain ⟨_, _, _, _, _, _, _⟩ := cz7 BK137; have hfz9_0 := blk_frozen BK137.out) | ((with_reducible refine gate_callee (f := 63) rfl ?_); refine goesL_ (some 13) rfl rfl Try.func63 (by kernel_rfl) rfl #[.agg #[.int .i64 a0_0, .int .i64 a0_1, .int .i64 a0_2, .slice A0_3 l0_3.length c0_3, .int .i64 a0_4, .slice A0_5 l0_5.length c0_5, .slice A0_6 l0_6.length c0_6], .slice A1 l1.length c1] rfl (by (try simp only [List.map_toArray, List.map_cons, List.map_nil]); first | done | rfl | (simp only [List.length_drop, List.length_take]; rfl)) ?_; (with_reducible refine (ship_checkStowage.calls k a0_0 a0_1 a0_2 _ _ l0_3 a0_4 _ _ l0_5 _ _ l0_6 _ _ l1 t139 _ ?side1 ?side2 ?side3 ?side4 ?side5 ?side6 ?side7 ?side8 A5.out).mono ?_); (case side1 => exact Kd.C_x HR0_3.out HB.out); (case side2 => exact HC0_3.out); (case side3 => exact Kd.C_x HR0_5.out HB.out); (case side4 => exact HC0_5.out); (case side5 => exact Kd.C_x HR0_6.out HB.out); (case side6 => exact HC0_6.out); (case side7 => exact Kd.C_x HR1.out HB.out); (case side8 => exact HC1.out); rintro e w10 ⟨rfl, hb⟩; refine ⟨_, rfl, ?_⟩; replace BK137 := Aside0.mk (blk_below (blk_x BK137.out) hb); replace HB := bl_x HB hb; (try clear hb); (try clear hk); (try clear hi)))
  go_ret
  exact ⟨by first | rfl | (simp [errW_none, errW_some] <;> rfl) | (simp [*, errW_none, errW_some] <;> rfl), by exact below_y HB.out⟩
 ·
  rw [if_neg c4] at H
  have c4b0 : (t138 == 0) = false := beq_eq_false_iff_ne.mpr c4
  have c4b1 : (t138 != 0) = true := bne_iff_ne.mpr c4
  obtain rfl := Option.some.inj H
  go_enter Try.func40, Try.ntmps40
  go_wp2_with (first | ((with_reducible refine gate_dst (N := 2) rfl ?_); refine box_event ?hg (N := 2) ?hd (cs := #[.int .i64 a0_0, .int .i64 a0_1, .int .i64 a0_2, .slice A0_3 l0_3.length c0_3, .int .i64 a0_4, .slice A0_5 l0_5.length c0_5, .slice A0_6 l0_6.length c0_6]) (t := 26) ?hr ?_; (case hd => rfl); (case hg => rfl); (case hr => first | (go_simp; done) | (go_simp; rfl)); intro gb137 hg w11 hbox hb; have BK137 := Aside0.mk (hbox); have GW137 := Aside0.mk ((by rw [hg]; exact (below_size (below_x HB.out)) : w.heap.size ≤ gb137)); have GE137 := Aside0.mk ((by rw [hg]; exact (below_size (below_x HB.out)) : w.heap.size ≤ gb137)); replace HB := Aside0.mk (below_step (below_x HB.out) hb); clear hb hbox hg; obtain ⟨_, _, _, _, _, _, _⟩ := cz7 BK137; have hfz12_0 := blk_frozen BK137.out) | ((with_reducible refine gate_callee (f := 39) rfl ?_); refine goesL_ (some 7) rfl rfl Try.func39 (by kernel_rfl) rfl #[.agg #[.int .i64 a0_0, .int .i64 a0_1, .int .i64 a0_2, .slice A0_3 l0_3.length c0_3, .int .i64 a0_4, .slice A0_5 l0_5.length c0_5, .slice A0_6 l0_6.length c0_6]] rfl (by (try simp only [List.map_toArray, List.map_cons, List.map_nil]); first | done | rfl | (simp only [List.length_drop, List.length_take]; rfl)) ?_; (with_reducible refine (ship_Check.calls k a0_0 a0_1 a0_2 _ _ l0_3 a0_4 _ _ l0_5 _ _ l0_6 t138 _ ?side1 ?side2 ?side3 ?side4 ?side5 ?side6 A3.out).mono ?_); (case side1 => exact Kd.C_x HR0_3.out HB.out); (case side2 => exact HC0_3.out); (case side3 => exact Kd.C_x HR0_5.out HB.out); (case side4 => exact HC0_5.out); (case side5 => exact Kd.C_x HR0_6.out HB.out); (case side6 => exact HC0_6.out); rintro e w13 ⟨rfl, hb⟩; refine ⟨_, rfl, ?_⟩; replace BK137 := Aside0.mk (blk_below (blk_x BK137.out) hb); replace HB := bl_x HB hb; (try clear hb); (try clear hk); (try clear hi)))
  go_ret
  exact ⟨by first | rfl | (simp [errW_none, errW_some] <;> rfl) | (simp [*, errW_none, errW_some] <;> rfl), by exact below_y HB.out⟩
end Go.Proofs.Ytodmemndaaiolaa.PC7
namespace Go.Proofs.Ytodmemndaaiolaa.PC7
set_option linter.unusedVariables false
set_option linter.unusedSimpArgs false
open Go.RowKit Go.Proofs.YtodmemndaaiolaaW.PrintWords Go.Proofs.YtodmemndaaiolaaW.PrintLast Go.Proofs.YtodmemndaaiolaaW.PrintMore
noncomputable def limO {α : Type} (g : Nat → Option α) : Option α := open Classical in if h : ∃ r, Ev g r then some (Classical.choose h) else none
theorem Ev.uniq {α : Type} {g : Nat → Option α} {r s : α} (h : Ev g r) (k : Ev g s) : r = s := by
  obtain ⟨K, h⟩ := h
  obtain ⟨L, k⟩ := k
  have h1 := h (max K L) (Nat.le_max_left _ _)
  have h2 := k (max K L) (Nat.le_max_right _ _)
  rw [h1] at h2
  injection h2
theorem limO_of {α : Type} {g : Nat → Option α} {r : α} (h : Ev g r) : limO g = some r := by
  have hh : ∃ r, Ev g r := ⟨r, h⟩
  unfold limO
  rw [dif_pos hh]
  congr 1
  exact Ev.uniq (Classical.choose_spec hh) h
theorem limO_ev {α : Type} {g : Nat → Option α} {r : α} (h : limO g = some r) : ∃ k, g k = some r := by
  unfold limO at h
  by_cases hh : ∃ r, Ev g r
  · rw [dif_pos hh] at h
    have := Classical.choose_spec hh
    injection h with h
    rw [h] at this
    exact this.rounds
  · rw [dif_neg hh] at h
    cases h
noncomputable def stowE (light under trim : Int) (holds : List S85) (leaves : Int) (sills : List S59) (lots : List S79) (s : List Int) : Option Int := limO fun k => ship_CheckStowage.f k light under trim holds leaves sills lots s
set_option maxHeartbeats 8000000 in
set_option maxRecDepth 100000 in
theorem laden_calls (x : VoyV) (A1 : Option Addr) (c1 : Nat) (l1 : List Int) (Q : Q4) (w : World) (hx : x.Ok w) (hr1 : Kd.C (Kd.int .i64) w A1 l1.length l1) (hc1 : l1.length ≤ c1) (hl1 : l1.length ≤ 140737488351232)
  (h : ladenO x.light x.holds x.lots l1 = some Q) :
  Calls Try.prog 55 #[.agg #[.int .i64 x.light, .int .i64 x.under, .int .i64 x.trim, .slice x.A3 x.holds.length x.c3, .int .i64 x.leaves, .slice x.A5 x.sills.length x.c5, .slice x.A6 x.lots.length x.c6], .slice A1 l1.length c1] w fun e w' => e = .returned (.agg #[.int .i64 x.light, .int .i64 x.under, .int .i64 x.trim, .slice x.A3 x.holds.length x.c3, .int .i64 x.leaves, .slice x.A5 x.sills.length x.c5, .slice x.A6 x.lots.length x.c6, .int .i64 Q.b0, .int .i64 Q.b1, .int .i64 Q.h0, .int .i64 Q.h1]) ∧ Below w.heap.size w w' := by
 have hu26 := Try.underlying26
 have hu93 := Try.underlying93
 have hu95 := Try.underlying95
 have hu92 := Try.underlying92
 have hu85 := Try.underlying85
 have hu56 := Try.underlying56
 have hu79 := Try.underlying79
 have HX := Aside0.mk hx
 have HR1 := Aside0.mk hr1
 have HF := Aside0.mk h
 clear hx hr1 h
 go_enter Try.func55, Try.ntmps55
 go_upto_region 1 with (first
  | ((with_reducible refine gate_dst (N := 2) rfl ?_); refine box_event ?hg (N := 2) ?hd (cs := #[.int .i64 x.light, .int .i64 x.under, .int .i64 x.trim, .slice x.A3 x.holds.length x.c3, .int .i64 x.leaves, .slice x.A5 x.sills.length x.c5, .slice x.A6 x.lots.length x.c6]) (t := 26) ?hr ?_; (case hd => rfl); (case hg => rfl); (case hr => first | (go_simp; done) | (go_simp; rfl)); intro gb hg w2 hbox hb2; have BK := Aside0.mk hbox; have HB := Aside0.mk hb2; clear hg hbox hb2))
 have hs2_ := HB.out.size
 obtain ⟨g4, hg_⟩ : ∃ b, b = w2.heap.size := ⟨_, rfl⟩
 have Ng4 := Aside0.mk (blk_new w2 (.cells #[.int .i64 0, .int .i64 0, .int .i64 0, .slice none 0 0, .int .i64 0, .slice none 0 0, .slice none 0 0, .int .i64 0, .int .i64 0, .int .i64 0, .int .i64 0] 95 (0, 0)))
 have hbw : Below w2.heap.size w2 (w2.alloc (.cells #[.int .i64 0, .int .i64 0, .int .i64 0, .slice none 0 0, .int .i64 0, .slice none 0 0, .slice none 0 0, .int .i64 0, .int .i64 0, .int .i64 0, .int .i64 0] 95 (0, 0))) := below_alloc (Below.refl _ _) _
 generalize hw_ : w2.alloc (.cells #[.int .i64 0, .int .i64 0, .int .i64 0, .slice none 0 0, .int .i64 0, .slice none 0 0, .slice none 0 0, .int .i64 0, .int .i64 0, .int .i64 0, .int .i64 0] 95 (0, 0)) = w3 at *
 rw [← hg_] at Ng4 ⊢
 replace BK := Aside0.mk (blk_below BK.out hbw)
 replace HB := Aside0.mk (below_step HB.out hbw)
 have HN4 : Aside0 (w.heap.size ≤ g4) := ⟨by omega⟩
 clear hs2_ hbw hw_ hg_
 have hz0_ := (blk_cell BK.out 0).trans rfl
 have hz1_ := (blk_cell BK.out 1).trans rfl
 have hz2_ := (blk_cell BK.out 2).trans rfl
 have hz3_ := (blk_cell BK.out 3).trans rfl
 have hz4_ := (blk_cell BK.out 4).trans rfl
 have hz5_ := (blk_cell BK.out 5).trans rfl
 have hz6_ := (blk_cell BK.out 6).trans rfl
 go_upto_region 2 with (fail)
 clear hz0_ hz1_ hz2_ hz3_ hz4_ hz5_ hz6_
 obtain ⟨g5, hg_⟩ : ∃ b, b = w3.heap.size := ⟨_, rfl⟩
 have Ng5 := Aside0.mk (blk_new w3 (.cells #[.int .i64 (wrap64 (1000 * x.light)), .int .i64 (wrap64 (1000 * x.light))] 93 (0, 0)))
 have hbw : Below w3.heap.size w3 (w3.alloc (.cells #[.int .i64 (wrap64 (1000 * x.light)), .int .i64 (wrap64 (1000 * x.light))] 93 (0, 0))) := below_alloc (Below.refl _ _) _
 generalize hw_ : w3.alloc (.cells #[.int .i64 (wrap64 (1000 * x.light)), .int .i64 (wrap64 (1000 * x.light))] 93 (0, 0)) = w4 at *
 rw [← hg_] at Ng5 ⊢
 replace BK := Aside0.mk (blk_below BK.out hbw)
 replace Ng4 := Aside0.mk (blk_below Ng4.out hbw)
 replace HB := Aside0.mk (below_step HB.out hbw)
 clear hbw hw_ hg_
 have hz0_ := (blk_cell BK.out 0).trans rfl
 have hz1_ := (blk_cell BK.out 1).trans rfl
 have hz2_ := (blk_cell BK.out 2).trans rfl
 have hz3_ := (blk_cell BK.out 3).trans rfl
 have hz4_ := (blk_cell BK.out 4).trans rfl
 have hz5_ := (blk_cell BK.out 5).trans rfl
 have hz6_ := (blk_cell BK.out 6).trans rfl
 have he0_ := (blk_cell Ng5.out 0).trans rfl
 have he1_ := (blk_cell Ng5.out 1).trans rfl
 go_upto_region 3 with (fail)
 clear hz0_ hz1_ hz2_ hz3_ hz4_ hz5_ hz6_ he0_ he1_
 have hs4_ := HB.out.size
 have hl4_ := blk_lt Ng4.out
 obtain ⟨g6, hg_⟩ : ∃ b, b = w4.heap.size := ⟨_, rfl⟩
 have Ng6 := Aside0.mk (blk_new w4 (.cells #[.int .i64 x.light, .int .i64 x.under, .int .i64 x.trim, .slice x.A3 x.holds.length x.c3, .int .i64 x.leaves, .slice x.A5 x.sills.length x.c5, .slice x.A6 x.lots.length x.c6, .int .i64 (wrap64 (1000 * x.light)), .int .i64 (wrap64 (1000 * x.light)), .int .i64 (wrap64 (1000 * x.light)), .int .i64 (wrap64 (1000 * x.light))] 95 (0, 0)))
 have hbw : Below w4.heap.size w4 (w4.alloc (.cells #[.int .i64 x.light, .int .i64 x.under, .int .i64 x.trim, .slice x.A3 x.holds.length x.c3, .int .i64 x.leaves, .slice x.A5 x.sills.length x.c5, .slice x.A6 x.lots.length x.c6, .int .i64 (wrap64 (1000 * x.light)), .int .i64 (wrap64 (1000 * x.light)), .int .i64 (wrap64 (1000 * x.light)), .int .i64 (wrap64 (1000 * x.light))] 95 (0, 0))) := below_alloc (Below.refl _ _) _
 generalize hw_ : w4.alloc (.cells #[.int .i64 x.light, .int .i64 x.under, .int .i64 x.trim, .slice x.A3 x.holds.length x.c3, .int .i64 x.leaves, .slice x.A5 x.sills.length x.c5, .slice x.A6 x.lots.length x.c6, .int .i64 (wrap64 (1000 * x.light)), .int .i64 (wrap64 (1000 * x.light)), .int .i64 (wrap64 (1000 * x.light)), .int .i64 (wrap64 (1000 * x.light))] 95 (0, 0)) = w5 at *
 rw [← hg_] at Ng6 ⊢
 replace BK := Aside0.mk (blk_below BK.out hbw)
 replace Ng4 := Aside0.mk (blk_below Ng4.out hbw)
 replace Ng5 := Aside0.mk (blk_below Ng5.out hbw)
 replace HB := Aside0.mk (below_step HB.out hbw)
 have HN6 : Aside0 (g4 ≠ g6 ∧ w.heap.size ≤ g6) := ⟨by omega, by omega⟩
 clear hs4_ hl4_ hbw hw_ hg_
 go_wp2
 go_loopg [26] l1.length (fun gk v26 wr => ∃ (k : Nat) (q : Q4), k ≤ l1.length ∧ l1.length - k ≤ gk ∧ v26 = .int .i64 k ∧ Aside0 (ladO x.holds x.lots k (l1.drop k) q = some Q) ∧ Aside0 (wr.heap[gb]? = some (.cells #[.int .i64 x.light, .int .i64 x.under, .int .i64 x.trim, .slice x.A3 x.holds.length x.c3, .int .i64 x.leaves, .slice x.A5 x.sills.length x.c5, .slice x.A6 x.lots.length x.c6] 26 (0, 0))) ∧ Aside0 (wr.heap[g4]? = some (.cells #[.int .i64 0, .int .i64 0, .int .i64 0, .slice none 0 0, .int .i64 0, .slice none 0 0, .slice none 0 0, .int .i64 0, .int .i64 0, .int .i64 0, .int .i64 0] 95 (0, 0))) ∧ Aside0 (wr.heap[g6]? = some (.cells #[.int .i64 x.light, .int .i64 x.under, .int .i64 x.trim, .slice x.A3 x.holds.length x.c3, .int .i64 x.leaves, .slice x.A5 x.sills.length x.c5, .slice x.A6 x.lots.length x.c6, .int .i64 q.b0, .int .i64 q.b1, .int .i64 q.h0, .int .i64 q.h1] 95 (0, 0))) ∧ Aside0 (Below w.heap.size w wr))
 case atStart => exact ⟨0, ⟨wrap64 (1000 * x.light), wrap64 (1000 * x.light), wrap64 (1000 * x.light), wrap64 (1000 * x.light)⟩, by omega, by omega, rfl, HF, BK, Ng4, Ng6, HB⟩
 case round =>
  clear BK Ng4 Ng5 Ng6 HB HF
  obtain ⟨k, q, hk, hgk, rfl, HF, BK, B4, B6, HB⟩ := hrel
  by_cases hlt : k < l1.length
  ·
   have hlz : (k : Int) < (l1.length : Int) := by omega
   have hdr := drop_rd l1 k hlt
   rw [hdr] at HF
   clear hdr
   obtain ⟨ad, e, hx0⟩ := Kd.at_int HR1.out (k : Int) (by omega) hlz
   cases e
   rw [Int.toNat_natCast] at hx0
   replace hx0 := cell_x HB hx0
   generalize rd l1 (k : Int) = a at *
   by_cases ha : a < 0
   ·
    have HF2 := Aside0.mk ((show ladO x.holds x.lots (k + 1) (l1.drop (k + 1)) q = some Q by have := HF.out; simp only [ladO] at this; rwa [if_pos ha] at this))
    go_wp2
    go_roundg (l1.length - (k + 1))
    case measure => omega
    case rel => exact ⟨k + 1, q, by omega, by omega, by go_num, HF2, BK, B4, B6, HB⟩
   ·
    have hF := HF.out
    simp only [ladO] at hF
    rw [if_neg ha] at hF
    by_cases ha2 : a < (x.holds.length : Int)
    case neg => rw [if_neg ha2] at hF; cases hF
    rw [if_pos ha2] at hF
    by_cases hk2 : k < x.lots.length
    case neg => rw [if_neg hk2] at hF; cases hF
    rw [if_pos hk2] at hF
    have HF2 := Aside0.mk hF
    clear hF
    go_upto_region 7 with (fail)
    obtain ⟨adh, e3, hh0, hh1, hh2⟩ := at_T85 HX.out.h a (by omega) ha2
    obtain ⟨adl, e6, ht0, ht1, ht2⟩ := at_T79 HX.out.l (k : Int) (by omega) (by omega)
    rw [Int.toNat_natCast] at ht0 ht1
    replace hh0 := cell_x HB hh0
    replace hh1 := cell_x HB hh1
    replace hh2 := cell_x HB hh2
    replace ht0 := cell_x HB ht0
    replace ht1 := cell_x HB ht1
    have hz3_ : wr.cell? ⟨gb, 3, none⟩ = some (.slice (some adh) x.holds.length x.c3) := (by rw [← e3]; exact (blk_cell BK.out 3).trans rfl)
    have hz6_ : wr.cell? ⟨gb, 6, none⟩ = some (.slice (some adl) x.lots.length x.c6) := (by rw [← e6]; exact (blk_cell BK.out 6).trans rfl)
    have haz : 0 ≤ a := by omega
    have hkz : (k : Int) < (x.lots.length : Int) := by omega
    clear ha ht2 e3 e6 hk2
    generalize rd_T85 x.holds a = hd at *
    generalize (rd_T79 x.lots (k : Int)).f0 = tn at *
    have hd_ := below_drew1 (Below.refl wr.heap.size wr)
    replace BK := Aside0.mk (blk_drew BK.out)
    replace B4 := Aside0.mk (blk_drew B4.out)
    replace B6 := Aside0.mk (blk_drew B6.out)
    replace HB := Aside0.mk (below_step HB.out hd_)
    have HS0 := Aside0.mk (show wr.drew.cell? ⟨gb, 3, none⟩ = some (.slice (some adh) x.holds.length x.c3) ∧ wr.drew.cell? ⟨gb, 6, none⟩ = some (.slice (some adl) x.lots.length x.c6) ∧ wr.drew.cell? (adh.add (a.toNat * 3)) = some (.int .i64 hd.f0) ∧ wr.drew.cell? ⟨(adh.add (a.toNat * 3)).block, (adh.add (a.toNat * 3)).off + 1, none⟩ = some (.int .i64 hd.f1) ∧ wr.drew.cell? ⟨(adh.add (a.toNat * 3)).block, (adh.add (a.toNat * 3)).off + 2, none⟩ = some (.int .i64 hd.f2) ∧ wr.drew.cell? (adl.add (k * 3)) = some (.int .i64 tn.f0) ∧ wr.drew.cell? ⟨(adl.add (k * 3)).block, (adl.add (k * 3)).off + 1, none⟩ = some (.int .i64 tn.f1) from ⟨hz3_, hz6_, hh0, hh1, hh2, ht0, ht1⟩)
    clear hd_
    refine start_ (n := 15) (S := fun w' => w'.cell? ⟨gb, 3, none⟩ = some (.slice (some adh) x.holds.length x.c3) ∧ w'.cell? ⟨gb, 6, none⟩ = some (.slice (some adl) x.lots.length x.c6) ∧ w'.cell? (adh.add (a.toNat * 3)) = some (.int .i64 hd.f0) ∧ w'.cell? ⟨(adh.add (a.toNat * 3)).block, (adh.add (a.toNat * 3)).off + 1, none⟩ = some (.int .i64 hd.f1) ∧ w'.cell? ⟨(adh.add (a.toNat * 3)).block, (adh.add (a.toNat * 3)).off + 2, none⟩ = some (.int .i64 hd.f2) ∧ w'.cell? (adl.add (k * 3)) = some (.int .i64 tn.f0) ∧ w'.cell? ⟨(adl.add (k * 3)).block, (adl.add (k * 3)).off + 1, none⟩ = some (.int .i64 tn.f1)) (ds := [14]) #[false, false, false, false, false, false, false, false, false, false, false, false, false, false, false] (by kernel_rfl) rfl rfl ⟨hz3_, hz6_, hh0, hh1, hh2, ht0, ht1⟩ (fun hHeld => ?_)
    generalize wr.drew = wd at BK B4 B6 HB HS0 hHeld ⊢
    refine pure_y 0 (some 33) (bz 15 1) ?_
    refine pure_y 2 (some 35) (bz 15 5) ?_
    refine pure_y 5 (some 38) (bz 15 37) ?_
    refine pure_y 7 (some 40) (bz 15 165) ?_
    refine take_ (i := 1) (N := some 34) (v := ?_) (a' := ?_) (bz 15 167) rfl rfl (by kernel_rfl) (fun _ _ _ h => h) (Or.inl ⟨by rfl, ?_⟩) hHeld ?_ ?_
    rotate_left; (rintro w' ⟨s0, s1, s2, s3, s4, s5, s6⟩; go_simp; with_reducible rfl); rotate_left; (simp only [Act.put, put_x, i64_w, i32_w]; rfl)
    refine pure_y 3 (some 36) (bz 15 175) ?_
    refine take_ (i := 4) (N := some 37) (v := ?_) (a' := ?_) (bz 15 191) rfl rfl (by kernel_rfl) (fun _ _ _ h => h) (Or.inl ⟨by rfl, ?_⟩) hHeld ?_ ?_
    rotate_left; (rintro w' ⟨s0, s1, s2, s3, s4, s5, s6⟩; go_simp; with_reducible rfl); rotate_left; (simp only [Act.put, put_x, i64_w, i32_w]; rfl)
    refine take_ (i := 6) (N := some 39) (v := ?_) (a' := ?_) (bz 15 255) rfl rfl (by kernel_rfl) (fun _ _ _ h => h) (Or.inl ⟨by rfl, ?_⟩) hHeld ?_ ?_
    rotate_left; (rintro w' ⟨s0, s1, s2, s3, s4, s5, s6⟩; go_simp; with_reducible rfl); rotate_left; (simp only [Act.put, put_x, i64_w, i32_w]; rfl)
    refine pure_y 8 (some 41) (bz 15 511) ?_
    refine pure_y 9 (some 42) (bz 15 1023) ?_
    refine take_ (i := 10) (N := some 43) (v := ?_) (a' := ?_) (bz 15 2047) rfl rfl (by kernel_rfl) (fun _ _ _ h => h) (Or.inl ⟨by rfl, ?_⟩) hHeld ?_ ?_
    rotate_left; (rintro w' ⟨s0, s1, s2, s3, s4, s5, s6⟩; go_simp; with_reducible rfl); rotate_left; (simp only [Act.put, put_x, i64_w, i32_w]; rfl)
    refine join_ (σ := Nat × Nat) 2 (bz 15 8191) (fun s_ => [(9, .pointer (some ⟨s_.1, 0, none⟩)), (10, .pointer (some ⟨s_.2, 0, none⟩))]) (fun s_ w' => (w'.cell? ⟨gb, 3, none⟩ = some (.slice (some adh) x.holds.length x.c3) ∧ w'.cell? ⟨gb, 6, none⟩ = some (.slice (some adl) x.lots.length x.c6) ∧ w'.cell? (adh.add (a.toNat * 3)) = some (.int .i64 hd.f0) ∧ w'.cell? ⟨(adh.add (a.toNat * 3)).block, (adh.add (a.toNat * 3)).off + 1, none⟩ = some (.int .i64 hd.f1) ∧ w'.cell? ⟨(adh.add (a.toNat * 3)).block, (adh.add (a.toNat * 3)).off + 2, none⟩ = some (.int .i64 hd.f2) ∧ w'.cell? (adl.add (k * 3)) = some (.int .i64 tn.f0) ∧ w'.cell? ⟨(adl.add (k * 3)).block, (adl.add (k * 3)).off + 1, none⟩ = some (.int .i64 tn.f1)) ∧ Aside0 (w'.heap[s_.1]? = some (.cells #[.int .i64 0, .int .i64 0, .int .i64 0] 85 (0, 0))) ∧ Aside0 (w'.heap[s_.2]? = some (.cells #[.int .i64 0, .int .i64 0] 56 (0, 0))) ∧ wd.heap.size ≤ s_.1 ∧ wd.heap.size ≤ s_.2 ∧ Aside0 (Below wd.heap.size wd w')) ?_ ?_
    rotate_left
    ·
     intro hCont
     refine two_ (i := 11) (j := 12) (Ni := some 9) (Nj := some 10) (bz 15 4095) #[true, true, true, true, true, true, true, true, true, true, true, false, true, false, false] rfl rfl rfl rfl (by kernel_rfl) (by decide) (by decide) (fun K hK => ?_) (fun K hK => ?_)
     ·
      skip
      have HBd := Aside0.mk (Below.refl wd.heap.size wd)
      refine value_ (w1 := ?_) (v := ?_) (by rfl) rfl ?_ ?_
      rotate_left 2
      ·
       go_simp
       constructor
       ·
        rfl
       ·
        rfl
      obtain ⟨g9, hg_⟩ : ∃ b, b = wd.heap.size := ⟨_, rfl⟩
      have B9 := Aside0.mk (blk_new wd (.cells #[.int .i64 0, .int .i64 0, .int .i64 0] 85 (0, 0)))
      have hb11_ : Below wd.heap.size wd (wd.alloc (.cells #[.int .i64 0, .int .i64 0, .int .i64 0] 85 (0, 0))) := below_alloc (Below.refl _ _) _
      have hg9_ : wd.heap.size ≤ g9 := by rw [hg_]; exact HBd.out.size
      generalize hw_ : wd.alloc (.cells #[.int .i64 0, .int .i64 0, .int .i64 0] 85 (0, 0)) = wq11 at *
      rw [← hg_] at B9 ⊢
      replace HBd := Aside0.mk (below_step HBd.out hb11_)
      clear hw_ hg_
      refine hK.out _ _ ⟨(hb11_.cell (World.block_lt_of_cell? _ _ (hHeld.1))).trans (hHeld.1), (hb11_.cell (World.block_lt_of_cell? _ _ (hHeld.2.1))).trans (hHeld.2.1), (hb11_.cell (World.block_lt_of_cell? _ _ (hHeld.2.2.1))).trans (hHeld.2.2.1), (hb11_.cell (World.block_lt_of_cell? _ _ (hHeld.2.2.2.1))).trans (hHeld.2.2.2.1), (hb11_.cell (World.block_lt_of_cell? _ _ (hHeld.2.2.2.2.1))).trans (hHeld.2.2.2.2.1), (hb11_.cell (World.block_lt_of_cell? _ _ (hHeld.2.2.2.2.2.1))).trans (hHeld.2.2.2.2.2.1), (hb11_.cell (World.block_lt_of_cell? _ _ (hHeld.2.2.2.2.2.2))).trans (hHeld.2.2.2.2.2.2)⟩ (fun hHeld => ?_)
      clear hK K
      refine norm_ (a' := ?_) ?_ ?_; rotate_left; (show Act.put _ (some 9) _ = _; simp only [Act.put, put_x, i64_w, i32_w]; rfl)
      refine one_ (i := 12) (N := some 10) (bz 15 8191) rfl rfl (by kernel_rfl) (by decide) (fun K hK => ?_)
      refine value_ (w1 := ?_) (v := ?_) (by rfl) rfl ?_ ?_
      rotate_left 2
      ·
       go_simp
       constructor
       ·
        rfl
       ·
        rfl
      obtain ⟨g10, hg_⟩ : ∃ b, b = wq11.heap.size := ⟨_, rfl⟩
      have B10 := Aside0.mk (blk_new wq11 (.cells #[.int .i64 0, .int .i64 0] 56 (0, 0)))
      have hb12_ : Below wq11.heap.size wq11 (wq11.alloc (.cells #[.int .i64 0, .int .i64 0] 56 (0, 0))) := below_alloc (Below.refl _ _) _
      have hg10_ : wd.heap.size ≤ g10 := by rw [hg_]; exact HBd.out.size
      generalize hw_ : wq11.alloc (.cells #[.int .i64 0, .int .i64 0] 56 (0, 0)) = wq11_12 at *
      rw [← hg_] at B10 ⊢
      replace B9 := Aside0.mk (blk_below B9.out hb12_)
      replace HBd := Aside0.mk (below_step HBd.out hb12_)
      clear hw_ hg_
      refine hK.out _ _ ⟨(hb12_.cell (World.block_lt_of_cell? _ _ (hHeld.1))).trans (hHeld.1), (hb12_.cell (World.block_lt_of_cell? _ _ (hHeld.2.1))).trans (hHeld.2.1), (hb12_.cell (World.block_lt_of_cell? _ _ (hHeld.2.2.1))).trans (hHeld.2.2.1), (hb12_.cell (World.block_lt_of_cell? _ _ (hHeld.2.2.2.1))).trans (hHeld.2.2.2.1), (hb12_.cell (World.block_lt_of_cell? _ _ (hHeld.2.2.2.2.1))).trans (hHeld.2.2.2.2.1), (hb12_.cell (World.block_lt_of_cell? _ _ (hHeld.2.2.2.2.2.1))).trans (hHeld.2.2.2.2.2.1), (hb12_.cell (World.block_lt_of_cell? _ _ (hHeld.2.2.2.2.2.2))).trans (hHeld.2.2.2.2.2.2)⟩ (fun hHeld => ?_)
      clear hK K
      refine norm_ (a' := ?_) ?_ ?_; rotate_left; (show Act.put _ (some 10) _ = _; simp only [Act.put, put_x, i64_w, i32_w]; rfl)
      exact norm_ (by simp only [putAll, Act.put, put_x]) (hCont (g9, g10) _ ⟨hHeld, B9, B10, hg9_, hg10_, HBd⟩)
     ·
      skip
      have HBd := Aside0.mk (Below.refl wd.heap.size wd)
      refine value_ (w1 := ?_) (v := ?_) (by rfl) rfl ?_ ?_
      rotate_left 2
      ·
       go_simp
       constructor
       ·
        rfl
       ·
        rfl
      obtain ⟨g10, hg_⟩ : ∃ b, b = wd.heap.size := ⟨_, rfl⟩
      have B10 := Aside0.mk (blk_new wd (.cells #[.int .i64 0, .int .i64 0] 56 (0, 0)))
      have hb12_ : Below wd.heap.size wd (wd.alloc (.cells #[.int .i64 0, .int .i64 0] 56 (0, 0))) := below_alloc (Below.refl _ _) _
      have hg10_ : wd.heap.size ≤ g10 := by rw [hg_]; exact HBd.out.size
      generalize hw_ : wd.alloc (.cells #[.int .i64 0, .int .i64 0] 56 (0, 0)) = wq12 at *
      rw [← hg_] at B10 ⊢
      replace HBd := Aside0.mk (below_step HBd.out hb12_)
      clear hw_ hg_
      refine hK.out _ _ ⟨(hb12_.cell (World.block_lt_of_cell? _ _ (hHeld.1))).trans (hHeld.1), (hb12_.cell (World.block_lt_of_cell? _ _ (hHeld.2.1))).trans (hHeld.2.1), (hb12_.cell (World.block_lt_of_cell? _ _ (hHeld.2.2.1))).trans (hHeld.2.2.1), (hb12_.cell (World.block_lt_of_cell? _ _ (hHeld.2.2.2.1))).trans (hHeld.2.2.2.1), (hb12_.cell (World.block_lt_of_cell? _ _ (hHeld.2.2.2.2.1))).trans (hHeld.2.2.2.2.1), (hb12_.cell (World.block_lt_of_cell? _ _ (hHeld.2.2.2.2.2.1))).trans (hHeld.2.2.2.2.2.1), (hb12_.cell (World.block_lt_of_cell? _ _ (hHeld.2.2.2.2.2.2))).trans (hHeld.2.2.2.2.2.2)⟩ (fun hHeld => ?_)
      clear hK K
      refine norm_ (a' := ?_) ?_ ?_; rotate_left; (show Act.put _ (some 10) _ = _; simp only [Act.put, put_x, i64_w, i32_w]; rfl)
      refine one_ (i := 11) (N := some 9) (bz 15 8191) rfl rfl (by kernel_rfl) (by decide) (fun K hK => ?_)
      refine value_ (w1 := ?_) (v := ?_) (by rfl) rfl ?_ ?_
      rotate_left 2
      ·
       go_simp
       constructor
       ·
        rfl
       ·
        rfl
      obtain ⟨g9, hg_⟩ : ∃ b, b = wq12.heap.size := ⟨_, rfl⟩
      have B9 := Aside0.mk (blk_new wq12 (.cells #[.int .i64 0, .int .i64 0, .int .i64 0] 85 (0, 0)))
      have hb11_ : Below wq12.heap.size wq12 (wq12.alloc (.cells #[.int .i64 0, .int .i64 0, .int .i64 0] 85 (0, 0))) := below_alloc (Below.refl _ _) _
      have hg9_ : wd.heap.size ≤ g9 := by rw [hg_]; exact HBd.out.size
      generalize hw_ : wq12.alloc (.cells #[.int .i64 0, .int .i64 0, .int .i64 0] 85 (0, 0)) = wq12_11 at *
      rw [← hg_] at B9 ⊢
      replace B10 := Aside0.mk (blk_below B10.out hb11_)
      replace HBd := Aside0.mk (below_step HBd.out hb11_)
      clear hw_ hg_
      refine hK.out _ _ ⟨(hb11_.cell (World.block_lt_of_cell? _ _ (hHeld.1))).trans (hHeld.1), (hb11_.cell (World.block_lt_of_cell? _ _ (hHeld.2.1))).trans (hHeld.2.1), (hb11_.cell (World.block_lt_of_cell? _ _ (hHeld.2.2.1))).trans (hHeld.2.2.1), (hb11_.cell (World.block_lt_of_cell? _ _ (hHeld.2.2.2.1))).trans (hHeld.2.2.2.1), (hb11_.cell (World.block_lt_of_cell? _ _ (hHeld.2.2.2.2.1))).trans (hHeld.2.2.2.2.1), (hb11_.cell (World.block_lt_of_cell? _ _ (hHeld.2.2.2.2.2.1))).trans (hHeld.2.2.2.2.2.1), (hb11_.cell (World.block_lt_of_cell? _ _ (hHeld.2.2.2.2.2.2))).trans (hHeld.2.2.2.2.2.2)⟩ (fun hHeld => ?_)
      clear hK K
      refine norm_ (a' := ?_) ?_ ?_; rotate_left; (show Act.put _ (some 9) _ = _; simp only [Act.put, put_x, i64_w, i32_w]; rfl)
      exact norm_ (by simp only [putAll, Act.put, put_x]) (hCont (g9, g10) _ ⟨hHeld, B9, B10, hg9_, hg10_, HBd⟩)
    rintro ⟨g9, g10⟩ wj ⟨hHeld, B9, B10, hg9_, hg10_, HBd⟩
    refine norm_ (a' := ?_) ?_ ?_
    rotate_left
    ·
     simp only [putAll, Act.put, put_x]
     rfl
    refine one_ (i := 13) (N := none) (bz 15 16383) rfl rfl (by kernel_rfl) (by decide) (fun K hK => ?_)
    have hy0_ := (blk_cell B9.out 0).trans rfl
    have hy1_ := (blk_cell B9.out 1).trans rfl
    have hy2_ := (blk_cell B9.out 2).trans rfl
    have hf0_ := blk_frozen B9.out 0
    have hf1_ := blk_frozen B9.out 1
    have hf2_ := blk_frozen B9.out 2
    refine skip_ (w1 := ?_) (by rfl) rfl ?_ ?_; rotate_left; (go_simp; rfl)
    have hx_ := below_set (j := 2) (v := .int .i64 hd.f2) (below_set (j := 1) (v := .int .i64 hd.f1) (below_set (j := 0) (v := .int .i64 hd.f0) HBd.out hg9_) hg9_) hg9_
    refine hK.out _ _ ⟨(hx_.cell (World.block_lt_of_cell? _ _ (HS0.out.1))).trans (HS0.out.1), (hx_.cell (World.block_lt_of_cell? _ _ (HS0.out.2.1))).trans (HS0.out.2.1), (hx_.cell (World.block_lt_of_cell? _ _ (HS0.out.2.2.1))).trans (HS0.out.2.2.1), (hx_.cell (World.block_lt_of_cell? _ _ (HS0.out.2.2.2.1))).trans (HS0.out.2.2.2.1), (hx_.cell (World.block_lt_of_cell? _ _ (HS0.out.2.2.2.2.1))).trans (HS0.out.2.2.2.2.1), (hx_.cell (World.block_lt_of_cell? _ _ (HS0.out.2.2.2.2.2.1))).trans (HS0.out.2.2.2.2.2.1), (hx_.cell (World.block_lt_of_cell? _ _ (HS0.out.2.2.2.2.2.2))).trans (HS0.out.2.2.2.2.2.2)⟩ (fun hHeld => ?_)
    clear hK K
    refine last_ (i := 14) (N := none) (bz 15 32767) rfl rfl (by kernel_rfl) (by decide) (fun K hK => ?_)
    have hn_ : g10 ≠ g9 := blk_ne_ B10.out B9.out (by decide)
    have hy0_ := (blk_cell (blk_far (blk_far (blk_far B10.out (p := ⟨g9, 0, none⟩) hn_ (.int .i64 hd.f0)) (p := ⟨g9, 1, none⟩) hn_ (.int .i64 hd.f1)) (p := ⟨g9, 2, none⟩) hn_ (.int .i64 hd.f2)) 0).trans rfl
    have hy1_ := (blk_cell (blk_far (blk_far (blk_far B10.out (p := ⟨g9, 0, none⟩) hn_ (.int .i64 hd.f0)) (p := ⟨g9, 1, none⟩) hn_ (.int .i64 hd.f1)) (p := ⟨g9, 2, none⟩) hn_ (.int .i64 hd.f2)) 1).trans rfl
    have hf0_ := blk_frozen (blk_far (blk_far (blk_far B10.out (p := ⟨g9, 0, none⟩) hn_ (.int .i64 hd.f0)) (p := ⟨g9, 1, none⟩) hn_ (.int .i64 hd.f1)) (p := ⟨g9, 2, none⟩) hn_ (.int .i64 hd.f2)) 0
    have hf1_ := blk_frozen (blk_far (blk_far (blk_far B10.out (p := ⟨g9, 0, none⟩) hn_ (.int .i64 hd.f0)) (p := ⟨g9, 1, none⟩) hn_ (.int .i64 hd.f1)) (p := ⟨g9, 2, none⟩) hn_ (.int .i64 hd.f2)) 1
    refine skip_ (w1 := ?_) (by rfl) rfl ?_ ?_; rotate_left; (go_simp; rfl)
    refine hK.out _ _ ?_
    clear hK K
    refine done_ (by kernel_rfl) ?_
    clear hHeld hy0_ hy1_ hy2_ hf0_ hf1_ hf2_
    have C9 := Aside0.mk (blk_far (blk_far (blk_put (cs' := #[.int .i64 hd.f0, .int .i64 hd.f1, .int .i64 hd.f2]) (blk_set (blk_set B9.out 0 (.int .i64 hd.f0)) 1 (.int .i64 hd.f1)) 2 (.int .i64 hd.f2) rfl) (p := ⟨g10, 0, none⟩) hn_.symm (.int .i64 tn.f0)) (p := ⟨g10, 1, none⟩) hn_.symm (.int .i64 tn.f1))
    have C10 := Aside0.mk (blk_put (cs' := #[.int .i64 tn.f0, .int .i64 tn.f1]) (blk_set (blk_far (blk_far (blk_far B10.out (p := ⟨g9, 0, none⟩) hn_ (.int .i64 hd.f0)) (p := ⟨g9, 1, none⟩) hn_ (.int .i64 hd.f1)) (p := ⟨g9, 2, none⟩) hn_ (.int .i64 hd.f2)) 0 (.int .i64 tn.f0)) 1 (.int .i64 tn.f1) rfl)
    have HBx := Aside0.mk (show Below wd.heap.size wd (((((wj.setCell ⟨g9, 0, none⟩ (.int .i64 hd.f0)).setCell ⟨g9, 1, none⟩ (.int .i64 hd.f1)).setCell ⟨g9, 2, none⟩ (.int .i64 hd.f2)).setCell ⟨g10, 0, none⟩ (.int .i64 tn.f0)).setCell ⟨g10, 1, none⟩ (.int .i64 tn.f1)) from below_set (below_set (below_set (below_set (below_set HBd.out hg9_) hg9_) hg9_) hg10_) hg10_)
    generalize hW_ : ((((wj.setCell ⟨g9, 0, none⟩ (.int .i64 hd.f0)).setCell ⟨g9, 1, none⟩ (.int .i64 hd.f1)).setCell ⟨g9, 2, none⟩ (.int .i64 hd.f2)).setCell ⟨g10, 0, none⟩ (.int .i64 tn.f0)).setCell ⟨g10, 1, none⟩ (.int .i64 tn.f1) = w6 at *
    replace BK := Aside0.mk (blk_below BK.out HBx.out)
    replace B4 := Aside0.mk (blk_below B4.out HBx.out)
    replace B6 := Aside0.mk (blk_below B6.out HBx.out)
    replace HB := Aside0.mk (below_step HB.out HBx.out)
    clear hW_ hx_ hn_ hg9_ hg10_ HBd HBx HS0 B9 B10
    have hy1_ := (blk_cell C9.out 1).trans rfl
    have hy2_ := (blk_cell C9.out 2).trans rfl
    go_wp2
    clear hy1_ hy2_
    have hi0_ : ∀ w : World, (Instr.index 92 (.agg #[.int .i64 hd.f1, .int .i64 hd.f2]) (.int .i64 0)).run Try.prog w = .ok (.int .i64 hd.f1) w := fun _ => by kernel_rfl
    have hi1_ : ∀ w : World, (Instr.index 92 (.agg #[.int .i64 hd.f1, .int .i64 hd.f2]) (.int .i64 1)).run Try.prog w = .ok (.int .i64 hd.f2) w := fun _ => by kernel_rfl
    refine wp_loop_rounds 3 ?_
    rw [rounds_succ]
    go_upto_region 11 with (fail)
    have hb6_ := (blk_cell B6.out 7).trans rfl
    have ht6_ := (blk_cell C10.out 0).trans rfl
    have hd_ := below_drew1 (Below.refl w6.heap.size w6)
    replace BK := Aside0.mk (blk_drew BK.out)
    replace B4 := Aside0.mk (blk_drew B4.out)
    replace B6 := Aside0.mk (blk_drew B6.out)
    replace C9 := Aside0.mk (blk_drew C9.out)
    replace C10 := Aside0.mk (blk_drew C10.out)
    replace HB := Aside0.mk (below_step HB.out hd_)
    clear hd_
    refine start_ (n := 12) (S := fun w' => w'.cell? ⟨g6, 7, none⟩ = some (.int .i64 q.b0) ∧ w'.cell? ⟨g10, 0, none⟩ = some (.int .i64 tn.f0)) (ds := [11]) #[false, false, false, false, false, false, false, false, false, false, false, false] (by kernel_rfl) rfl rfl ⟨hb6_, ht6_⟩ (fun hHeld => ?_)
    generalize w6.drew = v1 at BK B4 B6 C9 C10 HB hHeld ⊢
    refine pure_y 0 (some 53) (bz 12 1) ?_
    refine pure_y 1 (some 54) (bz 12 3) ?_
    refine pure_y 2 (some 55) (bz 12 7) ?_
    refine pure_y 4 (some 57) (bz 12 23) ?_
    refine pure_y 6 (some 59) (bz 12 87) ?_
    refine pure_y 9 (some 62) (bz 12 599) ?_
    refine take_ (i := 3) (N := some 56) (v := ?_) (a' := ?_) (bz 12 607) rfl rfl (by kernel_rfl) (fun _ _ _ h => h) (Or.inl ⟨by rfl, ?_⟩) hHeld ?_ ?_
    rotate_left; (rintro w' ⟨s0, s1⟩; go_simp; with_reducible rfl); rotate_left; (simp only [Act.put, put_x, i64_w, i32_w]; rfl)
    refine take_ (i := 5) (N := some 58) (v := ?_) (a' := ?_) (bz 12 639) rfl rfl (by kernel_rfl) (fun _ _ _ h => h) (Or.inl ⟨by rfl, ?_⟩) hHeld ?_ ?_
    rotate_left; (rintro w' ⟨s0, s1⟩; go_simp; with_reducible rfl); rotate_left; (simp only [Act.put, put_x, i64_w, i32_w]; rfl)
    refine pure_y 7 (some 60) (bz 12 767) ?_
    refine pure_y 8 (some 61) (bz 12 1023) ?_
    refine pure_y 10 (some 63) (bz 12 2047) ?_
    refine last_ (i := 11) (N := none) (bz 12 4095) rfl rfl (by kernel_rfl) (by decide) (fun K hK => ?_)
    have hcl := hHeld.1
    have hfz := blk_frozen B6.out 7
    refine skip_ (w1 := ?_) (by rfl) rfl ?_ ?_; rotate_left; (go_simp; rfl)
    refine hK.out _ _ ?_
    clear hK K
    refine done_ (by kernel_rfl) ?_
    clear hHeld hcl hfz hb6_ ht6_
    have hx_ : Below w.heap.size w (v1.setCell ⟨g6, 7, none⟩ (.int .i64 (wrap64 (q.b0 + wrap64 (tn.f0 * hd.f1))))) := below_set HB.out HN6.out.2
    replace BK := Aside0.mk (blk_far BK.out (p := ⟨g6, 7, none⟩) (blk_ne_ BK.out B6.out (by decide)) (.int .i64 (wrap64 (q.b0 + wrap64 (tn.f0 * hd.f1)))))
    replace B4 := Aside0.mk (blk_far B4.out (p := ⟨g6, 7, none⟩) HN6.out.1 (.int .i64 (wrap64 (q.b0 + wrap64 (tn.f0 * hd.f1)))))
    replace C9 := Aside0.mk (blk_far C9.out (p := ⟨g6, 7, none⟩) (blk_ne_ C9.out B6.out (by decide)) (.int .i64 (wrap64 (q.b0 + wrap64 (tn.f0 * hd.f1)))))
    replace C10 := Aside0.mk (blk_far C10.out (p := ⟨g6, 7, none⟩) (blk_ne_ C10.out B6.out (by decide)) (.int .i64 (wrap64 (q.b0 + wrap64 (tn.f0 * hd.f1)))))
    replace B6 := Aside0.mk (blk_put (cs' := #[.int .i64 x.light, .int .i64 x.under, .int .i64 x.trim, .slice x.A3 x.holds.length x.c3, .int .i64 x.leaves, .slice x.A5 x.sills.length x.c5, .slice x.A6 x.lots.length x.c6, .int .i64 (wrap64 (q.b0 + wrap64 (tn.f0 * hd.f1))), .int .i64 q.b1, .int .i64 q.h0, .int .i64 q.h1]) B6.out 7 (.int .i64 (wrap64 (q.b0 + wrap64 (tn.f0 * hd.f1)))) rfl)
    replace HB := Aside0.mk hx_
    clear hx_
    generalize hW_ : v1.setCell ⟨g6, 7, none⟩ (.int .i64 (wrap64 (q.b0 + wrap64 (tn.f0 * hd.f1)))) = u1_ at *
    clear hW_
    go_upto_region 12 with (fail)
    have hb6_ := (blk_cell B6.out 9).trans rfl
    have ht6_ := (blk_cell C10.out 1).trans rfl
    have hd_ := below_drew1 (Below.refl u1_.heap.size u1_)
    replace BK := Aside0.mk (blk_drew BK.out)
    replace B4 := Aside0.mk (blk_drew B4.out)
    replace B6 := Aside0.mk (blk_drew B6.out)
    replace C9 := Aside0.mk (blk_drew C9.out)
    replace C10 := Aside0.mk (blk_drew C10.out)
    replace HB := Aside0.mk (below_step HB.out hd_)
    clear hd_
    refine start_ (n := 12) (S := fun w' => w'.cell? ⟨g6, 9, none⟩ = some (.int .i64 q.h0) ∧ w'.cell? ⟨g10, 1, none⟩ = some (.int .i64 tn.f1)) (ds := [11]) #[false, false, false, false, false, false, false, false, false, false, false, false] (by kernel_rfl) rfl rfl ⟨hb6_, ht6_⟩ (fun hHeld => ?_)
    generalize u1_.drew = v2 at BK B4 B6 C9 C10 HB hHeld ⊢
    refine pure_y 0 (some 64) (bz 12 1) ?_
    refine pure_y 1 (some 65) (bz 12 3) ?_
    refine pure_y 2 (some 66) (bz 12 7) ?_
    refine pure_y 4 (some 68) (bz 12 23) ?_
    refine pure_y 6 (some 70) (bz 12 87) ?_
    refine pure_y 9 (some 73) (bz 12 599) ?_
    refine take_ (i := 3) (N := some 67) (v := ?_) (a' := ?_) (bz 12 607) rfl rfl (by kernel_rfl) (fun _ _ _ h => h) (Or.inl ⟨by rfl, ?_⟩) hHeld ?_ ?_
    rotate_left; (rintro w' ⟨s0, s1⟩; go_simp; with_reducible rfl); rotate_left; (simp only [Act.put, put_x, i64_w, i32_w]; rfl)
    refine take_ (i := 5) (N := some 69) (v := ?_) (a' := ?_) (bz 12 639) rfl rfl (by kernel_rfl) (fun _ _ _ h => h) (Or.inl ⟨by rfl, ?_⟩) hHeld ?_ ?_
    rotate_left; (rintro w' ⟨s0, s1⟩; go_simp; with_reducible rfl); rotate_left; (simp only [Act.put, put_x, i64_w, i32_w]; rfl)
    refine pure_y 7 (some 71) (bz 12 767) ?_
    refine pure_y 8 (some 72) (bz 12 1023) ?_
    refine pure_y 10 (some 74) (bz 12 2047) ?_
    refine last_ (i := 11) (N := none) (bz 12 4095) rfl rfl (by kernel_rfl) (by decide) (fun K hK => ?_)
    have hcl := hHeld.1
    have hfz := blk_frozen B6.out 9
    refine skip_ (w1 := ?_) (by rfl) rfl ?_ ?_; rotate_left; (go_simp; rfl)
    refine hK.out _ _ ?_
    clear hK K
    refine done_ (by kernel_rfl) ?_
    clear hHeld hcl hfz hb6_ ht6_
    have hx_ : Below w.heap.size w (v2.setCell ⟨g6, 9, none⟩ (.int .i64 (wrap64 (q.h0 + wrap64 (tn.f1 * hd.f1))))) := below_set HB.out HN6.out.2
    replace BK := Aside0.mk (blk_far BK.out (p := ⟨g6, 9, none⟩) (blk_ne_ BK.out B6.out (by decide)) (.int .i64 (wrap64 (q.h0 + wrap64 (tn.f1 * hd.f1)))))
    replace B4 := Aside0.mk (blk_far B4.out (p := ⟨g6, 9, none⟩) HN6.out.1 (.int .i64 (wrap64 (q.h0 + wrap64 (tn.f1 * hd.f1)))))
    replace C9 := Aside0.mk (blk_far C9.out (p := ⟨g6, 9, none⟩) (blk_ne_ C9.out B6.out (by decide)) (.int .i64 (wrap64 (q.h0 + wrap64 (tn.f1 * hd.f1)))))
    replace C10 := Aside0.mk (blk_far C10.out (p := ⟨g6, 9, none⟩) (blk_ne_ C10.out B6.out (by decide)) (.int .i64 (wrap64 (q.h0 + wrap64 (tn.f1 * hd.f1)))))
    replace B6 := Aside0.mk (blk_put (cs' := #[.int .i64 x.light, .int .i64 x.under, .int .i64 x.trim, .slice x.A3 x.holds.length x.c3, .int .i64 x.leaves, .slice x.A5 x.sills.length x.c5, .slice x.A6 x.lots.length x.c6, .int .i64 (wrap64 (q.b0 + wrap64 (tn.f0 * hd.f1))), .int .i64 q.b1, .int .i64 (wrap64 (q.h0 + wrap64 (tn.f1 * hd.f1))), .int .i64 q.h1]) B6.out 9 (.int .i64 (wrap64 (q.h0 + wrap64 (tn.f1 * hd.f1)))) rfl)
    replace HB := Aside0.mk hx_
    clear hx_
    generalize hW_ : v2.setCell ⟨g6, 9, none⟩ (.int .i64 (wrap64 (q.h0 + wrap64 (tn.f1 * hd.f1)))) = u2_ at *
    clear hW_
    go_wp2
    rw [rounds_succ]
    go_upto_region 11 with (fail)
    have hb6_ := (blk_cell B6.out 8).trans rfl
    have ht6_ := (blk_cell C10.out 0).trans rfl
    have hd_ := below_drew1 (Below.refl u2_.heap.size u2_)
    replace BK := Aside0.mk (blk_drew BK.out)
    replace B4 := Aside0.mk (blk_drew B4.out)
    replace B6 := Aside0.mk (blk_drew B6.out)
    replace C9 := Aside0.mk (blk_drew C9.out)
    replace C10 := Aside0.mk (blk_drew C10.out)
    replace HB := Aside0.mk (below_step HB.out hd_)
    clear hd_
    refine start_ (n := 12) (S := fun w' => w'.cell? ⟨g6, 8, none⟩ = some (.int .i64 q.b1) ∧ w'.cell? ⟨g10, 0, none⟩ = some (.int .i64 tn.f0)) (ds := [11]) #[false, false, false, false, false, false, false, false, false, false, false, false] (by kernel_rfl) rfl rfl ⟨hb6_, ht6_⟩ (fun hHeld => ?_)
    generalize u2_.drew = v3 at BK B4 B6 C9 C10 HB hHeld ⊢
    refine pure_y 0 (some 53) (bz 12 1) ?_
    refine pure_y 1 (some 54) (bz 12 3) ?_
    refine pure_y 2 (some 55) (bz 12 7) ?_
    refine pure_y 4 (some 57) (bz 12 23) ?_
    refine pure_y 6 (some 59) (bz 12 87) ?_
    refine pure_y 9 (some 62) (bz 12 599) ?_
    refine take_ (i := 3) (N := some 56) (v := ?_) (a' := ?_) (bz 12 607) rfl rfl (by kernel_rfl) (fun _ _ _ h => h) (Or.inl ⟨by rfl, ?_⟩) hHeld ?_ ?_
    rotate_left; (rintro w' ⟨s0, s1⟩; go_simp; with_reducible rfl); rotate_left; (simp only [Act.put, put_x, i64_w, i32_w]; rfl)
    refine take_ (i := 5) (N := some 58) (v := ?_) (a' := ?_) (bz 12 639) rfl rfl (by kernel_rfl) (fun _ _ _ h => h) (Or.inl ⟨by rfl, ?_⟩) hHeld ?_ ?_
    rotate_left; (rintro w' ⟨s0, s1⟩; go_simp; with_reducible rfl); rotate_left; (simp only [Act.put, put_x, i64_w, i32_w]; rfl)
    refine pure_y 7 (some 60) (bz 12 767) ?_
    refine pure_y 8 (some 61) (bz 12 1023) ?_
    refine pure_y 10 (some 63) (bz 12 2047) ?_
    refine last_ (i := 11) (N := none) (bz 12 4095) rfl rfl (by kernel_rfl) (by decide) (fun K hK => ?_)
    have hcl := hHeld.1
    have hfz := blk_frozen B6.out 8
    refine skip_ (w1 := ?_) (by rfl) rfl ?_ ?_; rotate_left; (go_simp; rfl)
    refine hK.out _ _ ?_
    clear hK K
    refine done_ (by kernel_rfl) ?_
    clear hHeld hcl hfz hb6_ ht6_
    have hx_ : Below w.heap.size w (v3.setCell ⟨g6, 8, none⟩ (.int .i64 (wrap64 (q.b1 + wrap64 (tn.f0 * hd.f2))))) := below_set HB.out HN6.out.2
    replace BK := Aside0.mk (blk_far BK.out (p := ⟨g6, 8, none⟩) (blk_ne_ BK.out B6.out (by decide)) (.int .i64 (wrap64 (q.b1 + wrap64 (tn.f0 * hd.f2)))))
    replace B4 := Aside0.mk (blk_far B4.out (p := ⟨g6, 8, none⟩) HN6.out.1 (.int .i64 (wrap64 (q.b1 + wrap64 (tn.f0 * hd.f2)))))
    replace C9 := Aside0.mk (blk_far C9.out (p := ⟨g6, 8, none⟩) (blk_ne_ C9.out B6.out (by decide)) (.int .i64 (wrap64 (q.b1 + wrap64 (tn.f0 * hd.f2)))))
    replace C10 := Aside0.mk (blk_far C10.out (p := ⟨g6, 8, none⟩) (blk_ne_ C10.out B6.out (by decide)) (.int .i64 (wrap64 (q.b1 + wrap64 (tn.f0 * hd.f2)))))
    replace B6 := Aside0.mk (blk_put (cs' := #[.int .i64 x.light, .int .i64 x.under, .int .i64 x.trim, .slice x.A3 x.holds.length x.c3, .int .i64 x.leaves, .slice x.A5 x.sills.length x.c5, .slice x.A6 x.lots.length x.c6, .int .i64 (wrap64 (q.b0 + wrap64 (tn.f0 * hd.f1))), .int .i64 (wrap64 (q.b1 + wrap64 (tn.f0 * hd.f2))), .int .i64 (wrap64 (q.h0 + wrap64 (tn.f1 * hd.f1))), .int .i64 q.h1]) B6.out 8 (.int .i64 (wrap64 (q.b1 + wrap64 (tn.f0 * hd.f2)))) rfl)
    replace HB := Aside0.mk hx_
    clear hx_
    generalize hW_ : v3.setCell ⟨g6, 8, none⟩ (.int .i64 (wrap64 (q.b1 + wrap64 (tn.f0 * hd.f2)))) = u3_ at *
    clear hW_
    go_upto_region 12 with (fail)
    have hb6_ := (blk_cell B6.out 10).trans rfl
    have ht6_ := (blk_cell C10.out 1).trans rfl
    have hd_ := below_drew1 (Below.refl u3_.heap.size u3_)
    replace BK := Aside0.mk (blk_drew BK.out)
    replace B4 := Aside0.mk (blk_drew B4.out)
    replace B6 := Aside0.mk (blk_drew B6.out)
    replace C9 := Aside0.mk (blk_drew C9.out)
    replace C10 := Aside0.mk (blk_drew C10.out)
    replace HB := Aside0.mk (below_step HB.out hd_)
    clear hd_
    refine start_ (n := 12) (S := fun w' => w'.cell? ⟨g6, 10, none⟩ = some (.int .i64 q.h1) ∧ w'.cell? ⟨g10, 1, none⟩ = some (.int .i64 tn.f1)) (ds := [11]) #[false, false, false, false, false, false, false, false, false, false, false, false] (by kernel_rfl) rfl rfl ⟨hb6_, ht6_⟩ (fun hHeld => ?_)
    generalize u3_.drew = v4 at BK B4 B6 C9 C10 HB hHeld ⊢
    refine pure_y 0 (some 64) (bz 12 1) ?_
    refine pure_y 1 (some 65) (bz 12 3) ?_
    refine pure_y 2 (some 66) (bz 12 7) ?_
    refine pure_y 4 (some 68) (bz 12 23) ?_
    refine pure_y 6 (some 70) (bz 12 87) ?_
    refine pure_y 9 (some 73) (bz 12 599) ?_
    refine take_ (i := 3) (N := some 67) (v := ?_) (a' := ?_) (bz 12 607) rfl rfl (by kernel_rfl) (fun _ _ _ h => h) (Or.inl ⟨by rfl, ?_⟩) hHeld ?_ ?_
    rotate_left; (rintro w' ⟨s0, s1⟩; go_simp; with_reducible rfl); rotate_left; (simp only [Act.put, put_x, i64_w, i32_w]; rfl)
    refine take_ (i := 5) (N := some 69) (v := ?_) (a' := ?_) (bz 12 639) rfl rfl (by kernel_rfl) (fun _ _ _ h => h) (Or.inl ⟨by rfl, ?_⟩) hHeld ?_ ?_
    rotate_left; (rintro w' ⟨s0, s1⟩; go_simp; with_reducible rfl); rotate_left; (simp only [Act.put, put_x, i64_w, i32_w]; rfl)
    refine pure_y 7 (some 71) (bz 12 767) ?_
    refine pure_y 8 (some 72) (bz 12 1023) ?_
    refine pure_y 10 (some 74) (bz 12 2047) ?_
    refine last_ (i := 11) (N := none) (bz 12 4095) rfl rfl (by kernel_rfl) (by decide) (fun K hK => ?_)
    have hcl := hHeld.1
    have hfz := blk_frozen B6.out 10
    refine skip_ (w1 := ?_) (by rfl) rfl ?_ ?_; rotate_left; (go_simp; rfl)
    refine hK.out _ _ ?_
    clear hK K
    refine done_ (by kernel_rfl) ?_
    clear hHeld hcl hfz hb6_ ht6_
    have hx_ : Below w.heap.size w (v4.setCell ⟨g6, 10, none⟩ (.int .i64 (wrap64 (q.h1 + wrap64 (tn.f1 * hd.f2))))) := below_set HB.out HN6.out.2
    replace BK := Aside0.mk (blk_far BK.out (p := ⟨g6, 10, none⟩) (blk_ne_ BK.out B6.out (by decide)) (.int .i64 (wrap64 (q.h1 + wrap64 (tn.f1 * hd.f2)))))
    replace B4 := Aside0.mk (blk_far B4.out (p := ⟨g6, 10, none⟩) HN6.out.1 (.int .i64 (wrap64 (q.h1 + wrap64 (tn.f1 * hd.f2)))))
    replace C9 := Aside0.mk (blk_far C9.out (p := ⟨g6, 10, none⟩) (blk_ne_ C9.out B6.out (by decide)) (.int .i64 (wrap64 (q.h1 + wrap64 (tn.f1 * hd.f2)))))
    replace C10 := Aside0.mk (blk_far C10.out (p := ⟨g6, 10, none⟩) (blk_ne_ C10.out B6.out (by decide)) (.int .i64 (wrap64 (q.h1 + wrap64 (tn.f1 * hd.f2)))))
    replace B6 := Aside0.mk (blk_put (cs' := #[.int .i64 x.light, .int .i64 x.under, .int .i64 x.trim, .slice x.A3 x.holds.length x.c3, .int .i64 x.leaves, .slice x.A5 x.sills.length x.c5, .slice x.A6 x.lots.length x.c6, .int .i64 (wrap64 (q.b0 + wrap64 (tn.f0 * hd.f1))), .int .i64 (wrap64 (q.b1 + wrap64 (tn.f0 * hd.f2))), .int .i64 (wrap64 (q.h0 + wrap64 (tn.f1 * hd.f1))), .int .i64 (wrap64 (q.h1 + wrap64 (tn.f1 * hd.f2)))]) B6.out 10 (.int .i64 (wrap64 (q.h1 + wrap64 (tn.f1 * hd.f2)))) rfl)
    replace HB := Aside0.mk hx_
    clear hx_
    generalize hW_ : v4.setCell ⟨g6, 10, none⟩ (.int .i64 (wrap64 (q.h1 + wrap64 (tn.f1 * hd.f2)))) = u4_ at *
    clear hW_
    go_wp2
    rw [rounds_succ]
    go_wp2
    go_roundg (l1.length - (k + 1))
    case measure => omega
    case rel => exact ⟨k + 1, ladS hd tn q, by omega, by omega, by go_num, HF2, BK, B4, B6, HB⟩
  ·
   have : k = l1.length := by omega
   subst this
   have hq := HF.out
   rw [List.drop_length] at hq
   have hq2 : q = Q := Option.some.inj hq
   subst hq2
   have hy0_ := (blk_cell B6.out 0).trans rfl
   have hy1_ := (blk_cell B6.out 1).trans rfl
   have hy2_ := (blk_cell B6.out 2).trans rfl
   have hy3_ := (blk_cell B6.out 3).trans rfl
   have hy4_ := (blk_cell B6.out 4).trans rfl
   have hy5_ := (blk_cell B6.out 5).trans rfl
   have hy6_ := (blk_cell B6.out 6).trans rfl
   have hy7_ := (blk_cell B6.out 7).trans rfl
   have hy8_ := (blk_cell B6.out 8).trans rfl
   have hy9_ := (blk_cell B6.out 9).trans rfl
   have hy10_ := (blk_cell B6.out 10).trans rfl
   have hr0_ := (blk_cell B4.out 0).trans rfl
   have hr1_ := (blk_cell B4.out 1).trans rfl
   have hr2_ := (blk_cell B4.out 2).trans rfl
   have hr3_ := (blk_cell B4.out 3).trans rfl
   have hr4_ := (blk_cell B4.out 4).trans rfl
   have hr5_ := (blk_cell B4.out 5).trans rfl
   have hr6_ := (blk_cell B4.out 6).trans rfl
   have hr7_ := (blk_cell B4.out 7).trans rfl
   have hr8_ := (blk_cell B4.out 8).trans rfl
   have hr9_ := (blk_cell B4.out 9).trans rfl
   have hr10_ := (blk_cell B4.out 10).trans rfl
   have hf4_ := blk_frozen B4.out
   go_wp2
   have BR := B4
   replace BR := Aside0.mk (blk_put (cs' := #[.int .i64 x.light, .int .i64 0, .int .i64 0, .slice none 0 0, .int .i64 0, .slice none 0 0, .slice none 0 0, .int .i64 0, .int .i64 0, .int .i64 0, .int .i64 0]) BR.out 0 (.int .i64 x.light) rfl)
   replace BR := Aside0.mk (blk_put (cs' := #[.int .i64 x.light, .int .i64 x.under, .int .i64 0, .slice none 0 0, .int .i64 0, .slice none 0 0, .slice none 0 0, .int .i64 0, .int .i64 0, .int .i64 0, .int .i64 0]) BR.out 1 (.int .i64 x.under) rfl)
   replace BR := Aside0.mk (blk_put (cs' := #[.int .i64 x.light, .int .i64 x.under, .int .i64 x.trim, .slice none 0 0, .int .i64 0, .slice none 0 0, .slice none 0 0, .int .i64 0, .int .i64 0, .int .i64 0, .int .i64 0]) BR.out 2 (.int .i64 x.trim) rfl)
   replace BR := Aside0.mk (blk_put (cs' := #[.int .i64 x.light, .int .i64 x.under, .int .i64 x.trim, .slice x.A3 x.holds.length x.c3, .int .i64 0, .slice none 0 0, .slice none 0 0, .int .i64 0, .int .i64 0, .int .i64 0, .int .i64 0]) BR.out 3 (.slice x.A3 x.holds.length x.c3) rfl)
   replace BR := Aside0.mk (blk_put (cs' := #[.int .i64 x.light, .int .i64 x.under, .int .i64 x.trim, .slice x.A3 x.holds.length x.c3, .int .i64 x.leaves, .slice none 0 0, .slice none 0 0, .int .i64 0, .int .i64 0, .int .i64 0, .int .i64 0]) BR.out 4 (.int .i64 x.leaves) rfl)
   replace BR := Aside0.mk (blk_put (cs' := #[.int .i64 x.light, .int .i64 x.under, .int .i64 x.trim, .slice x.A3 x.holds.length x.c3, .int .i64 x.leaves, .slice x.A5 x.sills.length x.c5, .slice none 0 0, .int .i64 0, .int .i64 0, .int .i64 0, .int .i64 0]) BR.out 5 (.slice x.A5 x.sills.length x.c5) rfl)
   replace BR := Aside0.mk (blk_put (cs' := #[.int .i64 x.light, .int .i64 x.under, .int .i64 x.trim, .slice x.A3 x.holds.length x.c3, .int .i64 x.leaves, .slice x.A5 x.sills.length x.c5, .slice x.A6 x.lots.length x.c6, .int .i64 0, .int .i64 0, .int .i64 0, .int .i64 0]) BR.out 6 (.slice x.A6 x.lots.length x.c6) rfl)
   replace BR := Aside0.mk (blk_put (cs' := #[.int .i64 x.light, .int .i64 x.under, .int .i64 x.trim, .slice x.A3 x.holds.length x.c3, .int .i64 x.leaves, .slice x.A5 x.sills.length x.c5, .slice x.A6 x.lots.length x.c6, .int .i64 q.b0, .int .i64 0, .int .i64 0, .int .i64 0]) BR.out 7 (.int .i64 q.b0) rfl)
   replace BR := Aside0.mk (blk_put (cs' := #[.int .i64 x.light, .int .i64 x.under, .int .i64 x.trim, .slice x.A3 x.holds.length x.c3, .int .i64 x.leaves, .slice x.A5 x.sills.length x.c5, .slice x.A6 x.lots.length x.c6, .int .i64 q.b0, .int .i64 q.b1, .int .i64 0, .int .i64 0]) BR.out 8 (.int .i64 q.b1) rfl)
   replace BR := Aside0.mk (blk_put (cs' := #[.int .i64 x.light, .int .i64 x.under, .int .i64 x.trim, .slice x.A3 x.holds.length x.c3, .int .i64 x.leaves, .slice x.A5 x.sills.length x.c5, .slice x.A6 x.lots.length x.c6, .int .i64 q.b0, .int .i64 q.b1, .int .i64 q.h0, .int .i64 0]) BR.out 9 (.int .i64 q.h0) rfl)
   replace BR := Aside0.mk (blk_put (cs' := #[.int .i64 x.light, .int .i64 x.under, .int .i64 x.trim, .slice x.A3 x.holds.length x.c3, .int .i64 x.leaves, .slice x.A5 x.sills.length x.c5, .slice x.A6 x.lots.length x.c6, .int .i64 q.b0, .int .i64 q.b1, .int .i64 q.h0, .int .i64 q.h1]) BR.out 10 (.int .i64 q.h1) rfl)
   have HBe := Aside0.mk (show Below w.heap.size w (((((((((((wr.setCell ⟨g4, 0, none⟩ (.int .i64 x.light)).setCell ⟨g4, 1, none⟩ (.int .i64 x.under)).setCell ⟨g4, 2, none⟩ (.int .i64 x.trim)).setCell ⟨g4, 3, none⟩ (.slice x.A3 x.holds.length x.c3)).setCell ⟨g4, 4, none⟩ (.int .i64 x.leaves)).setCell ⟨g4, 5, none⟩ (.slice x.A5 x.sills.length x.c5)).setCell ⟨g4, 6, none⟩ (.slice x.A6 x.lots.length x.c6)).setCell ⟨g4, 7, none⟩ (.int .i64 q.b0)).setCell ⟨g4, 8, none⟩ (.int .i64 q.b1)).setCell ⟨g4, 9, none⟩ (.int .i64 q.h0)).setCell ⟨g4, 10, none⟩ (.int .i64 q.h1)) from below_set (below_set (below_set (below_set (below_set (below_set (below_set (below_set (below_set (below_set (below_set (HB.out) HN4.out) HN4.out) HN4.out) HN4.out) HN4.out) HN4.out) HN4.out) HN4.out) HN4.out) HN4.out) HN4.out)
   generalize hW_ : ((((((((((wr.setCell ⟨g4, 0, none⟩ (.int .i64 x.light)).setCell ⟨g4, 1, none⟩ (.int .i64 x.under)).setCell ⟨g4, 2, none⟩ (.int .i64 x.trim)).setCell ⟨g4, 3, none⟩ (.slice x.A3 x.holds.length x.c3)).setCell ⟨g4, 4, none⟩ (.int .i64 x.leaves)).setCell ⟨g4, 5, none⟩ (.slice x.A5 x.sills.length x.c5)).setCell ⟨g4, 6, none⟩ (.slice x.A6 x.lots.length x.c6)).setCell ⟨g4, 7, none⟩ (.int .i64 q.b0)).setCell ⟨g4, 8, none⟩ (.int .i64 q.b1)).setCell ⟨g4, 9, none⟩ (.int .i64 q.h0)).setCell ⟨g4, 10, none⟩ (.int .i64 q.h1) = we at *
   clear hW_ hf4_ hy0_ hy1_ hy2_ hy3_ hy4_ hy5_ hy6_ hy7_ hy8_ hy9_ hy10_ hr0_ hr1_ hr2_ hr3_ hr4_ hr5_ hr6_ hr7_ hr8_ hr9_ hr10_
   have hr0_ := (blk_cell BR.out 0).trans rfl
   have hr1_ := (blk_cell BR.out 1).trans rfl
   have hr2_ := (blk_cell BR.out 2).trans rfl
   have hr3_ := (blk_cell BR.out 3).trans rfl
   have hr4_ := (blk_cell BR.out 4).trans rfl
   have hr5_ := (blk_cell BR.out 5).trans rfl
   have hr6_ := (blk_cell BR.out 6).trans rfl
   have hr7_ := (blk_cell BR.out 7).trans rfl
   have hr8_ := (blk_cell BR.out 8).trans rfl
   have hr9_ := (blk_cell BR.out 9).trans rfl
   have hr10_ := (blk_cell BR.out 10).trans rfl
   exact bodyPost_ret (v := .agg #[.int .i64 x.light, .int .i64 x.under, .int .i64 x.trim, .slice x.A3 x.holds.length x.c3, .int .i64 x.leaves, .slice x.A5 x.sills.length x.c5, .slice x.A6 x.lots.length x.c6, .int .i64 q.b0, .int .i64 q.b1, .int .i64 q.h0, .int .i64 q.h1]) (by simp [results, Try.results55, go_sem, hr0_, hr1_, hr2_, hr3_, hr4_, hr5_, hr6_, hr7_, hr8_, hr9_, hr10_]) rfl ⟨rfl, HBe.out⟩
set_option maxHeartbeats 8000000 in
set_option maxRecDepth 100000 in
theorem water_calls (t0 t1 : Int) (A : Option Addr) (c : Nat) (l : List S62) (b : Bool) (i : Nat) (w : World) (hr : Kd.C k62 w A l.length l) (hc : l.length ≤ c) (hi : i < l.length) (hl : l.length ≤ 140737488351232) :
  Calls Try.prog 80 #[.agg #[.int .i64 t0, .int .i64 t1, .slice A l.length c, .bool b], .int .i64 (i : Int)] w fun e w' => e = .returned (.int .i64 (waterOf b (rd_T62 l (i : Int)))) ∧ Below w.heap.size w w' := by
 have hu123 := Try.underlying123
 have hu59 := Try.underlying59
 have hu62 := Try.underlying62
 have hu56 := Try.underlying56
 obtain ⟨ad, e, h0, h1, h2⟩ := at_T62 hr (i : Int) (by omega) (by omega)
 cases e
 rw [Int.toNat_natCast] at h0 h1 h2
 have hiz : (i : Int) < (l.length : Int) := by omega
 clear h0 hr
 generalize rd_T62 l (i : Int) = y at *
 have H1 := Aside0.mk h1
 have H2 := Aside0.mk h2
 clear h1 h2
 go_enter Try.func80, Try.ntmps80
 go_upto_region 2 with (first | ((with_reducible refine gate_dst (N := 2) rfl ?_); refine box_event ?hg (N := 2) ?hd (cs := #[.int .i64 t0, .int .i64 t1, .slice (some ad) l.length c, .bool b]) (t := 123) ?hr ?_; (case hd => rfl); (case hg => rfl); (case hr => first | (go_simp; done) | (go_simp; rfl)); intro gb hg w2 hbox hb2; have BK := Aside0.mk hbox; have HB := Aside0.mk hb2; clear hg hbox hb2; have hz0_ := (blk_cell BK.out 0).trans rfl; have hz1_ := (blk_cell BK.out 1).trans rfl; have hz2_ := (blk_cell BK.out 2).trans rfl; have hz3_ := (blk_cell BK.out 3).trans rfl; have h1 := (HB.out.cell (World.block_lt_of_cell? w _ H1.out)).trans H1.out; have h2 := (HB.out.cell (World.block_lt_of_cell? w _ H2.out)).trans H2.out))
 clear hz0_ hz1_ hz2_ hz3_ h1 h2
 obtain ⟨g5, hg_⟩ : ∃ b, b = w2.heap.size := ⟨_, rfl⟩
 have Ng5 := Aside0.mk (blk_new w2 (.cells #[.int .i64 y.f1.f0, .int .i64 y.f1.f1] 56 (0, 0)))
 have hbw : Below w2.heap.size w2 (w2.alloc (.cells #[.int .i64 y.f1.f0, .int .i64 y.f1.f1] 56 (0, 0))) := below_alloc (Below.refl _ _) _
 have hgs_ : w.heap.size ≤ g5 := by rw [hg_]; exact HB.out.size
 generalize hw_ : w2.alloc (.cells #[.int .i64 y.f1.f0, .int .i64 y.f1.f1] 56 (0, 0)) = w3 at *
 rw [← hg_] at Ng5 ⊢
 replace BK := Aside0.mk (blk_below BK.out hbw)
 replace HB := Aside0.mk (below_step HB.out hbw)
 have GEg5 : Aside0 (w.heap.size ≤ g5) := ⟨hgs_⟩
 clear hbw hw_ hg_ hgs_
 have hz0_ := (blk_cell BK.out 0).trans rfl
 have hz1_ := (blk_cell BK.out 1).trans rfl
 have hz2_ := (blk_cell BK.out 2).trans rfl
 have hz3_ := (blk_cell BK.out 3).trans rfl
 have hy0_ := (blk_cell Ng5.out 0).trans rfl
 have hy1_ := (blk_cell Ng5.out 1).trans rfl
 cases b
 ·
  go_wp2
  go_ret
  exact ⟨rfl, HB.out⟩
 ·
  go_wp2
  go_ret
  exact ⟨rfl, HB.out⟩
end Go.Proofs.Ytodmemndaaiolaa.PC7
namespace Go.Proofs.Ytodmemndaaiolaa.PC7
open Go.RowKit Go.Proofs.YtodmemndaaiolaaW.PrintWords Go.Proofs.YtodmemndaaiolaaW.PrintLast Go.Proofs.YtodmemndaaiolaaW.PrintMore
attribute [local go_sem] max2_int min2_int max_two min_two max_three min_three max_four min_four
set_option linter.unusedVariables false
set_option linter.unusedSimpArgs false
def ship_greatest.l0 : Nat → Int → List Int → Int → Int → Option (Int)
 | 0, _, _, _, _ => none
 | k + 1, x0, x7, x8, x9 => if x9 < x8 then (if 0 ≤ x9 then (if x9 < (x7.length : Int) then (ship_greatest.l0 k (mx x0 (rd x7 x9)) x7 x8 (wrap64 (x9 + 1))) else (none)) else (none)) else (some x0)
def ship_greatest.f (k : Nat) (a0 : Int) (l1 : List Int) : Option (Int) := ship_greatest.l0 k a0 l1 (l1.length : Int) 0
theorem ship_greatest.mono_l : ∀ k, (∀ y0 y1 y2 y3, LeO (ship_greatest.l0 k y0 y1 y2 y3) (ship_greatest.l0 (k + 1) y0 y1 y2 y3))
 | 0 => fun _ _ _ _ r h => by simp [ship_greatest.l0] at h
 | k + 1 => by
  have ih0 := ship_greatest.mono_l k
  ·
   intro y0 y1 y2 y3
   unfold ship_greatest.l0
   repeat' first
   | (with_reducible exact ih0 _ _ _ _)
   | (with_reducible exact LeO.refl _)
   | (with_reducible exact LeO.none _)
   | (with_reducible refine LeO.ite ?_ ?_)
   | (with_reducible refine LeO.bind ?_ (fun _ => ?_))
   | exact ih0 _ _ _ _
   | exact LeO.none _
   | refine LeO.ite ?_ ?_
   | refine LeO.bind ?_ (fun _ => ?_)
theorem ship_greatest.mono : ∀ a0 a1 k, LeO (ship_greatest.f k a0 a1) (ship_greatest.f (k + 1) a0 a1) := by
 intro a0 a1 k
 have ih0 := ship_greatest.mono_l k
 unfold ship_greatest.f
 repeat' first
   | (with_reducible exact ih0 _ _ _ _)
   | (with_reducible exact LeO.refl _)
   | (with_reducible exact LeO.none _)
   | (with_reducible refine LeO.ite ?_ ?_)
   | (with_reducible refine LeO.bind ?_ (fun _ => ?_))
   | exact ih0 _ _ _ _
   | exact LeO.none _
   | refine LeO.ite ?_ ?_
   | refine LeO.bind ?_ (fun _ => ?_)
set_option maxHeartbeats 8000000 in
set_option maxRecDepth 100000 in
theorem ship_greatest.calls (k : Nat) (a0 : Int) (A1 : Option Addr) (c1 : Nat) (l1 : List Int) (r : Int) (w : World) (hr1 : Kd.C (Kd.int .i64) w A1 l1.length l1) (hc1 : l1.length ≤ c1) (h : ship_greatest.f k a0 l1 = some r) :
  Calls Try.prog 79 #[.int .i64 a0, .slice A1 l1.length c1] w fun e w' => e = .returned (.int .i64 r) ∧ Below w.heap.size w w' := by
 have HR1 := Aside0.mk hr1
 have HC1 := Aside0.mk hc1
 clear hr1 hc1
 have HB := Aside0.mk (Below.refl w.heap.size w)
 have H : (ship_greatest.l0 k a0 l1 (l1.length : Int) 0) = some r := h
 clear h
 have H' := Aside0.mk H
 clear H
 go_enter Try.func79, Try.ntmps79
 go_wp2
 go_loopg [0, 9] k (fun kq v0 v9 w' => ∃ (x0_1 : Int) (x9_1 : Int), v0 = .int .i64 x0_1 ∧ v9 = .int .i64 x9_1 ∧ Aside0 (ship_greatest.l0 kq x0_1 l1 (l1.length : Int) x9_1 = some r) ∧ Aside0 (kq ≤ k) ∧ Aside0 (Below w.heap.size w w'))
 case atStart => exact ⟨(a0), (0), (by first | rfl | (simp; done) | (simp [*]; done)), (by first | rfl | (simp; done) | (simp [*]; done)), H', ⟨Nat.le_refl _⟩, ⟨by exact below_y HB.out⟩⟩
 case round =>
  clear H'
  obtain ⟨x0_1, x9_1, rfl, rfl, HA, HK1, HB⟩ := hrel
  cases gk with
  | zero => exact absurd HA.out (by simp [ship_greatest.l0])
  | succ k1 =>
   have H := HA.out
   clear HA
   simp only [ship_greatest.l0] at H
   by_cases c3 : x9_1 < (l1.length : Int)
   ·
    rw [if_pos c3] at H
    have c3b0 : decide (x9_1 < (l1.length : Int)) = true := decide_eq_true c3
    clear c3
    by_cases c4 : 0 ≤ x9_1
    ·
     rw [if_pos c4] at H
     have c4b0 : decide (0 ≤ x9_1) = true := decide_eq_true c4
     clear c4
     by_cases c5 : x9_1 < (l1.length : Int)
     ·
      rw [if_pos c5] at H
      have c5b0 : decide (x9_1 < (l1.length : Int)) = true := decide_eq_true c5
      clear c5
      obtain ⟨ji6, hji6⟩ : ∃ j_ : Int, (mx x0_1 (rd l1 x9_1)) = j_ := ⟨_, rfl⟩
      replace H : (ship_greatest.l0 k1 ji6 l1 (l1.length : Int) (wrap64 (x9_1 + 1))) = some r := by first | (rw [hji6] at H; exact H) | (simp only [hji6] at H ⊢; exact H)
      have hji6_ : (if x0_1 < (rd l1 x9_1) then (rd l1 x9_1) else x0_1) = ji6 := hji6
      have H' := Aside0.mk H
      clear H
      have p148 : 0 ≤ (x9_1 : Int) := of_x
      have q148 : x9_1 < (l1.length : Int) := of_x
      obtain ⟨ad148, e148, hx148_0⟩ := Kd.at_int HR1.out x9_1 p148 q148
      cases e148
      replace hx148_0 := cell_x HB hx148_0
      replace p148 := eq_true p148
      replace q148 := eq_true q148
      go_wp2
      go_roundg k1
      case measure => have := HK1.out; omega
      case rel => exact ⟨(ji6), (wrap64 (x9_1 + 1)), (by first | rfl | (simp; done) | (simp only [← hji6] <;> (first | rfl | simp)) | (simp [*]; done)), (by first | rfl | (simp; done) | (simp [*]; done)), H', ⟨by have := HK1.out; omega⟩, ⟨by exact below_y HB.out⟩⟩
     ·
      rw [if_neg c5] at H
      exact absurd H (by simp)
    ·
     rw [if_neg c4] at H
     exact absurd H (by simp)
   ·
    rw [if_neg c3] at H
    have c3b0 : decide (x9_1 < (l1.length : Int)) = false := decide_eq_false c3
    clear c3
    obtain rfl := Option.some.inj H
    go_wp2
    go_ret
    exact ⟨by first | rfl | (simp [errW_none, errW_some] <;> rfl) | (simp [*, errW_none, errW_some] <;> rfl), by exact below_y HB.out⟩
end Go.Proofs.Ytodmemndaaiolaa.PC7
namespace Go.Proofs.Ytodmemndaaiolaa.PC7
set_option linter.unusedVariables false
set_option linter.unusedSimpArgs false
open Go.RowKit Go.Proofs.YtodmemndaaiolaaW.PrintWords Go.Proofs.YtodmemndaaiolaaW.PrintLast Go.Proofs.YtodmemndaaiolaaW.PrintMore
theorem greatest_one (a b : Int) : ship_greatest.f 2 a [b] = some (mx a b) := by
 simp [ship_greatest.f, ship_greatest.l0, rd, wrap64]
theorem passW_step {soon : Bool} {l : List S62} {k : Nat} (hk : k < l.length) (now needs : Int) : passW soon (l.drop k) now needs =
  if k + 1 < l.length ∧ (l.getD (k + 1) z62).f0 ≤ now then passW soon (l.drop (k + 1)) now needs
  else if mx now (l.getD k z62).f0 ≤ 2880 ∧ needs ≤ wrap64 (1000 * waterOf soon (l.getD k z62)) then some (mx now (l.getD k z62).f0) else passW soon (l.drop (k + 1)) (mx now (l.getD k z62).f0) needs := by
 rw [drop_cons_of l k hk z62]
 by_cases h : k + 1 < l.length
 ·
  rw [drop_cons_of l (k + 1) h z62]
  simp only [passW, h, true_and]
 ·
  rw [List.drop_of_length_le (by omega : l.length ≤ k + 1)]
  simp only [passW, h, false_and, if_false]
structure SailLens (x : VoyV) : Prop where
 s : x.sills.length ≤ 100000
 l : ∀ k, k < x.sills.length → (x.sills.getD k z59).f1.length ≤ 100000
attribute [local go_sem] max2_int min2_int max_two min_two
set_option maxHeartbeats 8000000 in
set_option maxRecDepth 100000 in
theorem sail_calls (x : VoyV) (z : Q4) (soon : Bool) (w : World) (hx : x.Ok w) (hl : SailLens x) :
  Calls Try.prog 56 #[.agg #[.int .i64 x.light, .int .i64 x.under, .int .i64 x.trim, .slice x.A3 x.holds.length x.c3, .int .i64 x.leaves, .slice x.A5 x.sills.length x.c5, .slice x.A6 x.lots.length x.c6, .int .i64 z.b0, .int .i64 z.b1, .int .i64 z.h0, .int .i64 z.h1], .bool soon] w fun e w' => ∃ v, e = .returned v ∧ Kd.R (Kd.int .i64) 3 w' w.heap.size (fun _ => True) v (sailO x.under x.leaves x.sills z soon) ∧ Below w.heap.size w w' := by
 have hu26 := Try.underlying26
 have hu93 := Try.underlying93
 have hu95 := Try.underlying95
 have hu59 := Try.underlying59
 have hu62 := Try.underlying62
 have hu56 := Try.underlying56
 have hu123 := Try.underlying123
 obtain ⟨i0, hi, hz0, hz1, hz2⟩ := info_parts infoInt
 obtain ⟨A5, hA5⟩ : ∃ A5, A5 = x.A5 := ⟨_, rfl⟩
 have hs5 := hx.s
 rw [← hA5] at hs5 ⊢
 have HS5 := Aside0.mk hs5
 have HL := Aside0.mk hl
 have hmf : ∀ (fn : Fn) (first cap : Array Value) (w : World), (Instr.makeFunc fn first cap).run Try.prog w = .ok (.func fn first cap) w := fun _ _ _ _ => rfl
 clear hx hl hA5 hs5
 go_enter Try.func56, Try.ntmps56
 go_upto_region 1 with (first | ((with_reducible refine gate_dst (N := 2) rfl ?_); refine box_event ?hg (N := 2) ?hd (cs := #[.int .i64 x.light, .int .i64 x.under, .int .i64 x.trim, .slice x.A3 x.holds.length x.c3, .int .i64 x.leaves, .slice A5 x.sills.length x.c5, .slice x.A6 x.lots.length x.c6, .int .i64 z.b0, .int .i64 z.b1, .int .i64 z.h0, .int .i64 z.h1]) (t := 95) ?hr ?_; (case hd => rfl); (case hg => rfl); (case hr => first | (go_simp; done) | (go_simp; rfl)); intro gb hg w2 hbox hb2; have BK := Aside0.mk hbox; have HB := Aside0.mk hb2; clear hg hbox hb2; have hz0_ := (blk_cell BK.out 0).trans rfl; have hz1_ := (blk_cell BK.out 1).trans rfl; have hz2_ := (blk_cell BK.out 2).trans rfl; have hz3_ := (blk_cell BK.out 3).trans rfl; have hz4_ := (blk_cell BK.out 4).trans rfl; have hz5_ := (blk_cell BK.out 5).trans rfl; have hz6_ := (blk_cell BK.out 6).trans rfl; have hz7_ := (blk_cell BK.out 7).trans rfl; have hz8_ := (blk_cell BK.out 8).trans rfl; have hz9_ := (blk_cell BK.out 9).trans rfl; have hz10_ := (blk_cell BK.out 10).trans rfl))
 cases soon
 ·
  skip
  go_step3
  go_upto_region 2 with (fail)
  clear hz0_ hz1_ hz2_ hz3_ hz4_ hz5_ hz6_ hz7_ hz8_ hz9_ hz10_
  obtain ⟨g5, hg_⟩ : ∃ b, b = w2.heap.size := ⟨_, rfl⟩
  have Ng5 := Aside0.mk (blk_new w2 (.cells #[.int .i64 z.h0, .int .i64 z.h1] 93 (0, 0)))
  have hbw : Below w2.heap.size w2 (w2.alloc (.cells #[.int .i64 z.h0, .int .i64 z.h1] 93 (0, 0))) := below_alloc (Below.refl _ _) _
  have hgs_ : w.heap.size ≤ g5 := by rw [hg_]; exact HB.out.size
  generalize hw_ : w2.alloc (.cells #[.int .i64 z.h0, .int .i64 z.h1] 93 (0, 0)) = w3 at *
  rw [← hg_] at Ng5 ⊢
  replace BK := Aside0.mk (blk_below BK.out hbw)
  replace HB := Aside0.mk (below_step HB.out hbw)
  have GEg5 : Aside0 (w.heap.size ≤ g5) := ⟨hgs_⟩
  clear hbw hw_ hg_ hgs_
  have hz0_ := (blk_cell BK.out 0).trans rfl
  have hz1_ := (blk_cell BK.out 1).trans rfl
  have hz2_ := (blk_cell BK.out 2).trans rfl
  have hz3_ := (blk_cell BK.out 3).trans rfl
  have hz4_ := (blk_cell BK.out 4).trans rfl
  have hz5_ := (blk_cell BK.out 5).trans rfl
  have hz6_ := (blk_cell BK.out 6).trans rfl
  have hz7_ := (blk_cell BK.out 7).trans rfl
  have hz8_ := (blk_cell BK.out 8).trans rfl
  have hz9_ := (blk_cell BK.out 9).trans rfl
  have hz10_ := (blk_cell BK.out 10).trans rfl
  go_upto_region 4 with (fail)
  have B5 := Ng5
  clear Ng5
  obtain ⟨w4, hw4⟩ : ∃ w4 : World, w4 = w3 := ⟨_, rfl⟩
  rw [← hw4] at BK HB B5 ⊢
  clear hz0_ hz1_ hz2_ hz3_ hz4_ hz5_ hz6_ hz7_ hz8_ hz9_ hz10_ hw4
  have hd_ := below_drew1 (Below.refl w4.heap.size w4)
  have hq0_ := (blk_cell B5.out 0).trans rfl
  have hq1_ := (blk_cell B5.out 1).trans rfl
  have hq2_ := (blk_cell BK.out 1).trans rfl
  replace BK := Aside0.mk (blk_drew BK.out)
  replace HB := Aside0.mk (below_step HB.out hd_)
  clear hd_ B5
  refine start_ (n := 12) (S := fun w' => w'.cell? ⟨g5, 0, none⟩ = some (.int .i64 z.h0) ∧ w'.cell? ⟨g5, 1, none⟩ = some (.int .i64 z.h1) ∧ w'.cell? ⟨gb, 1, none⟩ = some (.int .i64 x.under)) (ds := []) #[false, false, false, false, false, false, false, false, false, false, false, false] (by kernel_rfl) rfl rfl ⟨hq0_, hq1_, hq2_⟩ (fun hHeld => ?_)
  generalize w4.drew = w5 at BK HB hHeld ⊢
  refine pure_y 0 (some 19) (bz 12 1) ?_
  refine pure_y 2 (some 21) (bz 12 5) ?_
  refine pure_y 6 (some 25) (bz 12 69) ?_
  refine pure_y 7 (some 26) (bz 12 197) ?_
  refine take_ (i := 1) (N := some 20) (v := ?_) (a' := ?_) (bz 12 199) rfl rfl (by kernel_rfl) (fun _ _ _ h => h) (Or.inl ⟨by rfl, ?_⟩) hHeld ?_ ?_
  rotate_left; (rintro w' ⟨s0, s1, s2⟩; go_simp; with_reducible rfl); rotate_left; (simp only [Act.put, put_x, i64_w, i32_w]; rfl)
  refine take_ (i := 3) (N := some 22) (v := ?_) (a' := ?_) (bz 12 207) rfl rfl (by kernel_rfl) (fun _ _ _ h => h) (Or.inl ⟨by rfl, ?_⟩) hHeld ?_ ?_
  rotate_left; (rintro w' ⟨s0, s1, s2⟩; go_simp; with_reducible rfl); rotate_left; (simp only [Act.put, put_x, i64_w, i32_w]; rfl)
  refine take_ (i := 8) (N := some 27) (v := ?_) (a' := ?_) (bz 12 463) rfl rfl (by kernel_rfl) (fun _ _ _ h => h) (Or.inl ⟨by rfl, ?_⟩) hHeld ?_ ?_
  rotate_left; (rintro w' ⟨s0, s1, s2⟩; go_simp; with_reducible rfl); rotate_left; (simp only [Act.put, put_x, i64_w, i32_w]; rfl)
  refine pure_y 9 (some 28) (bz 12 975) ?_
  refine one_ (i := 4) (N := some 23) (bz 12 991) rfl rfl (by kernel_rfl) (by decide) (fun K hK => ?_)
  obtain ⟨ys, hys⟩ : ∃ ys : List Int, ys = [z.h1] := ⟨_, rfl⟩
  refine Kd.R_lit_step (Kd.int .i64) _ 3 ?hg (N := 23) ?hd (xs := ([z.h1] : List Int)) (inner := [.int .i64 z.h1]) (ok := fun _ => True) (okp := fun _ => True) ?hr ?hp (fun _ hk => hk) trivial (Below.refl _ _) (Nat.le_refl _) (by simp) ?_; (case hd => rfl); (case hg => rfl); (case hr => first | (go_simp; done) | (go_simp; rfl)); (case hp => exact (Reps.one (show Kd.M (Kd.int .i64) _ _ _ (z.h1) [.int .i64 z.h1] from rfl) (Reps.none _ _)))
  intro vs_ w6 ho_ hb_ hg_ hnew_
  rw [← hys] at ho_
  obtain ⟨As, cs, rfl⟩ := Kd.R_slice ho_
  have RS := Aside0.mk (Kd.R_reads' ho_).2.2
  have ls_ := (Kd.R_reads' ho_).2.1
  have HYS := Aside0.mk hys
  clear hg_ hnew_ ho_ hys
  replace BK := Aside0.mk (blk_below BK.out hb_)
  replace HB := Aside0.mk (below_step HB.out hb_)
  have hb4_ := hb_
  clear hb_
  refine hK.out _ _ ⟨(hb4_.cell (World.block_lt_of_cell? _ _ (hHeld.1))).trans (hHeld.1), (hb4_.cell (World.block_lt_of_cell? _ _ (hHeld.2.1))).trans (hHeld.2.1), (hb4_.cell (World.block_lt_of_cell? _ _ (hHeld.2.2))).trans (hHeld.2.2)⟩ (fun hHeld => ?_)
  clear hK K
  refine norm_ (a' := ?_) ?_ ?_; rotate_left; (show Act.put _ (some 23) _ = _; simp only [Act.put, put_x, i64_w, i32_w]; rfl)
  refine one_ (i := 5) (N := some 24) (bz 12 1023) rfl rfl (by kernel_rfl) (by decide) (fun K hK => ?_)
  refine goes_ Try.func79 (by kernel_rfl) rfl #[.int .i64 z.h0, .slice As ys.length cs] (by rfl) rfl rfl (by (try simp only [List.map_toArray, List.map_cons, List.map_nil]); first | done | rfl) ?_
  with_reducible refine (ship_greatest.calls 2 (z.h0) As cs ys (mx (z.h0) (z.h1)) _ RS.out ls_ (by rw [HYS.out]; exact greatest_one _ _)).mono ?_
  rintro e w7 ⟨rfl, hb5_⟩
  refine ⟨_, rfl, ?_⟩
  replace BK := Aside0.mk (blk_below BK.out hb5_)
  replace HB := Aside0.mk (below_step HB.out hb5_)
  refine hK.out _ _ ⟨(hb5_.cell (World.block_lt_of_cell? _ _ (hHeld.1))).trans (hHeld.1), (hb5_.cell (World.block_lt_of_cell? _ _ (hHeld.2.1))).trans (hHeld.2.1), (hb5_.cell (World.block_lt_of_cell? _ _ (hHeld.2.2))).trans (hHeld.2.2)⟩ (fun hHeld => ?_)
  clear hK K
  refine norm_ (a' := ?_) ?_ ?_; rotate_left; (show Act.put _ (some 24) _ = _; simp only [Act.put, put_x, i64_w, i32_w]; rfl)
  refine pure_y 10 (some 29) (bz 12 2047) ?_
  refine pure_y 11 (some 6) (bz 12 4095) ?_
  refine done_ (by kernel_rfl) ?_
  clear hHeld hq0_ hq1_ hq2_ hb4_ hb5_ RS HYS ls_
  have HND := Aside0.mk (show needsW x.under z false = wrap64 (mx (z.h0) (z.h1) + wrap64 (1000 * x.under)) from rfl)
  have hz0_ := (blk_cell BK.out 0).trans rfl
  have hz1_ := (blk_cell BK.out 1).trans rfl
  have hz2_ := (blk_cell BK.out 2).trans rfl
  have hz3_ := (blk_cell BK.out 3).trans rfl
  have hz4_ := (blk_cell BK.out 4).trans rfl
  have hz5_ := (blk_cell BK.out 5).trans rfl
  have hz6_ := (blk_cell BK.out 6).trans rfl
  have hz7_ := (blk_cell BK.out 7).trans rfl
  have hz8_ := (blk_cell BK.out 8).trans rfl
  have hz9_ := (blk_cell BK.out 9).trans rfl
  have hz10_ := (blk_cell BK.out 10).trans rfl
  generalize wrap64 (mx (z.h0) (z.h1) + wrap64 (1000 * x.under)) = nd at *
  go_wp2
  go_step3
  go_wp2
  have HF : Aside0 ([] ++ sailW false x.sills x.leaves nd = sailO x.under x.leaves x.sills z false) := ⟨by rw [sailO, HND.out]; rfl⟩
  have hls := HL.out.s
  clear HND
  go_loopg [37, 7, 8] x.sills.length (fun gk v37 v7 v8 wr => ∃ (k : Nat) (now : Int) (acc : List Int), k ≤ x.sills.length ∧ x.sills.length - k ≤ gk ∧ v37 = .int .i64 k ∧ v7 = .int .i64 now ∧ acc.length ≤ k ∧ Aside0 (acc ++ sailW false (x.sills.drop k) now nd = sailO x.under x.leaves x.sills z false) ∧ Aside0 (wr.ownsRow w.heap.size 3 1 v8 acc.length (acc.map (Value.int .i64))) ∧ Aside0 (Below w.heap.size w wr))
  case atStart => exact ⟨0, x.leaves, [], by omega, by omega, rfl, rfl, by simp, HF, ⟨World.ownsRow_nil _ _ _ _⟩, HB⟩
  case round =>
   clear BK HF HB
   obtain ⟨k, now, acc, hk, hgk, rfl, rfl, hacc, HF, HO, HB⟩ := hrel
   by_cases hlt : k < x.sills.length
   ·
    have hlz : (k : Int) < (x.sills.length : Int) := by omega
    obtain ⟨ads, A2, c2, e, h0, h1, h2, l2, g2⟩ := at_T59 HS5.out (k : Int) (by omega) hlz
    cases e
    rw [Int.toNat_natCast] at h0 h1 h2
    replace h0 := cell_x HB h0
    replace h1 := cell_x HB h1
    replace h2 := cell_x HB h2
    have hlen := HL.out.l k hlt
    have hdr := drop_cons_of x.sills k hlt z59
    rw [hdr] at HF
    have hrd : x.sills.getD k z59 = rd_T59 x.sills (k : Int) := rfl
    rw [hrd] at HF hlen
    clear hdr hrd
    generalize rd_T59 x.sills (k : Int) = sl at *
    obtain ⟨P, hP⟩ : ∃ P, passW false sl.f1 (wrap64 (now + travelOf false sl)) nd = P := ⟨_, rfl⟩
    have HF2 := HF.out
    simp only [sailW] at HF2
    rw [hP] at HF2
    replace HF := Aside0.mk HF2
    have HP := Aside0.mk hP
    have G2 := Aside0.mk g2
    clear HF2 hP g2
    go_upto_region 10 with (fail)
    obtain ⟨g10, hg_⟩ : ∃ b, b = wr.heap.size := ⟨_, rfl⟩
    have B10 := Aside0.mk (blk_new wr (.cells #[.int .i64 sl.f0.f0, .int .i64 sl.f0.f1, .slice A2 sl.f1.length c2] 59 (0, 0)))
    have hbw : Below wr.heap.size wr (wr.alloc (.cells #[.int .i64 sl.f0.f0, .int .i64 sl.f0.f1, .slice A2 sl.f1.length c2] 59 (0, 0))) := below_alloc (Below.refl _ _) _
    generalize hw_ : wr.alloc (.cells #[.int .i64 sl.f0.f0, .int .i64 sl.f0.f1, .slice A2 sl.f1.length c2] 59 (0, 0)) = w8 at *
    rw [← hg_] at B10 ⊢
    replace HO := Aside0.mk (own_move HO.out (fun b hb => hbw.block b (own_lt HO.out b hb)))
    replace HB := Aside0.mk (below_step HB.out hbw)
    clear hbw hw_ hg_ h0 h1 h2
    have hb0_ := (blk_cell B10.out 0).trans rfl
    have hb1_ := (blk_cell B10.out 1).trans rfl
    have hb2_ := (blk_cell B10.out 2).trans rfl
    go_wp2
    clear hb0_ hb1_ hb2_
    have HP2 : Aside0 (passW false sl.f1 (wrap64 (now + sl.f0.f1)) nd = P) := HP
    generalize wrap64 (now + sl.f0.f1) = nw0 at *
    clear HP
    go_loopg [59, 7, 8] sl.f1.length (fun gk v59 v7 v8 wr => ∃ (j : Nat) (nw : Int), j ≤ sl.f1.length ∧ sl.f1.length - j ≤ gk ∧ v59 = .int .i64 j ∧ v7 = .int .i64 nw ∧ Aside0 (passW false (sl.f1.drop j) nw nd = P) ∧ Aside0 (wr.ownsRow w.heap.size 3 1 v8 acc.length (acc.map (Value.int .i64))) ∧ Aside0 (wr.heap[g10]? = some (.cells #[.int .i64 sl.f0.f0, .int .i64 sl.f0.f1, .slice A2 sl.f1.length c2] 59 (0, 0))) ∧ Aside0 (Below w.heap.size w wr))
    case atStart => exact ⟨0, nw0, by omega, by omega, rfl, rfl, HP2, HO, B10, HB⟩
    case round =>
     clear HP2 HO B10 HB
     obtain ⟨j, nw, hj, hgj, rfl, rfl, HP, HO, B10, HB⟩ := hrel
     by_cases hjl : j < sl.f1.length
     ·
      have hjz : (j : Int) < (sl.f1.length : Int) := by omega
      have hst := passW_step (soon := false) hjl nw nd
      rw [HP.out] at hst
      obtain ⟨adl, e, h0, h1, h2⟩ := at_T62 G2.out (j : Int) (by omega) hjz
      cases e
      rw [Int.toNat_natCast] at h0 h1 h2
      replace h0 := cell_x HB h0
      replace h1 := cell_x HB h1
      replace h2 := cell_x HB h2
      have hrd : sl.f1.getD j z62 = rd_T62 sl.f1 (j : Int) := rfl
      rw [hrd] at hst
      have HST := Aside0.mk hst
      have HWC := Aside0.mk (fun W (hB : Below w.heap.size w W) => water_calls sl.f0.f0 sl.f0.f1 (some adl) c2 sl.f1 false j W (Kd.C_below G2.out hB) l2 hjl (by omega))
      clear hrd hst HP
      generalize rd_T62 sl.f1 (j : Int) = lv at *
      go_upto_region 17 with (fail)
      obtain ⟨g13, hg_⟩ : ∃ b, b = wr.heap.size := ⟨_, rfl⟩
      have B13 := Aside0.mk (blk_new wr (.cells #[.int .i64 lv.f0, .int .i64 lv.f1.f0, .int .i64 lv.f1.f1] 62 (0, 0)))
      have hbw : Below wr.heap.size wr (wr.alloc (.cells #[.int .i64 lv.f0, .int .i64 lv.f1.f0, .int .i64 lv.f1.f1] 62 (0, 0))) := below_alloc (Below.refl _ _) _
      generalize hw_ : wr.alloc (.cells #[.int .i64 lv.f0, .int .i64 lv.f1.f0, .int .i64 lv.f1.f1] 62 (0, 0)) = w9 at *
      rw [← hg_] at B13 ⊢
      replace HO := Aside0.mk (own_move HO.out (fun b hb => hbw.block b (own_lt HO.out b hb)))
      replace B10 := Aside0.mk (blk_below B10.out hbw)
      replace HB := Aside0.mk (below_step HB.out hbw)
      clear hbw hw_ hg_ h0 h1 h2
      have hb2_ := (blk_cell B10.out 2).trans rfl
      have hc0_ := (blk_cell B13.out 0).trans rfl
      by_cases hn : j + 1 < sl.f1.length
      ·
       have hnz : (j : Int) + 1 < (sl.f1.length : Int) := by omega
       obtain ⟨adl2, e2, h3, _, _⟩ := at_T62 G2.out ((j + 1 : Nat) : Int) (by omega) (by omega)
       obtain rfl : adl = adl2 := by injection e2
       rw [Int.toNat_natCast] at h3
       replace h3 := cell_x HB h3
       have hrd2 : sl.f1.getD (j + 1) z62 = rd_T62 sl.f1 ((j + 1 : Nat) : Int) := rfl
       have hst := HST.out
       rw [hrd2] at hst
       generalize (rd_T62 sl.f1 ((j + 1 : Nat) : Int)).f0 = fn at *
       by_cases hle : fn ≤ nw
       ·
        rw [if_pos ⟨hn, hle⟩] at hst
        have HP := Aside0.mk hst.symm
        clear hst e2 HST hrd2
        go_wp2
        go_roundg (sl.f1.length - (j + 1))
        case measure => omega
        case rel => exact ⟨j + 1, nw, by omega, by omega, by go_num, rfl, HP, HO, B10, HB⟩
       ·
        rw [if_neg (fun h => hle h.2)] at hst
        clear e2 HST hrd2
        have hm_ : (if nw < lv.f0 then lv.f0 else nw) = mx nw lv.f0 := rfl
        generalize mx nw lv.f0 = m at *
        go_upto_region 18 with (fail)
        clear hb2_
        by_cases h28 : m ≤ 2880
        ·
         have hcall := HWC.out _ HB.out
         generalize waterOf false lv = wt at *
         have HCALL := Aside0.mk hcall
         have HSTX := Aside0.mk hst
         clear hcall hst HWC
         by_cases hw : nd ≤ wrap64 (1000 * wt)
         ·
          have hP := HSTX.out.trans (if_pos ⟨h28, hw⟩)
          have HP := Aside0.mk hP
          clear hP HSTX
          go_wp2_with (first | (go_at_call 80; refine HCALL.out.mono ?_; rintro e w10 ⟨rfl, hb10⟩; have HB10 := Aside0.mk (below_step HB.out hb10); have HO10 := Aside0.mk (own_move HO.out (fun b hb => hb10.block b (own_lt HO.out b hb))); clear hb10) | (at_builtin; refine wpList_append_own _ rfl _ _ 27 rfl w.heap.size 3 i0 (.int .i64 0) 1 8 Try.underlying27 hi hz0 hz1 hz2 rfl (by decide) _ _ _ rfl (HO10.out.alloc _) ⟨w10.heap.size, 0, none⟩ 1 1 [.int .i64 m] rfl rfl (cell_one_new _ _ _) (by simp [Value.oneCell']) (by unfold maxLen; omega) (by omega) (by have := HB10.out.size; simp; omega) ?_; intro v' w11 hown' hgrow _))
          go_roundg (x.sills.length - (k + 1))
          case measure => omega
          case rel =>
           refine ⟨k + 1, m, acc ++ [m], by omega, by omega, by go_num, rfl, by simp; omega, ⟨?_⟩, ⟨by simpa using hown'⟩, ⟨grow_below HB10.out HO10.out hgrow⟩⟩
           have hf := HF.out
           rw [HP.out] at hf
           simpa using hf
         ·
          have hP := HSTX.out.trans (if_neg (fun h => hw h.2))
          have HP := Aside0.mk hP.symm
          clear hP HSTX
          go_wp2_with (go_at_call 80; refine HCALL.out.mono ?_; rintro e w10 ⟨rfl, hb10⟩; have HB10 := Aside0.mk (below_step HB.out hb10); have HO10 := Aside0.mk (own_move HO.out (fun b hb => hb10.block b (own_lt HO.out b hb))); have BK10 := Aside0.mk (blk_below B10.out hb10); clear hb10)
          go_roundg (sl.f1.length - (j + 1))
          case measure => omega
          case rel => exact ⟨j + 1, m, by omega, by omega, by go_num, rfl, HP, HO10, BK10, HB10⟩
        ·
         have hP := hst.trans (if_neg (fun h => h28 h.1))
         have HP := Aside0.mk hP.symm
         clear hP hst HWC
         go_wp2
         go_roundg (sl.f1.length - (j + 1))
         case measure => omega
         case rel => exact ⟨j + 1, m, by omega, by omega, by go_num, rfl, HP, HO, B10, HB⟩
      ·
       have hnz : ¬ (j : Int) + 1 < (sl.f1.length : Int) := by omega
       have hst := HST.out
       rw [if_neg (fun h => hn h.1)] at hst
       clear HST
       have hm_ : (if nw < lv.f0 then lv.f0 else nw) = mx nw lv.f0 := rfl
       generalize mx nw lv.f0 = m at *
       go_upto_region 18 with (fail)
       clear hb2_
       by_cases h28 : m ≤ 2880
       ·
        have hcall := HWC.out _ HB.out
        generalize waterOf false lv = wt at *
        have HCALL := Aside0.mk hcall
        have HSTX := Aside0.mk hst
        clear hcall hst HWC
        by_cases hw : nd ≤ wrap64 (1000 * wt)
        ·
         have hP := HSTX.out.trans (if_pos ⟨h28, hw⟩)
         have HP := Aside0.mk hP
         clear hP HSTX
         go_wp2_with (first | (go_at_call 80; refine HCALL.out.mono ?_; rintro e w10 ⟨rfl, hb10⟩; have HB10 := Aside0.mk (below_step HB.out hb10); have HO10 := Aside0.mk (own_move HO.out (fun b hb => hb10.block b (own_lt HO.out b hb))); clear hb10) | (at_builtin; refine wpList_append_own _ rfl _ _ 27 rfl w.heap.size 3 i0 (.int .i64 0) 1 8 Try.underlying27 hi hz0 hz1 hz2 rfl (by decide) _ _ _ rfl (HO10.out.alloc _) ⟨w10.heap.size, 0, none⟩ 1 1 [.int .i64 m] rfl rfl (cell_one_new _ _ _) (by simp [Value.oneCell']) (by unfold maxLen; omega) (by omega) (by have := HB10.out.size; simp; omega) ?_; intro v' w11 hown' hgrow _))
         go_roundg (x.sills.length - (k + 1))
         case measure => omega
         case rel =>
          refine ⟨k + 1, m, acc ++ [m], by omega, by omega, by go_num, rfl, by simp; omega, ⟨?_⟩, ⟨by simpa using hown'⟩, ⟨grow_below HB10.out HO10.out hgrow⟩⟩
          have hf := HF.out
          rw [HP.out] at hf
          simpa using hf
        ·
         have hP := HSTX.out.trans (if_neg (fun h => hw h.2))
         have HP := Aside0.mk hP.symm
         clear hP HSTX
         go_wp2_with (go_at_call 80; refine HCALL.out.mono ?_; rintro e w10 ⟨rfl, hb10⟩; have HB10 := Aside0.mk (below_step HB.out hb10); have HO10 := Aside0.mk (own_move HO.out (fun b hb => hb10.block b (own_lt HO.out b hb))); have BK10 := Aside0.mk (blk_below B10.out hb10); clear hb10)
         go_roundg (sl.f1.length - (j + 1))
         case measure => omega
         case rel => exact ⟨j + 1, m, by omega, by omega, by go_num, rfl, HP, HO10, BK10, HB10⟩
       ·
        have hP := hst.trans (if_neg (fun h => h28 h.1))
        have HP := Aside0.mk hP.symm
        clear hP hst HWC
        go_wp2
        go_roundg (sl.f1.length - (j + 1))
        case measure => omega
        case rel => exact ⟨j + 1, m, by omega, by omega, by go_num, rfl, HP, HO, B10, HB⟩
     ·
      have : j = sl.f1.length := by omega
      subst this
      have hp := HP.out
      rw [List.drop_length] at hp
      simp only [passW] at hp
      go_wp2
      rw [Exit.noGoto_ret]
      go_ret
      have hf := HF.out
      rw [← hp] at hf
      simp only [List.append_nil] at hf
      rw [← hf]
      exact ⟨_, rfl, R_of_owns .i64 HO.out, HB.out⟩
   ·
    have : k = x.sills.length := by omega
    subst this
    go_wp2
    rw [Exit.noGoto_ret]
    go_ret
    have hf := HF.out
    rw [List.drop_length] at hf
    simp only [sailW, List.append_nil] at hf
    rw [← hf]
    exact ⟨_, rfl, R_of_owns .i64 HO.out, HB.out⟩
 ·
  skip
  go_step3
  go_upto_region 2 with (fail)
  clear hz0_ hz1_ hz2_ hz3_ hz4_ hz5_ hz6_ hz7_ hz8_ hz9_ hz10_
  obtain ⟨g5, hg_⟩ : ∃ b, b = w2.heap.size := ⟨_, rfl⟩
  have Ng5 := Aside0.mk (blk_new w2 (.cells #[.int .i64 z.h0, .int .i64 z.h1] 93 (0, 0)))
  have hbw : Below w2.heap.size w2 (w2.alloc (.cells #[.int .i64 z.h0, .int .i64 z.h1] 93 (0, 0))) := below_alloc (Below.refl _ _) _
  have hgs_ : w.heap.size ≤ g5 := by rw [hg_]; exact HB.out.size
  generalize hw_ : w2.alloc (.cells #[.int .i64 z.h0, .int .i64 z.h1] 93 (0, 0)) = w3 at *
  rw [← hg_] at Ng5 ⊢
  replace BK := Aside0.mk (blk_below BK.out hbw)
  replace HB := Aside0.mk (below_step HB.out hbw)
  have GEg5 : Aside0 (w.heap.size ≤ g5) := ⟨hgs_⟩
  clear hbw hw_ hg_ hgs_
  have hz0_ := (blk_cell BK.out 0).trans rfl
  have hz1_ := (blk_cell BK.out 1).trans rfl
  have hz2_ := (blk_cell BK.out 2).trans rfl
  have hz3_ := (blk_cell BK.out 3).trans rfl
  have hz4_ := (blk_cell BK.out 4).trans rfl
  have hz5_ := (blk_cell BK.out 5).trans rfl
  have hz6_ := (blk_cell BK.out 6).trans rfl
  have hz7_ := (blk_cell BK.out 7).trans rfl
  have hz8_ := (blk_cell BK.out 8).trans rfl
  have hz9_ := (blk_cell BK.out 9).trans rfl
  have hz10_ := (blk_cell BK.out 10).trans rfl
  have hy0_ := (blk_cell Ng5.out 0).trans rfl
  have hy1_ := (blk_cell Ng5.out 1).trans rfl
  have hf5_ := blk_frozen Ng5.out
  go_upto_region 4 with (fail)
  have B5 := Aside0.mk (blk_put (cs' := #[.int .i64 z.b0, .int .i64 z.b1]) (blk_set Ng5.out 0 (.int .i64 z.b0)) 1 (.int .i64 z.b1) rfl)
  have hx_ : Below w.heap.size w ((w3.setCell ⟨g5, 0, none⟩ (.int .i64 z.b0)).setCell ⟨g5, 1, none⟩ (.int .i64 z.b1)) := below_set (below_set HB.out GEg5.out) GEg5.out
  have hn_ := blk_ne_ BK.out Ng5.out (by decide)
  replace BK := Aside0.mk (blk_far (blk_far BK.out (p := ⟨g5, 0, none⟩) hn_ (.int .i64 z.b0)) (p := ⟨g5, 1, none⟩) hn_ (.int .i64 z.b1))
  replace HB := Aside0.mk hx_
  generalize hW_ : (w3.setCell ⟨g5, 0, none⟩ (.int .i64 z.b0)).setCell ⟨g5, 1, none⟩ (.int .i64 z.b1) = w4 at *
  clear hW_ hx_ hn_ hy0_ hy1_ hf5_ Ng5 hz0_ hz1_ hz2_ hz3_ hz4_ hz5_ hz6_ hz7_ hz8_ hz9_ hz10_
  have hd_ := below_drew1 (Below.refl w4.heap.size w4)
  have hq0_ := (blk_cell B5.out 0).trans rfl
  have hq1_ := (blk_cell B5.out 1).trans rfl
  have hq2_ := (blk_cell BK.out 1).trans rfl
  replace BK := Aside0.mk (blk_drew BK.out)
  replace HB := Aside0.mk (below_step HB.out hd_)
  clear hd_ B5
  refine start_ (n := 12) (S := fun w' => w'.cell? ⟨g5, 0, none⟩ = some (.int .i64 z.b0) ∧ w'.cell? ⟨g5, 1, none⟩ = some (.int .i64 z.b1) ∧ w'.cell? ⟨gb, 1, none⟩ = some (.int .i64 x.under)) (ds := []) #[false, false, false, false, false, false, false, false, false, false, false, false] (by kernel_rfl) rfl rfl ⟨hq0_, hq1_, hq2_⟩ (fun hHeld => ?_)
  generalize w4.drew = w5 at BK HB hHeld ⊢
  refine pure_y 0 (some 19) (bz 12 1) ?_
  refine pure_y 2 (some 21) (bz 12 5) ?_
  refine pure_y 6 (some 25) (bz 12 69) ?_
  refine pure_y 7 (some 26) (bz 12 197) ?_
  refine take_ (i := 1) (N := some 20) (v := ?_) (a' := ?_) (bz 12 199) rfl rfl (by kernel_rfl) (fun _ _ _ h => h) (Or.inl ⟨by rfl, ?_⟩) hHeld ?_ ?_
  rotate_left; (rintro w' ⟨s0, s1, s2⟩; go_simp; with_reducible rfl); rotate_left; (simp only [Act.put, put_x, i64_w, i32_w]; rfl)
  refine take_ (i := 3) (N := some 22) (v := ?_) (a' := ?_) (bz 12 207) rfl rfl (by kernel_rfl) (fun _ _ _ h => h) (Or.inl ⟨by rfl, ?_⟩) hHeld ?_ ?_
  rotate_left; (rintro w' ⟨s0, s1, s2⟩; go_simp; with_reducible rfl); rotate_left; (simp only [Act.put, put_x, i64_w, i32_w]; rfl)
  refine take_ (i := 8) (N := some 27) (v := ?_) (a' := ?_) (bz 12 463) rfl rfl (by kernel_rfl) (fun _ _ _ h => h) (Or.inl ⟨by rfl, ?_⟩) hHeld ?_ ?_
  rotate_left; (rintro w' ⟨s0, s1, s2⟩; go_simp; with_reducible rfl); rotate_left; (simp only [Act.put, put_x, i64_w, i32_w]; rfl)
  refine pure_y 9 (some 28) (bz 12 975) ?_
  refine one_ (i := 4) (N := some 23) (bz 12 991) rfl rfl (by kernel_rfl) (by decide) (fun K hK => ?_)
  obtain ⟨ys, hys⟩ : ∃ ys : List Int, ys = [z.b1] := ⟨_, rfl⟩
  refine Kd.R_lit_step (Kd.int .i64) _ 3 ?hg (N := 23) ?hd (xs := ([z.b1] : List Int)) (inner := [.int .i64 z.b1]) (ok := fun _ => True) (okp := fun _ => True) ?hr ?hp (fun _ hk => hk) trivial (Below.refl _ _) (Nat.le_refl _) (by simp) ?_; (case hd => rfl); (case hg => rfl); (case hr => first | (go_simp; done) | (go_simp; rfl)); (case hp => exact (Reps.one (show Kd.M (Kd.int .i64) _ _ _ (z.b1) [.int .i64 z.b1] from rfl) (Reps.none _ _)))
  intro vs_ w6 ho_ hb_ hg_ hnew_
  rw [← hys] at ho_
  obtain ⟨As, cs, rfl⟩ := Kd.R_slice ho_
  have RS := Aside0.mk (Kd.R_reads' ho_).2.2
  have ls_ := (Kd.R_reads' ho_).2.1
  have HYS := Aside0.mk hys
  clear hg_ hnew_ ho_ hys
  replace BK := Aside0.mk (blk_below BK.out hb_)
  replace HB := Aside0.mk (below_step HB.out hb_)
  have hb4_ := hb_
  clear hb_
  refine hK.out _ _ ⟨(hb4_.cell (World.block_lt_of_cell? _ _ (hHeld.1))).trans (hHeld.1), (hb4_.cell (World.block_lt_of_cell? _ _ (hHeld.2.1))).trans (hHeld.2.1), (hb4_.cell (World.block_lt_of_cell? _ _ (hHeld.2.2))).trans (hHeld.2.2)⟩ (fun hHeld => ?_)
  clear hK K
  refine norm_ (a' := ?_) ?_ ?_; rotate_left; (show Act.put _ (some 23) _ = _; simp only [Act.put, put_x, i64_w, i32_w]; rfl)
  refine one_ (i := 5) (N := some 24) (bz 12 1023) rfl rfl (by kernel_rfl) (by decide) (fun K hK => ?_)
  refine goes_ Try.func79 (by kernel_rfl) rfl #[.int .i64 z.b0, .slice As ys.length cs] (by rfl) rfl rfl (by (try simp only [List.map_toArray, List.map_cons, List.map_nil]); first | done | rfl) ?_
  with_reducible refine (ship_greatest.calls 2 (z.b0) As cs ys (mx (z.b0) (z.b1)) _ RS.out ls_ (by rw [HYS.out]; exact greatest_one _ _)).mono ?_
  rintro e w7 ⟨rfl, hb5_⟩
  refine ⟨_, rfl, ?_⟩
  replace BK := Aside0.mk (blk_below BK.out hb5_)
  replace HB := Aside0.mk (below_step HB.out hb5_)
  refine hK.out _ _ ⟨(hb5_.cell (World.block_lt_of_cell? _ _ (hHeld.1))).trans (hHeld.1), (hb5_.cell (World.block_lt_of_cell? _ _ (hHeld.2.1))).trans (hHeld.2.1), (hb5_.cell (World.block_lt_of_cell? _ _ (hHeld.2.2))).trans (hHeld.2.2)⟩ (fun hHeld => ?_)
  clear hK K
  refine norm_ (a' := ?_) ?_ ?_; rotate_left; (show Act.put _ (some 24) _ = _; simp only [Act.put, put_x, i64_w, i32_w]; rfl)
  refine pure_y 10 (some 29) (bz 12 2047) ?_
  refine pure_y 11 (some 6) (bz 12 4095) ?_
  refine done_ (by kernel_rfl) ?_
  clear hHeld hq0_ hq1_ hq2_ hb4_ hb5_ RS HYS ls_
  have HND := Aside0.mk (show needsW x.under z true = wrap64 (mx (z.b0) (z.b1) + wrap64 (1000 * x.under)) from rfl)
  have hz0_ := (blk_cell BK.out 0).trans rfl
  have hz1_ := (blk_cell BK.out 1).trans rfl
  have hz2_ := (blk_cell BK.out 2).trans rfl
  have hz3_ := (blk_cell BK.out 3).trans rfl
  have hz4_ := (blk_cell BK.out 4).trans rfl
  have hz5_ := (blk_cell BK.out 5).trans rfl
  have hz6_ := (blk_cell BK.out 6).trans rfl
  have hz7_ := (blk_cell BK.out 7).trans rfl
  have hz8_ := (blk_cell BK.out 8).trans rfl
  have hz9_ := (blk_cell BK.out 9).trans rfl
  have hz10_ := (blk_cell BK.out 10).trans rfl
  generalize wrap64 (mx (z.b0) (z.b1) + wrap64 (1000 * x.under)) = nd at *
  go_wp2
  go_step3
  go_wp2
  have HF : Aside0 ([] ++ sailW true x.sills x.leaves nd = sailO x.under x.leaves x.sills z true) := ⟨by rw [sailO, HND.out]; rfl⟩
  have hls := HL.out.s
  clear HND
  go_loopg [37, 7, 8] x.sills.length (fun gk v37 v7 v8 wr => ∃ (k : Nat) (now : Int) (acc : List Int), k ≤ x.sills.length ∧ x.sills.length - k ≤ gk ∧ v37 = .int .i64 k ∧ v7 = .int .i64 now ∧ acc.length ≤ k ∧ Aside0 (acc ++ sailW true (x.sills.drop k) now nd = sailO x.under x.leaves x.sills z true) ∧ Aside0 (wr.ownsRow w.heap.size 3 1 v8 acc.length (acc.map (Value.int .i64))) ∧ Aside0 (Below w.heap.size w wr))
  case atStart => exact ⟨0, x.leaves, [], by omega, by omega, rfl, rfl, by simp, HF, ⟨World.ownsRow_nil _ _ _ _⟩, HB⟩
  case round =>
   clear BK HF HB
   obtain ⟨k, now, acc, hk, hgk, rfl, rfl, hacc, HF, HO, HB⟩ := hrel
   by_cases hlt : k < x.sills.length
   ·
    have hlz : (k : Int) < (x.sills.length : Int) := by omega
    obtain ⟨ads, A2, c2, e, h0, h1, h2, l2, g2⟩ := at_T59 HS5.out (k : Int) (by omega) hlz
    cases e
    rw [Int.toNat_natCast] at h0 h1 h2
    replace h0 := cell_x HB h0
    replace h1 := cell_x HB h1
    replace h2 := cell_x HB h2
    have hlen := HL.out.l k hlt
    have hdr := drop_cons_of x.sills k hlt z59
    rw [hdr] at HF
    have hrd : x.sills.getD k z59 = rd_T59 x.sills (k : Int) := rfl
    rw [hrd] at HF hlen
    clear hdr hrd
    generalize rd_T59 x.sills (k : Int) = sl at *
    obtain ⟨P, hP⟩ : ∃ P, passW true sl.f1 (wrap64 (now + travelOf true sl)) nd = P := ⟨_, rfl⟩
    have HF2 := HF.out
    simp only [sailW] at HF2
    rw [hP] at HF2
    replace HF := Aside0.mk HF2
    have HP := Aside0.mk hP
    have G2 := Aside0.mk g2
    clear HF2 hP g2
    go_upto_region 10 with (fail)
    obtain ⟨g10, hg_⟩ : ∃ b, b = wr.heap.size := ⟨_, rfl⟩
    have B10 := Aside0.mk (blk_new wr (.cells #[.int .i64 sl.f0.f0, .int .i64 sl.f0.f1, .slice A2 sl.f1.length c2] 59 (0, 0)))
    have hbw : Below wr.heap.size wr (wr.alloc (.cells #[.int .i64 sl.f0.f0, .int .i64 sl.f0.f1, .slice A2 sl.f1.length c2] 59 (0, 0))) := below_alloc (Below.refl _ _) _
    generalize hw_ : wr.alloc (.cells #[.int .i64 sl.f0.f0, .int .i64 sl.f0.f1, .slice A2 sl.f1.length c2] 59 (0, 0)) = w8 at *
    rw [← hg_] at B10 ⊢
    replace HO := Aside0.mk (own_move HO.out (fun b hb => hbw.block b (own_lt HO.out b hb)))
    replace HB := Aside0.mk (below_step HB.out hbw)
    clear hbw hw_ hg_ h0 h1 h2
    have hb0_ := (blk_cell B10.out 0).trans rfl
    have hb1_ := (blk_cell B10.out 1).trans rfl
    have hb2_ := (blk_cell B10.out 2).trans rfl
    go_wp2
    clear hb0_ hb1_ hb2_
    have HP2 : Aside0 (passW true sl.f1 (wrap64 (now + sl.f0.f0)) nd = P) := HP
    generalize wrap64 (now + sl.f0.f0) = nw0 at *
    clear HP
    go_loopg [59, 7, 8] sl.f1.length (fun gk v59 v7 v8 wr => ∃ (j : Nat) (nw : Int), j ≤ sl.f1.length ∧ sl.f1.length - j ≤ gk ∧ v59 = .int .i64 j ∧ v7 = .int .i64 nw ∧ Aside0 (passW true (sl.f1.drop j) nw nd = P) ∧ Aside0 (wr.ownsRow w.heap.size 3 1 v8 acc.length (acc.map (Value.int .i64))) ∧ Aside0 (wr.heap[g10]? = some (.cells #[.int .i64 sl.f0.f0, .int .i64 sl.f0.f1, .slice A2 sl.f1.length c2] 59 (0, 0))) ∧ Aside0 (Below w.heap.size w wr))
    case atStart => exact ⟨0, nw0, by omega, by omega, rfl, rfl, HP2, HO, B10, HB⟩
    case round =>
     clear HP2 HO B10 HB
     obtain ⟨j, nw, hj, hgj, rfl, rfl, HP, HO, B10, HB⟩ := hrel
     by_cases hjl : j < sl.f1.length
     ·
      have hjz : (j : Int) < (sl.f1.length : Int) := by omega
      have hst := passW_step (soon := true) hjl nw nd
      rw [HP.out] at hst
      obtain ⟨adl, e, h0, h1, h2⟩ := at_T62 G2.out (j : Int) (by omega) hjz
      cases e
      rw [Int.toNat_natCast] at h0 h1 h2
      replace h0 := cell_x HB h0
      replace h1 := cell_x HB h1
      replace h2 := cell_x HB h2
      have hrd : sl.f1.getD j z62 = rd_T62 sl.f1 (j : Int) := rfl
      rw [hrd] at hst
      have HST := Aside0.mk hst
      have HWC := Aside0.mk (fun W (hB : Below w.heap.size w W) => water_calls sl.f0.f0 sl.f0.f1 (some adl) c2 sl.f1 true j W (Kd.C_below G2.out hB) l2 hjl (by omega))
      clear hrd hst HP
      generalize rd_T62 sl.f1 (j : Int) = lv at *
      go_upto_region 17 with (fail)
      obtain ⟨g13, hg_⟩ : ∃ b, b = wr.heap.size := ⟨_, rfl⟩
      have B13 := Aside0.mk (blk_new wr (.cells #[.int .i64 lv.f0, .int .i64 lv.f1.f0, .int .i64 lv.f1.f1] 62 (0, 0)))
      have hbw : Below wr.heap.size wr (wr.alloc (.cells #[.int .i64 lv.f0, .int .i64 lv.f1.f0, .int .i64 lv.f1.f1] 62 (0, 0))) := below_alloc (Below.refl _ _) _
      generalize hw_ : wr.alloc (.cells #[.int .i64 lv.f0, .int .i64 lv.f1.f0, .int .i64 lv.f1.f1] 62 (0, 0)) = w9 at *
      rw [← hg_] at B13 ⊢
      replace HO := Aside0.mk (own_move HO.out (fun b hb => hbw.block b (own_lt HO.out b hb)))
      replace B10 := Aside0.mk (blk_below B10.out hbw)
      replace HB := Aside0.mk (below_step HB.out hbw)
      clear hbw hw_ hg_ h0 h1 h2
      have hb2_ := (blk_cell B10.out 2).trans rfl
      have hc0_ := (blk_cell B13.out 0).trans rfl
      by_cases hn : j + 1 < sl.f1.length
      ·
       have hnz : (j : Int) + 1 < (sl.f1.length : Int) := by omega
       obtain ⟨adl2, e2, h3, _, _⟩ := at_T62 G2.out ((j + 1 : Nat) : Int) (by omega) (by omega)
       obtain rfl : adl = adl2 := by injection e2
       rw [Int.toNat_natCast] at h3
       replace h3 := cell_x HB h3
       have hrd2 : sl.f1.getD (j + 1) z62 = rd_T62 sl.f1 ((j + 1 : Nat) : Int) := rfl
       have hst := HST.out
       rw [hrd2] at hst
       generalize (rd_T62 sl.f1 ((j + 1 : Nat) : Int)).f0 = fn at *
       by_cases hle : fn ≤ nw
       ·
        rw [if_pos ⟨hn, hle⟩] at hst
        have HP := Aside0.mk hst.symm
        clear hst e2 HST hrd2
        go_wp2
        go_roundg (sl.f1.length - (j + 1))
        case measure => omega
        case rel => exact ⟨j + 1, nw, by omega, by omega, by go_num, rfl, HP, HO, B10, HB⟩
       ·
        rw [if_neg (fun h => hle h.2)] at hst
        clear e2 HST hrd2
        have hm_ : (if nw < lv.f0 then lv.f0 else nw) = mx nw lv.f0 := rfl
        generalize mx nw lv.f0 = m at *
        go_upto_region 18 with (fail)
        clear hb2_
        by_cases h28 : m ≤ 2880
        ·
         have hcall := HWC.out _ HB.out
         generalize waterOf true lv = wt at *
         have HCALL := Aside0.mk hcall
         have HSTX := Aside0.mk hst
         clear hcall hst HWC
         by_cases hw : nd ≤ wrap64 (1000 * wt)
         ·
          have hP := HSTX.out.trans (if_pos ⟨h28, hw⟩)
          have HP := Aside0.mk hP
          clear hP HSTX
          go_wp2_with (first | (go_at_call 80; refine HCALL.out.mono ?_; rintro e w10 ⟨rfl, hb10⟩; have HB10 := Aside0.mk (below_step HB.out hb10); have HO10 := Aside0.mk (own_move HO.out (fun b hb => hb10.block b (own_lt HO.out b hb))); clear hb10) | (at_builtin; refine wpList_append_own _ rfl _ _ 27 rfl w.heap.size 3 i0 (.int .i64 0) 1 8 Try.underlying27 hi hz0 hz1 hz2 rfl (by decide) _ _ _ rfl (HO10.out.alloc _) ⟨w10.heap.size, 0, none⟩ 1 1 [.int .i64 m] rfl rfl (cell_one_new _ _ _) (by simp [Value.oneCell']) (by unfold maxLen; omega) (by omega) (by have := HB10.out.size; simp; omega) ?_; intro v' w11 hown' hgrow _))
          go_roundg (x.sills.length - (k + 1))
          case measure => omega
          case rel =>
           refine ⟨k + 1, m, acc ++ [m], by omega, by omega, by go_num, rfl, by simp; omega, ⟨?_⟩, ⟨by simpa using hown'⟩, ⟨grow_below HB10.out HO10.out hgrow⟩⟩
           have hf := HF.out
           rw [HP.out] at hf
           simpa using hf
         ·
          have hP := HSTX.out.trans (if_neg (fun h => hw h.2))
          have HP := Aside0.mk hP.symm
          clear hP HSTX
          go_wp2_with (go_at_call 80; refine HCALL.out.mono ?_; rintro e w10 ⟨rfl, hb10⟩; have HB10 := Aside0.mk (below_step HB.out hb10); have HO10 := Aside0.mk (own_move HO.out (fun b hb => hb10.block b (own_lt HO.out b hb))); have BK10 := Aside0.mk (blk_below B10.out hb10); clear hb10)
          go_roundg (sl.f1.length - (j + 1))
          case measure => omega
          case rel => exact ⟨j + 1, m, by omega, by omega, by go_num, rfl, HP, HO10, BK10, HB10⟩
        ·
         have hP := hst.trans (if_neg (fun h => h28 h.1))
         have HP := Aside0.mk hP.symm
         clear hP hst HWC
         go_wp2
         go_roundg (sl.f1.length - (j + 1))
         case measure => omega
         case rel => exact ⟨j + 1, m, by omega, by omega, by go_num, rfl, HP, HO, B10, HB⟩
      ·
       have hnz : ¬ (j : Int) + 1 < (sl.f1.length : Int) := by omega
       have hst := HST.out
       rw [if_neg (fun h => hn h.1)] at hst
       clear HST
       have hm_ : (if nw < lv.f0 then lv.f0 else nw) = mx nw lv.f0 := rfl
       generalize mx nw lv.f0 = m at *
       go_upto_region 18 with (fail)
       clear hb2_
       by_cases h28 : m ≤ 2880
       ·
        have hcall := HWC.out _ HB.out
        generalize waterOf true lv = wt at *
        have HCALL := Aside0.mk hcall
        have HSTX := Aside0.mk hst
        clear hcall hst HWC
        by_cases hw : nd ≤ wrap64 (1000 * wt)
        ·
         have hP := HSTX.out.trans (if_pos ⟨h28, hw⟩)
         have HP := Aside0.mk hP
         clear hP HSTX
         go_wp2_with (first | (go_at_call 80; refine HCALL.out.mono ?_; rintro e w10 ⟨rfl, hb10⟩; have HB10 := Aside0.mk (below_step HB.out hb10); have HO10 := Aside0.mk (own_move HO.out (fun b hb => hb10.block b (own_lt HO.out b hb))); clear hb10) | (at_builtin; refine wpList_append_own _ rfl _ _ 27 rfl w.heap.size 3 i0 (.int .i64 0) 1 8 Try.underlying27 hi hz0 hz1 hz2 rfl (by decide) _ _ _ rfl (HO10.out.alloc _) ⟨w10.heap.size, 0, none⟩ 1 1 [.int .i64 m] rfl rfl (cell_one_new _ _ _) (by simp [Value.oneCell']) (by unfold maxLen; omega) (by omega) (by have := HB10.out.size; simp; omega) ?_; intro v' w11 hown' hgrow _))
         go_roundg (x.sills.length - (k + 1))
         case measure => omega
         case rel =>
          refine ⟨k + 1, m, acc ++ [m], by omega, by omega, by go_num, rfl, by simp; omega, ⟨?_⟩, ⟨by simpa using hown'⟩, ⟨grow_below HB10.out HO10.out hgrow⟩⟩
          have hf := HF.out
          rw [HP.out] at hf
          simpa using hf
        ·
         have hP := HSTX.out.trans (if_neg (fun h => hw h.2))
         have HP := Aside0.mk hP.symm
         clear hP HSTX
         go_wp2_with (go_at_call 80; refine HCALL.out.mono ?_; rintro e w10 ⟨rfl, hb10⟩; have HB10 := Aside0.mk (below_step HB.out hb10); have HO10 := Aside0.mk (own_move HO.out (fun b hb => hb10.block b (own_lt HO.out b hb))); have BK10 := Aside0.mk (blk_below B10.out hb10); clear hb10)
         go_roundg (sl.f1.length - (j + 1))
         case measure => omega
         case rel => exact ⟨j + 1, m, by omega, by omega, by go_num, rfl, HP, HO10, BK10, HB10⟩
       ·
        have hP := hst.trans (if_neg (fun h => h28 h.1))
        have HP := Aside0.mk hP.symm
        clear hP hst HWC
        go_wp2
        go_roundg (sl.f1.length - (j + 1))
        case measure => omega
        case rel => exact ⟨j + 1, m, by omega, by omega, by go_num, rfl, HP, HO, B10, HB⟩
     ·
      have : j = sl.f1.length := by omega
      subst this
      have hp := HP.out
      rw [List.drop_length] at hp
      simp only [passW] at hp
      go_wp2
      rw [Exit.noGoto_ret]
      go_ret
      have hf := HF.out
      rw [← hp] at hf
      simp only [List.append_nil] at hf
      rw [← hf]
      exact ⟨_, rfl, R_of_owns .i64 HO.out, HB.out⟩
   ·
    have : k = x.sills.length := by omega
    subst this
    go_wp2
    rw [Exit.noGoto_ret]
    go_ret
    have hf := HF.out
    rw [List.drop_length] at hf
    simp only [sailW, List.append_nil] at hf
    rw [← hf]
    exact ⟨_, rfl, R_of_owns .i64 HO.out, HB.out⟩
def lensOK (sills : List S59) : Prop := sills.length ≤ 100000 ∧ ∀ s, s ∈ sills → s.f1.length ≤ 100000
instance (sills : List S59) : Decidable (lensOK sills) := by unfold lensOK; infer_instance
def overE (soon late : List Int) : List S56 := (List.range late.length).map fun i => ⟨soon.getD i 0, late.getD i 0⟩
def verdictE (n : Nat) (soon late : List Int) : Int := if late.length = n then 1 else if soon.length < n then 2 else 3
def sailR (under leaves : Int) (sills : List S59) (q : Q4) : Option (Int × List S56 × Int) :=
 if (sailO under leaves sills q false).length ≤ (sailO under leaves sills q true).length then some (verdictE sills.length (sailO under leaves sills q true) (sailO under leaves sills q false), overE (sailO under leaves sills q true) (sailO under leaves sills q false), 0) else none
noncomputable def ship_Sail.f (a0_0 : Int) (a0_1 : Int) (a0_2 : Int) (l0_3 : List (S85)) (a0_4 : Int) (l0_5 : List (S59)) (l0_6 : List (S79)) (l1 : List Int) : Option (Int × (List (S56)) × Int) :=
 (stowE a0_0 a0_1 a0_2 l0_3 a0_4 l0_5 l0_6 l1).bind fun e => if e = 0 then (if l1.length ≤ 140737488351232 ∧ lensOK l0_5 then (ladenO a0_0 l0_3 l0_6 l1).bind fun q => sailR a0_1 a0_4 l0_5 q else none) else some (0, [], e)
theorem overE_take (soon late : List Int) (k : Nat) (h : k < late.length) : ((overE soon late).take (k + 1)) = (overE soon late).take k ++ [⟨rd soon (k : Int), rd late (k : Int)⟩] := by
 have hl : k < (overE soon late).length := by simp [overE]; exact h
 rw [List.take_succ_eq_append_getElem hl]
 simp [overE, rd]
theorem SailLens.of {x : VoyV} (h : lensOK x.sills) : SailLens x := ⟨h.1, fun k hk => h.2 _ (by
 have : x.sills.getD k z59 = x.sills[k] := by simp [List.getD, hk]
 rw [this]; exact List.getElem_mem hk)⟩
set_option maxHeartbeats 8000000 in
set_option maxRecDepth 100000 in
theorem sailing_calls (x : VoyV) (A1 : Option Addr) (c1 : Nat) (l1 : List Int) (r1 : Int) (r2 : List S56) (r3 : Int) (w : World) (hx : x.Ok w) (hr1 : Kd.C (Kd.int .i64) w A1 l1.length l1) (hc1 : l1.length ≤ c1) (h : ship_Sail.f x.light x.under x.trim x.holds x.leaves x.sills x.lots l1 = some (r1, r2, r3)) :
  Calls Try.prog 22 #[.agg #[.int .i64 x.light, .int .i64 x.under, .int .i64 x.trim, .slice x.A3 x.holds.length x.c3, .int .i64 x.leaves, .slice x.A5 x.sills.length x.c5, .slice x.A6 x.lots.length x.c6], .slice A1 l1.length c1] w fun e w' => ∃ v1_ : Value, e = .returned (.tuple #[.int .i64 r1, v1_, .int .i64 r3]) ∧ Kd.R k56 56 w' w.heap.size (fun _ => True) v1_ r2 ∧ Below w.heap.size w w' := by
 have hu26 := Try.underlying26
 have hu93 := Try.underlying93
 have hu95 := Try.underlying95
 have hu56 := Try.underlying56
 unfold ship_Sail.f at h
 obtain ⟨er, hst, h⟩ := Option.bind_eq_some_iff.1 h
 obtain ⟨ks, hst⟩ := limO_ev hst
 have HX := Aside0.mk hx
 have HR1 := Aside0.mk hr1
 have HST := Aside0.mk hst
 have H := Aside0.mk h
 clear hx hr1 hst h
 go_enter Try.func22, Try.ntmps22
 go_wp2_with (first | ((with_reducible refine gate_dst (N := 2) rfl ?_); refine box_event ?hg (N := 2) ?hd (cs := #[.int .i64 x.light, .int .i64 x.under, .int .i64 x.trim, .slice x.A3 x.holds.length x.c3, .int .i64 x.leaves, .slice x.A5 x.sills.length x.c5, .slice x.A6 x.lots.length x.c6]) (t := 26) ?hr ?_; (case hd => rfl); (case hg => rfl); (case hr => first | (go_simp; done) | (go_simp; rfl)); intro gb hg w2 hbox hb2; have BK := Aside0.mk hbox; have HB := Aside0.mk hb2; clear hg hbox hb2; have hz0_ := (blk_cell BK.out 0).trans rfl; have hz1_ := (blk_cell BK.out 1).trans rfl; have hz2_ := (blk_cell BK.out 2).trans rfl; have hz3_ := (blk_cell BK.out 3).trans rfl; have hz4_ := (blk_cell BK.out 4).trans rfl; have hz5_ := (blk_cell BK.out 5).trans rfl; have hz6_ := (blk_cell BK.out 6).trans rfl))
 refine (ship_CheckStowage.calls ks x.light x.under x.trim x.A3 x.c3 x.holds x.leaves x.A5 x.c5 x.sills x.A6 x.c6 x.lots A1 c1 l1 er w2 (HX.out.below HB.out).h (HX.out.below HB.out).hc (HX.out.below HB.out).s (HX.out.below HB.out).sc (HX.out.below HB.out).l (HX.out.below HB.out).lc (Kd.C_below HR1.out HB.out) hc1 HST.out).mono ?_
 rintro e w5 ⟨rfl, hb5⟩
 replace BK := Aside0.mk (blk_below BK.out hb5)
 replace HB := Aside0.mk (below_step HB.out hb5)
 clear hb5 hz0_ hz1_ hz2_ hz3_ hz4_ hz5_ hz6_
 by_cases her : er = 0
 case neg =>
  have hh := H.out
  rw [if_neg her] at hh
  have hnb : (er == 0) = false := beq_eq_false_iff_ne.2 her
  simp only [Option.some.injEq, Prod.mk.injEq] at hh
  obtain ⟨rfl, rfl, rfl⟩ := hh
  clear her H
  go_wp2
  go_ret3
  exact ⟨_, rfl, Kd.R_nil _ _ _ _ _, HB.out⟩
 have hh := H.out
 rw [if_pos her] at hh
 by_cases hl1 : l1.length ≤ 140737488351232 ∧ lensOK x.sills
 case neg => rw [if_neg hl1] at hh; cases hh
 rw [if_pos hl1] at hh
 obtain ⟨z, hz, hh⟩ := Option.bind_eq_some_iff.1 hh
 have HLN := Aside0.mk (SailLens.of hl1.2)
 replace hl1 := hl1.1
 subst her
 have HZ := Aside0.mk hz
 have HH := Aside0.mk hh
 clear hz H hh
 have hz0_ := (blk_cell BK.out 0).trans rfl
 have hz1_ := (blk_cell BK.out 1).trans rfl
 have hz2_ := (blk_cell BK.out 2).trans rfl
 have hz3_ := (blk_cell BK.out 3).trans rfl
 have hz4_ := (blk_cell BK.out 4).trans rfl
 have hz5_ := (blk_cell BK.out 5).trans rfl
 have hz6_ := (blk_cell BK.out 6).trans rfl
 go_wp2_with (fail)
 refine (laden_calls x A1 c1 l1 z w5 (HX.out.below HB.out) (Kd.C_below HR1.out HB.out) hc1 hl1 HZ.out).mono ?_
 rintro e w6 ⟨rfl, hb6⟩
 replace BK := Aside0.mk (blk_below BK.out hb6)
 replace HB := Aside0.mk (below_step HB.out hb6)
 clear hb6 hz0_ hz1_ hz2_ hz3_ hz4_ hz5_ hz6_
 go_upto_region 5 with (fail)
 obtain ⟨g8, hg_⟩ : ∃ b, b = w6.heap.size := ⟨_, rfl⟩
 have Ng8 := Aside0.mk (blk_new w6 (.cells #[.int .i64 x.light, .int .i64 x.under, .int .i64 x.trim, .slice x.A3 x.holds.length x.c3, .int .i64 x.leaves, .slice x.A5 x.sills.length x.c5, .slice x.A6 x.lots.length x.c6, .int .i64 z.b0, .int .i64 z.b1, .int .i64 z.h0, .int .i64 z.h1] 95 (0, 0)))
 have hbw : Below w6.heap.size w6 (w6.alloc (.cells #[.int .i64 x.light, .int .i64 x.under, .int .i64 x.trim, .slice x.A3 x.holds.length x.c3, .int .i64 x.leaves, .slice x.A5 x.sills.length x.c5, .slice x.A6 x.lots.length x.c6, .int .i64 z.b0, .int .i64 z.b1, .int .i64 z.h0, .int .i64 z.h1] 95 (0, 0))) := below_alloc (Below.refl _ _) _
 have hgs_ : w.heap.size ≤ g8 := by rw [hg_]; exact HB.out.size
 generalize hw_ : w6.alloc (.cells #[.int .i64 x.light, .int .i64 x.under, .int .i64 x.trim, .slice x.A3 x.holds.length x.c3, .int .i64 x.leaves, .slice x.A5 x.sills.length x.c5, .slice x.A6 x.lots.length x.c6, .int .i64 z.b0, .int .i64 z.b1, .int .i64 z.h0, .int .i64 z.h1] 95 (0, 0)) = w7 at *
 rw [← hg_] at Ng8 ⊢
 replace BK := Aside0.mk (blk_below BK.out hbw)
 replace HB := Aside0.mk (below_step HB.out hbw)
 have GEg8 : Aside0 (w.heap.size ≤ g8) := ⟨hgs_⟩
 clear hbw hw_ hg_ hgs_
 have hz0_ := (blk_cell Ng8.out 0).trans rfl
 have hz1_ := (blk_cell Ng8.out 1).trans rfl
 have hz2_ := (blk_cell Ng8.out 2).trans rfl
 have hz3_ := (blk_cell Ng8.out 3).trans rfl
 have hz4_ := (blk_cell Ng8.out 4).trans rfl
 have hz5_ := (blk_cell Ng8.out 5).trans rfl
 have hz6_ := (blk_cell Ng8.out 6).trans rfl
 have hz7_ := (blk_cell Ng8.out 7).trans rfl
 have hz8_ := (blk_cell Ng8.out 8).trans rfl
 have hz9_ := (blk_cell Ng8.out 9).trans rfl
 have hz10_ := (blk_cell Ng8.out 10).trans rfl
 have hd_ := below_drew1 (Below.refl w7.heap.size w7)
 replace BK := Aside0.mk (blk_drew BK.out)
 replace HB := Aside0.mk (below_step HB.out hd_)
 clear hd_
 have hsl := sailW_len true x.sills x.leaves (needsW x.under z true)
 have hll := sailW_len false x.sills x.leaves (needsW x.under z false)
 obtain ⟨so, hso⟩ : ∃ l, sailO x.under x.leaves x.sills z true = l := ⟨_, rfl⟩
 obtain ⟨la, hla⟩ : ∃ l, sailO x.under x.leaves x.sills z false = l := ⟨_, rfl⟩
 have HC1 := Aside0.mk (fun W (hb : Below w.heap.size w W) => sail_calls x z true W (HX.out.below hb) HLN.out)
 have HC2 := Aside0.mk (fun W (hb : Below w.heap.size w W) => sail_calls x z false W (HX.out.below hb) HLN.out)
 rw [hso] at HC1
 rw [hla] at HC2
 have HH2 := HH.out
 unfold sailR at HH2
 rw [hso, hla] at HH2
 have hls := HLN.out.s
 have hsl : so.length ≤ x.sills.length := by rw [← hso]; exact hsl
 have hll : la.length ≤ x.sills.length := by rw [← hla]; exact hll
 by_cases hsm : la.length ≤ so.length
 case neg => rw [if_neg hsm] at HH2; cases HH2
 rw [if_pos hsm] at HH2
 simp only [Option.some.injEq, Prod.mk.injEq] at HH2
 obtain ⟨hr1, hr2, hr3⟩ := HH2
 subst hr1; subst hr2; subst hr3
 clear hso hla HH HZ
 refine start_ (n := 6) (S := fun w' => w'.cell? ⟨g8, 0, none⟩ = some (.int .i64 x.light) ∧ w'.cell? ⟨g8, 1, none⟩ = some (.int .i64 x.under) ∧ w'.cell? ⟨g8, 2, none⟩ = some (.int .i64 x.trim) ∧ w'.cell? ⟨g8, 3, none⟩ = some (.slice x.A3 x.holds.length x.c3) ∧ w'.cell? ⟨g8, 4, none⟩ = some (.int .i64 x.leaves) ∧ w'.cell? ⟨g8, 5, none⟩ = some (.slice x.A5 x.sills.length x.c5) ∧ w'.cell? ⟨g8, 6, none⟩ = some (.slice x.A6 x.lots.length x.c6) ∧ w'.cell? ⟨g8, 7, none⟩ = some (.int .i64 z.b0) ∧ w'.cell? ⟨g8, 8, none⟩ = some (.int .i64 z.b1) ∧ w'.cell? ⟨g8, 9, none⟩ = some (.int .i64 z.h0) ∧ w'.cell? ⟨g8, 10, none⟩ = some (.int .i64 z.h1)) (ds := []) #[false, false, false, false, false, false] (by kernel_rfl) rfl rfl ⟨hz0_, hz1_, hz2_, hz3_, hz4_, hz5_, hz6_, hz7_, hz8_, hz9_, hz10_⟩ (fun hHeld => ?_)
 generalize w7.drew = w8 at BK HB hHeld ⊢
 refine take_ (i := 0) (N := some 22) (v := ?_) (a' := ?_) #[true, false, false, false, false, false] rfl rfl (by kernel_rfl) (fun _ _ _ h => h) (Or.inl ⟨by rfl, ?_⟩) hHeld ?_ ?_
 rotate_left; (rintro w' ⟨s0, s1, s2, s3, s4, s5, s6, s7, s8, s9, s10⟩; go_simp; with_reducible rfl); rotate_left; (simp only [Act.put, put_x, i64_w, i32_w]; rfl)
 refine take_ (i := 2) (N := some 24) (v := ?_) (a' := ?_) #[true, false, true, false, false, false] rfl rfl (by kernel_rfl) (fun _ _ _ h => h) (Or.inl ⟨by rfl, ?_⟩) hHeld ?_ ?_
 rotate_left; (rintro w' ⟨s0, s1, s2, s3, s4, s5, s6, s7, s8, s9, s10⟩; go_simp; with_reducible rfl); rotate_left; (simp only [Act.put, put_x, i64_w, i32_w]; rfl)
 refine one_ (i := 1) (N := some 23) #[true, true, true, false, false, false] rfl rfl (by kernel_rfl) (by decide) (fun K hK => ?_)
 refine goes_ Try.func56 (by kernel_rfl) rfl #[.agg #[.int .i64 x.light, .int .i64 x.under, .int .i64 x.trim, .slice x.A3 x.holds.length x.c3, .int .i64 x.leaves, .slice x.A5 x.sills.length x.c5, .slice x.A6 x.lots.length x.c6, .int .i64 z.b0, .int .i64 z.b1, .int .i64 z.h0, .int .i64 z.h1], .bool true] (by rfl) rfl rfl (by (try simp only [List.map_toArray, List.map_cons, List.map_nil]); first | done | rfl) ?_
 with_reducible refine (HC1.out _ HB.out).mono ?_
 rintro e w9 ⟨v_, rfl, hr_, hb1_⟩
 obtain ⟨As, cs, rfl⟩ := Kd.R_slice hr_
 have RS := Aside0.mk (Kd.R_reads' hr_).2.2
 replace BK := Aside0.mk (blk_below BK.out hb1_)
 replace HB := Aside0.mk (below_step HB.out hb1_)
 clear hr_
 refine ⟨_, rfl, ?_⟩
 refine hK.out _ _ ⟨(hb1_.cell (World.block_lt_of_cell? _ _ (hHeld.1))).trans (hHeld.1), (hb1_.cell (World.block_lt_of_cell? _ _ (hHeld.2.1))).trans (hHeld.2.1), (hb1_.cell (World.block_lt_of_cell? _ _ (hHeld.2.2.1))).trans (hHeld.2.2.1), (hb1_.cell (World.block_lt_of_cell? _ _ (hHeld.2.2.2.1))).trans (hHeld.2.2.2.1), (hb1_.cell (World.block_lt_of_cell? _ _ (hHeld.2.2.2.2.1))).trans (hHeld.2.2.2.2.1), (hb1_.cell (World.block_lt_of_cell? _ _ (hHeld.2.2.2.2.2.1))).trans (hHeld.2.2.2.2.2.1), (hb1_.cell (World.block_lt_of_cell? _ _ (hHeld.2.2.2.2.2.2.1))).trans (hHeld.2.2.2.2.2.2.1), (hb1_.cell (World.block_lt_of_cell? _ _ (hHeld.2.2.2.2.2.2.2.1))).trans (hHeld.2.2.2.2.2.2.2.1), (hb1_.cell (World.block_lt_of_cell? _ _ (hHeld.2.2.2.2.2.2.2.2.1))).trans (hHeld.2.2.2.2.2.2.2.2.1), (hb1_.cell (World.block_lt_of_cell? _ _ (hHeld.2.2.2.2.2.2.2.2.2.1))).trans (hHeld.2.2.2.2.2.2.2.2.2.1), (hb1_.cell (World.block_lt_of_cell? _ _ (hHeld.2.2.2.2.2.2.2.2.2.2))).trans (hHeld.2.2.2.2.2.2.2.2.2.2)⟩ (fun hHeld => ?_)
 clear hK K
 refine norm_ (a' := ?_) ?_ ?_; rotate_left; (show Act.put _ (some 23) _ = _; simp only [Act.put, put_x, i64_w, i32_w]; rfl)
 refine one_ (i := 3) (N := some 25) #[true, true, true, true, false, false] rfl rfl (by kernel_rfl) (by decide) (fun K hK => ?_)
 refine goes_ Try.func56 (by kernel_rfl) rfl #[.agg #[.int .i64 x.light, .int .i64 x.under, .int .i64 x.trim, .slice x.A3 x.holds.length x.c3, .int .i64 x.leaves, .slice x.A5 x.sills.length x.c5, .slice x.A6 x.lots.length x.c6, .int .i64 z.b0, .int .i64 z.b1, .int .i64 z.h0, .int .i64 z.h1], .bool false] (by rfl) rfl rfl (by (try simp only [List.map_toArray, List.map_cons, List.map_nil]); first | done | rfl) ?_
 with_reducible refine (HC2.out _ HB.out).mono ?_
 rintro e w10 ⟨v_, rfl, hr_, hb3_⟩
 obtain ⟨Al, cl, rfl⟩ := Kd.R_slice hr_
 have RL := Aside0.mk (Kd.R_reads' hr_).2.2
 replace BK := Aside0.mk (blk_below BK.out hb3_)
 replace HB := Aside0.mk (below_step HB.out hb3_)
 replace RS := Aside0.mk (Kd.C_below RS.out hb3_)
 clear hr_
 refine ⟨_, rfl, ?_⟩
 refine hK.out _ _ ⟨(hb3_.cell (World.block_lt_of_cell? _ _ (hHeld.1))).trans (hHeld.1), (hb3_.cell (World.block_lt_of_cell? _ _ (hHeld.2.1))).trans (hHeld.2.1), (hb3_.cell (World.block_lt_of_cell? _ _ (hHeld.2.2.1))).trans (hHeld.2.2.1), (hb3_.cell (World.block_lt_of_cell? _ _ (hHeld.2.2.2.1))).trans (hHeld.2.2.2.1), (hb3_.cell (World.block_lt_of_cell? _ _ (hHeld.2.2.2.2.1))).trans (hHeld.2.2.2.2.1), (hb3_.cell (World.block_lt_of_cell? _ _ (hHeld.2.2.2.2.2.1))).trans (hHeld.2.2.2.2.2.1), (hb3_.cell (World.block_lt_of_cell? _ _ (hHeld.2.2.2.2.2.2.1))).trans (hHeld.2.2.2.2.2.2.1), (hb3_.cell (World.block_lt_of_cell? _ _ (hHeld.2.2.2.2.2.2.2.1))).trans (hHeld.2.2.2.2.2.2.2.1), (hb3_.cell (World.block_lt_of_cell? _ _ (hHeld.2.2.2.2.2.2.2.2.1))).trans (hHeld.2.2.2.2.2.2.2.2.1), (hb3_.cell (World.block_lt_of_cell? _ _ (hHeld.2.2.2.2.2.2.2.2.2.1))).trans (hHeld.2.2.2.2.2.2.2.2.2.1), (hb3_.cell (World.block_lt_of_cell? _ _ (hHeld.2.2.2.2.2.2.2.2.2.2))).trans (hHeld.2.2.2.2.2.2.2.2.2.2)⟩ (fun hHeld => ?_)
 clear hK K
 refine norm_ (a' := ?_) ?_ ?_; rotate_left; (show Act.put _ (some 25) _ = _; simp only [Act.put, put_x, i64_w, i32_w]; rfl)
 refine pure_y 4 (some 9) #[true, true, true, true, true, false] ?_
 refine pure_y 5 (some 10) #[true, true, true, true, true, true] ?_
 refine done_ (by kernel_rfl) ?_
 clear hHeld hb1_ hb3_ HC1 HC2 Ng8 hz0_ hz1_ hz2_ hz3_ hz4_ hz5_ hz6_ hz7_ hz8_ hz9_ hz10_
 go_wp2
 have hov : (overE so la).length = la.length := by simp [overE]
 go_loopg [28, 5] la.length (fun gk v28 v5 wr => ∃ k : Nat, k ≤ la.length ∧ la.length - k ≤ gk ∧ v28 = .int .i64 k ∧ Aside0 (Kd.R k56 56 wr w10.heap.size (fun _ => True) v5 ((overE so la).take k)) ∧ Aside0 (wr.heap[gb]? = some (.cells #[.int .i64 x.light, .int .i64 x.under, .int .i64 x.trim, .slice x.A3 x.holds.length x.c3, .int .i64 x.leaves, .slice x.A5 x.sills.length x.c5, .slice x.A6 x.lots.length x.c6] 26 (0, 0))) ∧ Aside0 (Below w10.heap.size w10 wr))
 case atStart => exact ⟨0, by omega, by omega, rfl, ⟨Kd.R_nil _ _ _ _ _⟩, BK, ⟨Below.refl _ _⟩⟩
 case round =>
  clear BK
  obtain ⟨k, hk, hgk, rfl, HO, BK, HBr⟩ := hrel
  by_cases hlt : k < la.length
  ·
   have hlz : (k : Int) < (la.length : Int) := by omega
   have hlz2 : (k : Int) < (so.length : Int) := by omega
   obtain ⟨ada, e, h0⟩ := Kd.at_int RL.out (k : Int) (by omega) hlz
   cases e
   obtain ⟨ads, e, h1⟩ := Kd.at_int RS.out (k : Int) (by omega) hlz2
   cases e
   rw [Int.toNat_natCast] at h0 h1
   replace h0 := (HBr.out.cell (World.block_lt_of_cell? w10 _ h0)).trans h0
   replace h1 := (HBr.out.cell (World.block_lt_of_cell? w10 _ h1)).trans h1
   have HTK := Aside0.mk (overE_take so la k hlt)
   have htl : ((overE so la).take k).length = k := by rw [List.length_take, hov]; omega
   generalize (overE so la).take k = xs at *
   generalize rd la (k : Int) = b at *
   generalize rd so (k : Int) = a at *
   go_wp2_with (first | ((with_reducible refine gate_builtin (b := .append) (xs := #[.tmp 33, .tmp 40]) rfl ?_); (try (refine gate_guard (by rfl) ?_; dsimp only)); at_builtin; refine Kd.R_append k56 w10.heap.size rfl (.tmp 33) (.tmp 40) 39 56 (.agg #[(.int .i64 0), (.int .i64 0)]) 16 rfl Try.underlying39 info56 rfl (by decide) (by omega) _ xs ⟨a, b⟩ [.int .i64 a, .int .i64 b] (fun _ => True) (fun _ => False) rfl rfl ?aP (fun _ hk => hk.elim) ?aF ?aO HBr.out ?aS ?aL ?_; (case aP => exact k56_mkM _ _ _ ⟨a, b⟩); (case aF => exact (fun _ _ => trivial)); (case aO => exact HO.out); (case aS => exact HBr.out.size); (case aL => omega); intro v9 w11 ho hb hg hat; have HO2 := Aside0.mk ho; have HBr2 := Aside0.mk hb; have BK2 := Aside0.mk (blk_grown BK.out hg (Kd.R_ne HO.out BK.out (by decide))); clear ho hb hg hat))
   go_roundg (la.length - (k + 1))
   case measure => omega
   case rel => exact ⟨k + 1, by omega, by omega, by go_num, ⟨by rw [HTK.out]; exact HO2.out⟩, BK2, HBr2⟩
  ·
   have : k = la.length := by omega
   subst this
   have HOe := HO.out
   rw [← hov, List.take_length] at HOe
   have HOF := Aside0.mk (Kd.R_lower HOe HB.out.size)
   have HBF := Aside0.mk (below_step HB.out HBr.out)
   have hz5_ := (blk_cell BK.out 5).trans rfl
   clear HOe HO HBr
   by_cases hv1 : la.length = x.sills.length
   ·
    have hv : verdictE x.sills.length so la = 1 := if_pos hv1
    have HV := Aside0.mk hv
    have hb1 : ((la.length : Int) == (x.sills.length : Int)) = true := beq_iff_eq.2 (by omega)
    clear hv
    go_wp2
    go_ret3
    refine ⟨_, ?_, HOF.out, HBF.out⟩
    rw [HV.out]; rfl
   ·
    have hb1 : ((la.length : Int) == (x.sills.length : Int)) = false := beq_eq_false_iff_ne.2 (by omega)
    by_cases hv2 : so.length < x.sills.length
    ·
     have hv : verdictE x.sills.length so la = 2 := (if_neg hv1).trans (if_pos hv2)
     have HV := Aside0.mk hv
     have hb2 : decide ((so.length : Int) < (x.sills.length : Int)) = true := decide_eq_true (by omega)
     clear hv
     go_wp2
     go_ret3
     refine ⟨_, ?_, HOF.out, HBF.out⟩
     rw [HV.out]; rfl
    ·
     have hv : verdictE x.sills.length so la = 3 := (if_neg hv1).trans (if_neg hv2)
     have HV := Aside0.mk hv
     have hb2 : decide ((so.length : Int) < (x.sills.length : Int)) = false := decide_eq_false (by omega)
     clear hv
     go_wp2
     go_ret3
     refine ⟨_, ?_, HOF.out, HBF.out⟩
     rw [HV.out]; rfl
theorem ship_Sail.calls (a0_0 : Int) (a0_1 : Int) (a0_2 : Int) (A0_3 : Option Addr) (c0_3 : Nat) (l0_3 : List (S85)) (a0_4 : Int) (A0_5 : Option Addr) (c0_5 : Nat) (l0_5 : List (S59)) (A0_6 : Option Addr) (c0_6 : Nat) (l0_6 : List (S79)) (A1 : Option Addr) (c1 : Nat) (l1 : List Int) (r1 : Int) (r2 : List (S56)) (r3 : Int) (w : World) (hr0_3 : Kd.C k85 w A0_3 l0_3.length l0_3) (hc0_3 : l0_3.length ≤ c0_3) (hr0_5 : Kd.C k59 w A0_5 l0_5.length l0_5) (hc0_5 : l0_5.length ≤ c0_5) (hr0_6 : Kd.C k79 w A0_6 l0_6.length l0_6) (hc0_6 : l0_6.length ≤ c0_6) (hr1 : Kd.C (Kd.int .i64) w A1 l1.length l1) (hc1 : l1.length ≤ c1) (h : ship_Sail.f a0_0 a0_1 a0_2 l0_3 a0_4 l0_5 l0_6 l1 = some (r1, r2, r3)) :
  Calls Try.prog 22 #[.agg #[.int .i64 a0_0, .int .i64 a0_1, .int .i64 a0_2, .slice A0_3 l0_3.length c0_3, .int .i64 a0_4, .slice A0_5 l0_5.length c0_5, .slice A0_6 l0_6.length c0_6], .slice A1 l1.length c1] w fun e w' => ∃ v1_ : Value, e = .returned (.tuple #[.int .i64 r1, v1_, .int .i64 r3]) ∧ Kd.R k56 56 w' w.heap.size (fun _ => True) v1_ r2 ∧ Below w.heap.size w w' := sailing_calls ⟨a0_0, a0_1, a0_2, A0_3, c0_3, l0_3, a0_4, A0_5, c0_5, l0_5, A0_6, c0_6, l0_6⟩ A1 c1 l1 r1 r2 r3 w ⟨hr0_3, hc0_3, hr0_5, hc0_5, hr0_6, hc0_6⟩ hr1 hc1 h
theorem eq93 (a b c d : Int) (w : World) : (Op.equalIn 10000 93 (.agg #[.int .i64 a, .int .i64 b]) (.agg #[.int .i64 c, .int .i64 d])).run Try.prog w = .ok (a == c && b == d) w := by
 obtain ⟨i, hi, _⟩ := info_parts infoInt
 rw [show (10000 : Nat) = 9999 + 1 from rfl, run_equalIn_array w 9999 _ _ Try.underlying93 hi]
 have h3 : ∀ x y : Int, (Op.equalIn 9999 3 (.int .i64 x) (.int .i64 y)).run Try.prog w = .ok (x == y) w := fun x y => run_equalIn_int w 9998 3 .i64 .i64 x y Try.underlying3
 have hc : Try.prog.cellsOf 3 = 1 := by kernel_rfl
 simp [List.range_succ, Op.eqItems, hc, h3, go_sem]
 by_cases h1 : a = c <;> by_cases h2 : b = d <;> simp [h1, h2]
noncomputable def ship_Drafts.f (a0_0 : Int) (a0_1 : Int) (a0_2 : Int) (l0_3 : List (S85)) (a0_4 : Int) (l0_5 : List (S59)) (l0_6 : List (S79)) (l1 : List Int) : Option (Int × Int × Int × Int × Int) :=
 (stowE a0_0 a0_1 a0_2 l0_3 a0_4 l0_5 l0_6 l1).bind fun e => if e = 0 then (if l1.length ≤ 140737488351232 then (ladenO a0_0 l0_3 l0_6 l1).bind fun q => some (q.b0, q.h0, q.b1, q.h1, 0) else none) else some (0, 0, 0, 0, e)
set_option maxHeartbeats 8000000 in
set_option maxRecDepth 100000 in
theorem drafts_calls (x : VoyV) (A1 : Option Addr) (c1 : Nat) (l1 : List Int) (r1 r2 r3 r4 r5 : Int) (w : World) (hx : x.Ok w) (hr1 : Kd.C (Kd.int .i64) w A1 l1.length l1) (hc1 : l1.length ≤ c1) (h : ship_Drafts.f x.light x.under x.trim x.holds x.leaves x.sills x.lots l1 = some (r1, r2, r3, r4, r5)) :
  Calls Try.prog 35 #[.agg #[.int .i64 x.light, .int .i64 x.under, .int .i64 x.trim, .slice x.A3 x.holds.length x.c3, .int .i64 x.leaves, .slice x.A5 x.sills.length x.c5, .slice x.A6 x.lots.length x.c6], .slice A1 l1.length c1] w fun e w' => e = .returned (.tuple #[.agg #[.int .i64 r1, .int .i64 r2], .agg #[.int .i64 r3, .int .i64 r4], .int .i64 r5]) ∧ Below w.heap.size w w' := by
 have hu26 := Try.underlying26
 have hu93 := Try.underlying93
 have hu95 := Try.underlying95
 have hu56 := Try.underlying56
 unfold ship_Drafts.f at h
 obtain ⟨er, hst, h⟩ := Option.bind_eq_some_iff.1 h
 obtain ⟨ks, hst⟩ := limO_ev hst
 have HX := Aside0.mk hx
 have HR1 := Aside0.mk hr1
 have HST := Aside0.mk hst
 have H := Aside0.mk h
 clear hx hr1 hst h
 go_enter Try.func35, Try.ntmps35
 go_wp2_with (first
  | ((with_reducible refine gate_dst (N := 2) rfl ?_); refine box_event ?hg (N := 2) ?hd (cs := #[.int .i64 x.light, .int .i64 x.under, .int .i64 x.trim, .slice x.A3 x.holds.length x.c3, .int .i64 x.leaves, .slice x.A5 x.sills.length x.c5, .slice x.A6 x.lots.length x.c6]) (t := 26) ?hr ?_; (case hd => rfl); (case hg => rfl); (case hr => first | (go_simp; done) | (go_simp; rfl)); intro gb hg w2 hbox hb; have BK := Aside0.mk hbox; have HB := Aside0.mk hb; clear hg hbox hb)
  | ((with_reducible refine gate_dst (N := 4) rfl ?_); refine box_event ?hg (N := 4) ?hd (cs := #[.int .i64 0, .int .i64 0]) (t := 56) ?hr ?_; (case hd => rfl); (case hg => rfl); (case hr => first | (go_simp; done) | (go_simp; rfl)); intro g4 hg w3 hbox hb; have B4 := Aside0.mk hbox; replace BK := Aside0.mk (blk_below BK.out hb); have GE4 : Aside0 (w.heap.size ≤ g4) := ⟨by rw [hg]; exact HB.out.size⟩; replace HB := Aside0.mk (below_step HB.out hb); clear hg hbox hb)
  | ((with_reducible refine gate_dst (N := 5) rfl ?_); refine box_event ?hg (N := 5) ?hd (cs := #[.int .i64 0, .int .i64 0]) (t := 56) ?hr ?_; (case hd => rfl); (case hg => rfl); (case hr => first | (go_simp; done) | (go_simp; rfl)); intro g5 hg w4 hbox hb; have B5 := Aside0.mk hbox; replace BK := Aside0.mk (blk_below BK.out hb); have N45 : Aside0 (g4 ≠ g5) := ⟨by have := blk_lt B4.out; omega⟩; replace B4 := Aside0.mk (blk_below B4.out hb); have GE5 : Aside0 (w.heap.size ≤ g5) := ⟨by rw [hg]; exact HB.out.size⟩; replace HB := Aside0.mk (below_step HB.out hb); have hz0_ := (blk_cell BK.out 0).trans rfl; have hz1_ := (blk_cell BK.out 1).trans rfl; have hz2_ := (blk_cell BK.out 2).trans rfl; have hz3_ := (blk_cell BK.out 3).trans rfl; have hz4_ := (blk_cell BK.out 4).trans rfl; have hz5_ := (blk_cell BK.out 5).trans rfl; have hz6_ := (blk_cell BK.out 6).trans rfl; clear hg hbox hb))
 refine (ship_CheckStowage.calls ks x.light x.under x.trim x.A3 x.c3 x.holds x.leaves x.A5 x.c5 x.sills x.A6 x.c6 x.lots A1 c1 l1 er w4 (HX.out.below HB.out).h (HX.out.below HB.out).hc (HX.out.below HB.out).s (HX.out.below HB.out).sc (HX.out.below HB.out).l (HX.out.below HB.out).lc (Kd.C_below HR1.out HB.out) hc1 HST.out).mono ?_
 rintro e w5 ⟨rfl, hb5⟩
 replace BK := Aside0.mk (blk_below BK.out hb5)
 replace B4 := Aside0.mk (blk_below B4.out hb5)
 replace B5 := Aside0.mk (blk_below B5.out hb5)
 replace HB := Aside0.mk (below_step HB.out hb5)
 clear hb5 hz0_ hz1_ hz2_ hz3_ hz4_ hz5_ hz6_
 by_cases her : er = 0
 case neg =>
  have hh := H.out
  rw [if_neg her] at hh
  have hnb : (er == 0) = false := beq_eq_false_iff_ne.2 her
  simp only [Option.some.injEq, Prod.mk.injEq] at hh
  obtain ⟨rfl, rfl, rfl, rfl, rfl⟩ := hh
  clear her H
  have hy0_ := (blk_cell B4.out 0).trans rfl
  have hy1_ := (blk_cell B4.out 1).trans rfl
  have F5 := Aside0.mk (blk_far (blk_far B5.out (p := ⟨g4, 0, none⟩) N45.out.symm (.int .i64 0)) (p := ⟨g4, 1, none⟩) N45.out.symm (.int .i64 0))
  have hy2_ := (blk_cell F5.out 0).trans rfl
  have hy3_ := (blk_cell F5.out 1).trans rfl
  have hf4_ := blk_frozen B4.out
  have hf5_ := blk_frozen F5.out
  go_wp2
  have P4 := Aside0.mk (blk_far (blk_far (blk_put (cs' := #[.int .i64 0, .int .i64 0]) (blk_set B4.out 0 (.int .i64 0)) 1 (.int .i64 0) rfl) (p := ⟨g5, 0, none⟩) N45.out (.int .i64 0)) (p := ⟨g5, 1, none⟩) N45.out (.int .i64 0))
  have P5 := Aside0.mk (blk_put (cs' := #[.int .i64 0, .int .i64 0]) (blk_set F5.out 0 (.int .i64 0)) 1 (.int .i64 0) rfl)
  have HBe := Aside0.mk (below_set (j := 1) (v := .int .i64 0) (below_set (j := 0) (v := .int .i64 0) (below_set (j := 1) (v := .int .i64 0) (below_set (j := 0) (v := .int .i64 0) HB.out GE4.out) GE4.out) GE5.out) GE5.out)
  exact bodyPost_ret (results_list (rs := [.cell 4 56, .cell 5 56, .tmp 6]) rfl (by simp) (.cell g4 56 #[.int .i64 0, .int .i64 0] (0, 0) _ rfl P4.out Try.underlying56 rfl (by kernel_rfl) (.cell g5 56 #[.int .i64 0, .int .i64 0] (0, 0) _ rfl P5.out Try.underlying56 rfl (by kernel_rfl) (.tmp .nil)))) rfl ⟨rfl, HBe.out⟩
 have hh := H.out
 rw [if_pos her] at hh
 by_cases hl1 : l1.length ≤ 140737488351232
 case neg => rw [if_neg hl1] at hh; cases hh
 rw [if_pos hl1] at hh
 obtain ⟨z, hz, hh⟩ := Option.bind_eq_some_iff.1 hh
 simp only [Option.some.injEq, Prod.mk.injEq] at hh
 obtain ⟨rfl, rfl, rfl, rfl, rfl⟩ := hh
 subst her
 have HZ := Aside0.mk hz
 clear hz H
 have hz0_ := (blk_cell BK.out 0).trans rfl
 have hz1_ := (blk_cell BK.out 1).trans rfl
 have hz2_ := (blk_cell BK.out 2).trans rfl
 have hz3_ := (blk_cell BK.out 3).trans rfl
 have hz4_ := (blk_cell BK.out 4).trans rfl
 have hz5_ := (blk_cell BK.out 5).trans rfl
 have hz6_ := (blk_cell BK.out 6).trans rfl
 go_wp2_with (fail)
 refine (laden_calls x A1 c1 l1 z w5 (HX.out.below HB.out) (Kd.C_below HR1.out HB.out) hc1 hl1 HZ.out).mono ?_
 rintro e w6 ⟨rfl, hb6⟩
 replace B4 := Aside0.mk (blk_below B4.out hb6)
 replace B5 := Aside0.mk (blk_below B5.out hb6)
 replace HB := Aside0.mk (below_step HB.out hb6)
 clear hb6 BK hz0_ hz1_ hz2_ hz3_ hz4_ hz5_ hz6_
 go_upto_region 5 with (fail)
 obtain ⟨g8, hg_⟩ : ∃ b, b = w6.heap.size := ⟨_, rfl⟩
 have Ng8 := Aside0.mk (blk_new w6 (.cells #[.int .i64 x.light, .int .i64 x.under, .int .i64 x.trim, .slice x.A3 x.holds.length x.c3, .int .i64 x.leaves, .slice x.A5 x.sills.length x.c5, .slice x.A6 x.lots.length x.c6, .int .i64 z.b0, .int .i64 z.b1, .int .i64 z.h0, .int .i64 z.h1] 95 (0, 0)))
 have hbw : Below w6.heap.size w6 (w6.alloc (.cells #[.int .i64 x.light, .int .i64 x.under, .int .i64 x.trim, .slice x.A3 x.holds.length x.c3, .int .i64 x.leaves, .slice x.A5 x.sills.length x.c5, .slice x.A6 x.lots.length x.c6, .int .i64 z.b0, .int .i64 z.b1, .int .i64 z.h0, .int .i64 z.h1] 95 (0, 0))) := below_alloc (Below.refl _ _) _
 have hgs_ : w.heap.size ≤ g8 := by rw [hg_]; exact HB.out.size
 generalize hw_ : w6.alloc (.cells #[.int .i64 x.light, .int .i64 x.under, .int .i64 x.trim, .slice x.A3 x.holds.length x.c3, .int .i64 x.leaves, .slice x.A5 x.sills.length x.c5, .slice x.A6 x.lots.length x.c6, .int .i64 z.b0, .int .i64 z.b1, .int .i64 z.h0, .int .i64 z.h1] 95 (0, 0)) = w7 at *
 rw [← hg_] at Ng8 ⊢
 replace B4 := Aside0.mk (blk_below B4.out hbw)
 replace B5 := Aside0.mk (blk_below B5.out hbw)
 replace HB := Aside0.mk (below_step HB.out hbw)
 have GEg8 : Aside0 (w.heap.size ≤ g8) := ⟨hgs_⟩
 clear hbw hw_ hg_ hgs_
 by_cases heq : z.b0 = z.h0 ∧ z.b1 = z.h1
 ·
  skip
  have hE : ∀ w : World, (Op.equalIn 10000 93 (.agg #[.int .i64 z.b0, .int .i64 z.b1]) (.agg #[.int .i64 z.h0, .int .i64 z.h1])).run Try.prog w = .ok true w := fun w => by rw [eq93]; congr 1; simp; exact heq
  have HEQ := Aside0.mk heq
  clear heq
  have hz7_ := (blk_cell Ng8.out 7).trans rfl
  have hz8_ := (blk_cell Ng8.out 8).trans rfl
  have hz9_ := (blk_cell Ng8.out 9).trans rfl
  have hz10_ := (blk_cell Ng8.out 10).trans rfl
  go_upto_region 6 with (fail)
  clear hE
  have hd_ := below_drew1 (Below.refl w7.heap.size w7)
  replace B4 := Aside0.mk (blk_drew B4.out)
  replace B5 := Aside0.mk (blk_drew B5.out)
  have B8 := Aside0.mk (blk_drew Ng8.out)
  replace HB := Aside0.mk (below_step HB.out hd_)
  clear hd_ Ng8
  refine start_ (n := 17) (S := fun w' => w'.cell? ⟨g8, 7, none⟩ = some (.int .i64 z.b0) ∧ w'.cell? ⟨g8, 8, none⟩ = some (.int .i64 z.b1)) (ds := [15]) #[false, false, false, false, false, false, false, false, false, false, false, false, false, false, false, false, false] (by kernel_rfl) rfl rfl ⟨hz7_, hz8_⟩ (fun hHeld => ?_)
  generalize w7.drew = wd at B4 B5 B8 HB hHeld ⊢
  refine pure_y 0 (some 25) (bz 17 1) ?_
  refine pure_y 1 (some 26) (bz 17 3) ?_
  refine pure_y 3 (some 28) (bz 17 11) ?_
  refine pure_y 4 (some 29) (bz 17 27) ?_
  refine pure_y 7 (some 32) (bz 17 155) ?_
  refine pure_y 8 (some 33) (bz 17 411) ?_
  refine pure_y 10 (some 35) (bz 17 1435) ?_
  refine pure_y 11 (some 36) (bz 17 3483) ?_
  refine take_ (i := 2) (N := some 27) (v := ?_) (a' := ?_) (bz 17 3487) rfl rfl (by kernel_rfl) (fun _ _ _ h => h) (Or.inl ⟨by rfl, ?_⟩) hHeld ?_ ?_
  rotate_left; (rintro w' ⟨s0, s1⟩; go_simp; with_reducible rfl); rotate_left; (simp only [Act.put, put_x, i64_w, i32_w]; rfl)
  refine take_ (i := 5) (N := some 30) (v := ?_) (a' := ?_) (bz 17 3519) rfl rfl (by kernel_rfl) (fun _ _ _ h => h) (Or.inl ⟨by rfl, ?_⟩) hHeld ?_ ?_
  rotate_left; (rintro w' ⟨s0, s1⟩; go_simp; with_reducible rfl); rotate_left; (simp only [Act.put, put_x, i64_w, i32_w]; rfl)
  refine pure_y 6 (some 31) (bz 17 3583) ?_
  refine take_ (i := 9) (N := some 34) (v := ?_) (a' := ?_) (bz 17 4095) rfl rfl (by kernel_rfl) (fun _ _ _ h => h) (Or.inl ⟨by rfl, ?_⟩) hHeld ?_ ?_
  rotate_left; (rintro w' ⟨s0, s1⟩; go_simp; with_reducible rfl); rotate_left; (simp only [Act.put, put_x, i64_w, i32_w]; rfl)
  refine take_ (i := 12) (N := some 37) (v := ?_) (a' := ?_) (bz 17 8191) rfl rfl (by kernel_rfl) (fun _ _ _ h => h) (Or.inl ⟨by rfl, ?_⟩) hHeld ?_ ?_
  rotate_left; (rintro w' ⟨s0, s1⟩; go_simp; with_reducible rfl); rotate_left; (simp only [Act.put, put_x, i64_w, i32_w]; rfl)
  refine pure_y 13 (some 38) (bz 17 16383) ?_
  refine one_ (i := 14) (N := none) (bz 17 32767) rfl rfl (by kernel_rfl) (by decide) (fun K hK => ?_)
  have hy0_ := (blk_cell B4.out 0).trans rfl
  have hy1_ := (blk_cell B4.out 1).trans rfl
  have hf4_ := blk_frozen B4.out
  refine skip_ (w1 := ?_) (by rfl) rfl ?_ ?_; rotate_left; (go_simp; rfl)
  clear hy0_ hy1_ hf4_
  refine hK.out _ _ ⟨(blk_cell (blk_far (blk_far B8.out (p := ⟨g4, 0, none⟩) (blk_ne_ B8.out B4.out (by decide)) (.int .i64 z.b0)) (p := ⟨g4, 1, none⟩) (blk_ne_ B8.out B4.out (by decide)) (.int .i64 z.b0)) 7).trans rfl, (blk_cell (blk_far (blk_far B8.out (p := ⟨g4, 0, none⟩) (blk_ne_ B8.out B4.out (by decide)) (.int .i64 z.b0)) (p := ⟨g4, 1, none⟩) (blk_ne_ B8.out B4.out (by decide)) (.int .i64 z.b0)) 8).trans rfl⟩ (fun hHeld => ?_)
  clear hK K
  refine last_ (i := 15) (N := none) (bz 17 65535) rfl rfl (by kernel_rfl) (by decide) (fun K hK => ?_)
  have F5 := Aside0.mk (blk_far (blk_far B5.out (p := ⟨g4, 0, none⟩) N45.out.symm (.int .i64 z.b0)) (p := ⟨g4, 1, none⟩) N45.out.symm (.int .i64 z.b0))
  have hy2_ := (blk_cell F5.out 0).trans rfl
  have hy3_ := (blk_cell F5.out 1).trans rfl
  have hf5_ := blk_frozen F5.out
  refine skip_ (w1 := ?_) (by rfl) rfl ?_ ?_; rotate_left; (go_simp; rfl)
  refine hK.out _ _ ?_
  clear hK K
  refine pure_y 16 (some 6) (bz 17 131071) ?_
  refine done_ (by kernel_rfl) ?_
  clear hHeld hy2_ hy3_ hf5_
  go_wp2
  obtain ⟨he1_, he2_⟩ := HEQ.out
  rw [← he1_, ← he2_]
  have P4 := Aside0.mk (blk_far (blk_far (blk_put (cs' := #[.int .i64 z.b0, .int .i64 z.b0]) (blk_set B4.out 0 (.int .i64 z.b0)) 1 (.int .i64 z.b0) rfl) (p := ⟨g5, 0, none⟩) N45.out (.int .i64 z.b1)) (p := ⟨g5, 1, none⟩) N45.out (.int .i64 z.b1))
  have P5 := Aside0.mk (blk_put (cs' := #[.int .i64 z.b1, .int .i64 z.b1]) (blk_set F5.out 0 (.int .i64 z.b1)) 1 (.int .i64 z.b1) rfl)
  have HBe := Aside0.mk (below_set (j := 1) (v := .int .i64 z.b1) (below_set (j := 0) (v := .int .i64 z.b1) (below_set (j := 1) (v := .int .i64 z.b0) (below_set (j := 0) (v := .int .i64 z.b0) HB.out GE4.out) GE4.out) GE5.out) GE5.out)
  exact bodyPost_ret (results_list (rs := [.cell 4 56, .cell 5 56, .tmp 6]) rfl (by simp) (.cell g4 56 #[.int .i64 z.b0, .int .i64 z.b0] (0, 0) _ rfl P4.out Try.underlying56 rfl (by kernel_rfl) (.cell g5 56 #[.int .i64 z.b1, .int .i64 z.b1] (0, 0) _ rfl P5.out Try.underlying56 rfl (by kernel_rfl) (.tmp .nil)))) rfl ⟨rfl, HBe.out⟩
 ·
  skip
  have hE : ∀ w : World, (Op.equalIn 10000 93 (.agg #[.int .i64 z.b0, .int .i64 z.b1]) (.agg #[.int .i64 z.h0, .int .i64 z.h1])).run Try.prog w = .ok false w := fun w => by rw [eq93]; congr 1; simp; exact fun h1 h2 => heq ⟨h1, h2⟩
  have HEQ := Aside0.mk heq
  clear heq
  have hz7_ := (blk_cell Ng8.out 7).trans rfl
  have hz8_ := (blk_cell Ng8.out 8).trans rfl
  have hz9_ := (blk_cell Ng8.out 9).trans rfl
  have hz10_ := (blk_cell Ng8.out 10).trans rfl
  go_upto_region 7 with (fail)
  clear hE
  have hd_ := below_drew1 (Below.refl w7.heap.size w7)
  replace B4 := Aside0.mk (blk_drew B4.out)
  replace B5 := Aside0.mk (blk_drew B5.out)
  have B8 := Aside0.mk (blk_drew Ng8.out)
  replace HB := Aside0.mk (below_step HB.out hd_)
  clear hd_ Ng8
  refine start_ (n := 17) (S := fun w' => w'.cell? ⟨g8, 7, none⟩ = some (.int .i64 z.b0) ∧ w'.cell? ⟨g8, 8, none⟩ = some (.int .i64 z.b1) ∧ w'.cell? ⟨g8, 9, none⟩ = some (.int .i64 z.h0) ∧ w'.cell? ⟨g8, 10, none⟩ = some (.int .i64 z.h1)) (ds := [15]) #[false, false, false, false, false, false, false, false, false, false, false, false, false, false, false, false, false] (by kernel_rfl) rfl rfl ⟨hz7_, hz8_, hz9_, hz10_⟩ (fun hHeld => ?_)
  generalize w7.drew = wd at B4 B5 B8 HB hHeld ⊢
  refine pure_y 0 (some 39) (bz 17 1) ?_
  refine pure_y 1 (some 40) (bz 17 3) ?_
  refine pure_y 3 (some 42) (bz 17 11) ?_
  refine pure_y 4 (some 43) (bz 17 27) ?_
  refine pure_y 7 (some 46) (bz 17 155) ?_
  refine pure_y 8 (some 47) (bz 17 411) ?_
  refine pure_y 10 (some 49) (bz 17 1435) ?_
  refine pure_y 11 (some 50) (bz 17 3483) ?_
  refine take_ (i := 2) (N := some 41) (v := ?_) (a' := ?_) (bz 17 3487) rfl rfl (by kernel_rfl) (fun _ _ _ h => h) (Or.inl ⟨by rfl, ?_⟩) hHeld ?_ ?_
  rotate_left; (rintro w' ⟨s0, s1, s2, s3⟩; go_simp; with_reducible rfl); rotate_left; (simp only [Act.put, put_x, i64_w, i32_w]; rfl)
  refine take_ (i := 5) (N := some 44) (v := ?_) (a' := ?_) (bz 17 3519) rfl rfl (by kernel_rfl) (fun _ _ _ h => h) (Or.inl ⟨by rfl, ?_⟩) hHeld ?_ ?_
  rotate_left; (rintro w' ⟨s0, s1, s2, s3⟩; go_simp; with_reducible rfl); rotate_left; (simp only [Act.put, put_x, i64_w, i32_w]; rfl)
  refine pure_y 6 (some 45) (bz 17 3583) ?_
  refine take_ (i := 9) (N := some 48) (v := ?_) (a' := ?_) (bz 17 4095) rfl rfl (by kernel_rfl) (fun _ _ _ h => h) (Or.inl ⟨by rfl, ?_⟩) hHeld ?_ ?_
  rotate_left; (rintro w' ⟨s0, s1, s2, s3⟩; go_simp; with_reducible rfl); rotate_left; (simp only [Act.put, put_x, i64_w, i32_w]; rfl)
  refine take_ (i := 12) (N := some 51) (v := ?_) (a' := ?_) (bz 17 8191) rfl rfl (by kernel_rfl) (fun _ _ _ h => h) (Or.inl ⟨by rfl, ?_⟩) hHeld ?_ ?_
  rotate_left; (rintro w' ⟨s0, s1, s2, s3⟩; go_simp; with_reducible rfl); rotate_left; (simp only [Act.put, put_x, i64_w, i32_w]; rfl)
  refine pure_y 13 (some 52) (bz 17 16383) ?_
  refine one_ (i := 14) (N := none) (bz 17 32767) rfl rfl (by kernel_rfl) (by decide) (fun K hK => ?_)
  have hy0_ := (blk_cell B4.out 0).trans rfl
  have hy1_ := (blk_cell B4.out 1).trans rfl
  have hf4_ := blk_frozen B4.out
  refine skip_ (w1 := ?_) (by rfl) rfl ?_ ?_; rotate_left; (go_simp; rfl)
  clear hy0_ hy1_ hf4_
  refine hK.out _ _ ⟨(blk_cell (blk_far (blk_far B8.out (p := ⟨g4, 0, none⟩) (blk_ne_ B8.out B4.out (by decide)) (.int .i64 z.b0)) (p := ⟨g4, 1, none⟩) (blk_ne_ B8.out B4.out (by decide)) (.int .i64 z.h0)) 7).trans rfl, (blk_cell (blk_far (blk_far B8.out (p := ⟨g4, 0, none⟩) (blk_ne_ B8.out B4.out (by decide)) (.int .i64 z.b0)) (p := ⟨g4, 1, none⟩) (blk_ne_ B8.out B4.out (by decide)) (.int .i64 z.h0)) 8).trans rfl, (blk_cell (blk_far (blk_far B8.out (p := ⟨g4, 0, none⟩) (blk_ne_ B8.out B4.out (by decide)) (.int .i64 z.b0)) (p := ⟨g4, 1, none⟩) (blk_ne_ B8.out B4.out (by decide)) (.int .i64 z.h0)) 9).trans rfl, (blk_cell (blk_far (blk_far B8.out (p := ⟨g4, 0, none⟩) (blk_ne_ B8.out B4.out (by decide)) (.int .i64 z.b0)) (p := ⟨g4, 1, none⟩) (blk_ne_ B8.out B4.out (by decide)) (.int .i64 z.h0)) 10).trans rfl⟩ (fun hHeld => ?_)
  clear hK K
  refine last_ (i := 15) (N := none) (bz 17 65535) rfl rfl (by kernel_rfl) (by decide) (fun K hK => ?_)
  have F5 := Aside0.mk (blk_far (blk_far B5.out (p := ⟨g4, 0, none⟩) N45.out.symm (.int .i64 z.b0)) (p := ⟨g4, 1, none⟩) N45.out.symm (.int .i64 z.h0))
  have hy2_ := (blk_cell F5.out 0).trans rfl
  have hy3_ := (blk_cell F5.out 1).trans rfl
  have hf5_ := blk_frozen F5.out
  refine skip_ (w1 := ?_) (by rfl) rfl ?_ ?_; rotate_left; (go_simp; rfl)
  refine hK.out _ _ ?_
  clear hK K
  refine pure_y 16 (some 6) (bz 17 131071) ?_
  refine done_ (by kernel_rfl) ?_
  clear hHeld hy2_ hy3_ hf5_
  go_wp2
  have P4 := Aside0.mk (blk_far (blk_far (blk_put (cs' := #[.int .i64 z.b0, .int .i64 z.h0]) (blk_set B4.out 0 (.int .i64 z.b0)) 1 (.int .i64 z.h0) rfl) (p := ⟨g5, 0, none⟩) N45.out (.int .i64 z.b1)) (p := ⟨g5, 1, none⟩) N45.out (.int .i64 z.h1))
  have P5 := Aside0.mk (blk_put (cs' := #[.int .i64 z.b1, .int .i64 z.h1]) (blk_set F5.out 0 (.int .i64 z.b1)) 1 (.int .i64 z.h1) rfl)
  have HBe := Aside0.mk (below_set (j := 1) (v := .int .i64 z.h1) (below_set (j := 0) (v := .int .i64 z.b1) (below_set (j := 1) (v := .int .i64 z.h0) (below_set (j := 0) (v := .int .i64 z.b0) HB.out GE4.out) GE4.out) GE5.out) GE5.out)
  exact bodyPost_ret (results_list (rs := [.cell 4 56, .cell 5 56, .tmp 6]) rfl (by simp) (.cell g4 56 #[.int .i64 z.b0, .int .i64 z.h0] (0, 0) _ rfl P4.out Try.underlying56 rfl (by kernel_rfl) (.cell g5 56 #[.int .i64 z.b1, .int .i64 z.h1] (0, 0) _ rfl P5.out Try.underlying56 rfl (by kernel_rfl) (.tmp .nil)))) rfl ⟨rfl, HBe.out⟩
theorem ship_Drafts.calls (a0_0 : Int) (a0_1 : Int) (a0_2 : Int) (A0_3 : Option Addr) (c0_3 : Nat) (l0_3 : List (S85)) (a0_4 : Int) (A0_5 : Option Addr) (c0_5 : Nat) (l0_5 : List (S59)) (A0_6 : Option Addr) (c0_6 : Nat) (l0_6 : List (S79)) (A1 : Option Addr) (c1 : Nat) (l1 : List Int) (r1 : Int) (r2 : Int) (r3 : Int) (r4 : Int) (r5 : Int) (w : World) (hr0_3 : Kd.C k85 w A0_3 l0_3.length l0_3) (hc0_3 : l0_3.length ≤ c0_3) (hr0_5 : Kd.C k59 w A0_5 l0_5.length l0_5) (hc0_5 : l0_5.length ≤ c0_5) (hr0_6 : Kd.C k79 w A0_6 l0_6.length l0_6) (hc0_6 : l0_6.length ≤ c0_6) (hr1 : Kd.C (Kd.int .i64) w A1 l1.length l1) (hc1 : l1.length ≤ c1) (h : ship_Drafts.f a0_0 a0_1 a0_2 l0_3 a0_4 l0_5 l0_6 l1 = some (r1, r2, r3, r4, r5)) :
  Calls Try.prog 35 #[.agg #[.int .i64 a0_0, .int .i64 a0_1, .int .i64 a0_2, .slice A0_3 l0_3.length c0_3, .int .i64 a0_4, .slice A0_5 l0_5.length c0_5, .slice A0_6 l0_6.length c0_6], .slice A1 l1.length c1] w fun e w' => e = .returned (.tuple #[.agg #[.int .i64 r1, .int .i64 r2], .agg #[.int .i64 r3, .int .i64 r4], .int .i64 r5]) ∧ Below w.heap.size w w' := drafts_calls ⟨a0_0, a0_1, a0_2, A0_3, c0_3, l0_3, a0_4, A0_5, c0_5, l0_5, A0_6, c0_6, l0_6⟩ A1 c1 l1 r1 r2 r3 r4 r5 w ⟨hr0_3, hc0_3, hr0_5, hc0_5, hr0_6, hc0_6⟩ hr1 hc1 h
def copyOK (holds : List S85) (sills : List S59) (lots : List S79) : Prop := holds.length ≤ 100000 ∧ lots.length ≤ 100000 ∧ lensOK sills
instance (holds : List S85) (sills : List S59) (lots : List S79) : Decidable (copyOK holds sills lots) := by unfold copyOK; infer_instance
end Go.Proofs.Ytodmemndaaiolaa.PC7
namespace Go.Proofs.Ytodmemndaaiolaa.PC7
open Go.RowKit Go.Proofs.YtodmemndaaiolaaW.PrintWords Go.Proofs.YtodmemndaaiolaaW.PrintLast Go.Proofs.YtodmemndaaiolaaW.PrintMore
attribute [local go_sem] max2_int min2_int max_two min_two max_three min_three max_four min_four
set_option linter.unusedVariables false
set_option linter.unusedSimpArgs false
def swarfkit_Feed_Below.f (s0_0 : Int) (a1 : Int) : Option (Int × Int) := if a1 < 2 then (some (0, s0_0)) else ((swarfkit_Feed_next.f s0_0).bind fun bt276 => (if (IntKind.u64.wrap (a1)) = 0 then (none) else (some (wrap64 (Int.tmod (bt276.1 / 256) (IntKind.u64.wrap (a1))), bt276.2))))
set_option maxHeartbeats 8000000 in
set_option maxRecDepth 100000 in
theorem swarfkit_Feed_Below.calls (g : Nat) (s0_0 : Int) (a1 : Int) (r1 : Int) (r2 : Int) (w0 w : World) (hI : IsS90 w0 w g s0_0) (hB : Below w0.heap.size w0 w) (h : swarfkit_Feed_Below.f s0_0 a1 = some (r1, r2)) :
  Calls Try.prog 33 #[.pointer (some ⟨g, 0, none⟩), .int .i64 a1] w fun e w' => e = .returned (.int .i64 r1) ∧ IsS90 w0 w' g r2 ∧ Below w0.heap.size w0 w' ∧ KeepBut w w' g none := by
 have HI0 := Aside0.mk hI
 have HK := Aside0.mk (KeepBut.refl w g none)
 have HL := Aside0.mk hB.size
 clear hI
 have HW0 := Aside0.mk hB.size
 have HB := Aside0.mk hB
 clear hB
 have H : (if a1 < 2 then (some (0, s0_0)) else ((swarfkit_Feed_next.f s0_0).bind fun bt276 => (if (IntKind.u64.wrap (a1)) = 0 then (none) else (some (wrap64 (Int.tmod (bt276.1 / 256) (IntKind.u64.wrap (a1))), bt276.2))))) = some (r1, r2) := h
 clear h
 by_cases c3 : a1 < 2
 ·
  rw [if_pos c3] at H
  have c3b0 : decide (a1 < 2) = true := decide_eq_true c3
  clear c3
  simp only [Option.some.injEq, Prod.mk.injEq] at H
  obtain ⟨rfl, rfl⟩ := H
  go_enter Try.func33, Try.ntmps33
  go_wp2
  go_ret
  exact ⟨by first | rfl | (simp [errW_none, errW_some] <;> rfl) | (simp [*, errW_none, errW_some] <;> rfl), by exact IsS90.up HI0.out, by exact below_y HB.out, by exact keep_y HK.out⟩
 ·
  rw [if_neg c3] at H
  have c3b0 : decide (a1 < 2) = false := decide_eq_false c3
  clear c3
  replace H := Option.bind_eq_some_iff.mp H
  obtain ⟨⟨t276, t277⟩, A40, H⟩ := H
  try dsimp only at H
  have A4 := Aside0.mk A40
  clear A40
  by_cases c5 : (IntKind.u64.wrap (a1)) = 0
  ·
   rw [if_pos c5] at H
   exact absurd H (by simp)
  ·
   rw [if_neg c5] at H
   have c5b0 : ((IntKind.u64.wrap (a1)) == 0) = false := beq_eq_false_iff_ne.mpr c5
   have c5b1 : ((IntKind.u64.wrap (a1)) != 0) = true := bne_iff_ne.mpr c5
   simp only [Option.some.injEq, Prod.mk.injEq] at H
   obtain ⟨rfl, rfl⟩ := H
   go_enter Try.func33, Try.ntmps33
   go_wp2_with (first | ((with_reducible refine gate_callee (f := 53) rfl ?_); refine goesL_ (some 8) rfl rfl Try.func53 (by kernel_rfl) rfl #[.pointer (some ⟨g, 0, none⟩)] rfl (by (try simp only [List.map_toArray, List.map_cons, List.map_nil]); first | done | rfl | (simp only [List.length_drop, List.length_take]; rfl)) ?_; (with_reducible refine (swarfkit_Feed_next.calls g s0_0 t276 t277 w0 _ ?side1 ?side2 A4.out).mono ?_); (case side1 => exact IsS90.up HI0.out); (case side2 => exact below_y HB.out); rintro e w6 ⟨rfl, hi, hb, hk⟩; refine ⟨_, rfl, ?_⟩; replace HK := Aside0.mk (KeepBut.trans (by exact keep_y HK.out) hk (.inl rfl)); replace HB := Aside0.mk (hb); replace HI0 := Aside0.mk (hi); (try clear hb); (try clear hk); (try clear hi)))
   go_ret
   exact ⟨by first | rfl | (simp [errW_none, errW_some] <;> rfl) | (simp [*, errW_none, errW_some] <;> rfl), by exact IsS90.up HI0.out, by exact below_y HB.out, by exact keep_y HK.out⟩
def swarfkit_Feed_Either.f (s0_0 : Int) (l1 : List Int) : Option (Int × Int) := if (l1.length : Int) = 0 then (some (0, s0_0)) else ((swarfkit_Feed_Below.f s0_0 (l1.length : Int)).bind fun bt278 => (if 0 ≤ bt278.1 then (if bt278.1 < (l1.length : Int) then (some (rd l1 bt278.1, bt278.2)) else (none)) else (none)))
set_option maxHeartbeats 8000000 in
set_option maxRecDepth 100000 in
theorem swarfkit_Feed_Either.calls (g : Nat) (s0_0 : Int) (A1 : Option Addr) (c1 : Nat) (l1 : List Int) (r1 : Int) (r2 : Int) (w0 w : World) (hI : IsS90 w0 w g s0_0) (hB : Below w0.heap.size w0 w) (hr1 : Kd.C (Kd.int .i64) w A1 l1.length l1) (hc1 : l1.length ≤ c1) (hf1 : ∀ ad, A1 = some ad → 0 < l1.length → ad.block ≠ g) (h : swarfkit_Feed_Either.f s0_0 l1 = some (r1, r2)) :
  Calls Try.prog 18 #[.pointer (some ⟨g, 0, none⟩), .slice A1 l1.length c1] w fun e w' => e = .returned (.int .i64 r1) ∧ IsS90 w0 w' g r2 ∧ Below w0.heap.size w0 w' ∧ KeepBut w w' g none := by
 have HR1 := Aside0.mk hr1
 have HC1 := Aside0.mk hc1
 clear hr1 hc1
 have HI0 := Aside0.mk hI
 have HK := Aside0.mk (KeepBut.refl w g none)
 have HL := Aside0.mk hB.size
 clear hI
 have HW0 := Aside0.mk hB.size
 have HB := Aside0.mk hB
 clear hB
 have H : (if (l1.length : Int) = 0 then (some (0, s0_0)) else ((swarfkit_Feed_Below.f s0_0 (l1.length : Int)).bind fun bt278 => (if 0 ≤ bt278.1 then (if bt278.1 < (l1.length : Int) then (some (rd l1 bt278.1, bt278.2)) else (none)) else (none)))) = some (r1, r2) := h
 clear h
 by_cases c3 : (l1.length : Int) = 0
 ·
  rw [if_pos c3] at H
  have c3b0 : ((l1.length : Int) == 0) = true := beq_iff_eq.mpr c3
  have c3b1 : ((l1.length : Int) != 0) = false := bne_eq_false_iff_eq.mpr c3
  clear c3
  simp only [Option.some.injEq, Prod.mk.injEq] at H
  obtain ⟨rfl, rfl⟩ := H
  go_enter Try.func18, Try.ntmps18
  go_wp2
  go_ret
  exact ⟨by first | rfl | (simp [errW_none, errW_some] <;> rfl) | (simp [*, errW_none, errW_some] <;> rfl), by exact IsS90.up HI0.out, by exact below_y HB.out, by exact keep_y HK.out⟩
 ·
  rw [if_neg c3] at H
  have c3b0 : ((l1.length : Int) == 0) = false := beq_eq_false_iff_ne.mpr c3
  have c3b1 : ((l1.length : Int) != 0) = true := bne_iff_ne.mpr c3
  have c3b2 : ¬ (l1 = []) := fun h_ => c3 (by rw [h_]; rfl)
  replace H := Option.bind_eq_some_iff.mp H
  obtain ⟨⟨t278, t279⟩, A40, H⟩ := H
  try dsimp only at H
  have A4 := Aside0.mk A40
  clear A40
  by_cases c5 : 0 ≤ t278
  ·
   rw [if_pos c5] at H
   have c5b0 : decide (0 ≤ t278) = true := decide_eq_true c5
   clear c5
   by_cases c6 : t278 < (l1.length : Int)
   ·
    rw [if_pos c6] at H
    have c6b0 : decide (t278 < (l1.length : Int)) = true := decide_eq_true c6
    clear c6
    simp only [Option.some.injEq, Prod.mk.injEq] at H
    obtain ⟨rfl, rfl⟩ := H
    go_enter Try.func18, Try.ntmps18
    go_wp2_with (first | ((with_reducible refine gate_callee (f := 33) rfl ?_); refine goesL_ (some 12) rfl rfl Try.func33 (by kernel_rfl) rfl #[.pointer (some ⟨g, 0, none⟩), .int .i64 (l1.length : Int)] rfl (by (try simp only [List.map_toArray, List.map_cons, List.map_nil]); first | done | rfl | (simp only [List.length_drop, List.length_take]; rfl)) ?_; (with_reducible refine (swarfkit_Feed_Below.calls g s0_0 (l1.length : Int) t278 t279 w0 _ ?side1 ?side2 A4.out).mono ?_); (case side1 => exact IsS90.up HI0.out); (case side2 => exact below_y HB.out); rintro e w7 ⟨rfl, hi, hb, hk⟩; refine ⟨_, rfl, ?_⟩; replace HK := Aside0.mk (KeepBut.trans (by exact keep_y HK.out) hk (.inl rfl)); replace HB := Aside0.mk (hb); replace HI0 := Aside0.mk (hi); (try clear hb); (try clear hk); (try clear hi); have p280 : 0 ≤ (t278 : Int) := of_x; have q280 : t278 < (l1.length : Int) := of_x; obtain ⟨ad280, e280, hx280_0⟩ := Kd.at_int HR1.out t278 p280 q280; cases e280; replace hx280_0 := keep_cell HK.out hx280_0 (by first | (rw [add_block]; exact hf1 _ rfl (by omega)) | exact hf1 _ rfl (by omega) | exact hf1 ad280 rfl (by omega)); replace p280 := eq_true p280; replace q280 := eq_true q280))
    go_ret
    exact ⟨by first | rfl | (simp [errW_none, errW_some] <;> rfl) | (simp [*, errW_none, errW_some] <;> rfl), by exact IsS90.up HI0.out, by exact below_y HB.out, by exact keep_y HK.out⟩
   ·
    rw [if_neg c6] at H
    exact absurd H (by simp)
  ·
   rw [if_neg c5] at H
   exact absurd H (by simp)
def swarfkit_Feed_Between.f (s0_0 : Int) (a1 : Int) (a2 : Int) : Option (Int × Int) := (swarfkit_Feed_Below.f s0_0 (wrap64 ((wrap64 (a2 - a1)) + 1))).bind fun bt281 => (some (wrap64 (a1 + bt281.1), bt281.2))
set_option maxHeartbeats 8000000 in
set_option maxRecDepth 100000 in
theorem swarfkit_Feed_Between.calls (g : Nat) (s0_0 : Int) (a1 : Int) (a2 : Int) (r1 : Int) (r2 : Int) (w0 w : World) (hI : IsS90 w0 w g s0_0) (hB : Below w0.heap.size w0 w) (h : swarfkit_Feed_Between.f s0_0 a1 a2 = some (r1, r2)) :
  Calls Try.prog 31 #[.pointer (some ⟨g, 0, none⟩), .int .i64 a1, .int .i64 a2] w fun e w' => e = .returned (.int .i64 r1) ∧ IsS90 w0 w' g r2 ∧ Below w0.heap.size w0 w' ∧ KeepBut w w' g none := by
 have HI0 := Aside0.mk hI
 have HK := Aside0.mk (KeepBut.refl w g none)
 have HL := Aside0.mk hB.size
 clear hI
 have HW0 := Aside0.mk hB.size
 have HB := Aside0.mk hB
 clear hB
 have H : ((swarfkit_Feed_Below.f s0_0 (wrap64 ((wrap64 (a2 - a1)) + 1))).bind fun bt281 => (some (wrap64 (a1 + bt281.1), bt281.2))) = some (r1, r2) := h
 clear h
 replace H := Option.bind_eq_some_iff.mp H
 obtain ⟨⟨t281, t282⟩, A40, H⟩ := H
 replace H : (some (wrap64 (a1 + t281), t282)) = some (r1, r2) := H
 have A4 := Aside0.mk A40
 clear A40
 simp only [Option.some.injEq, Prod.mk.injEq] at H
 obtain ⟨rfl, rfl⟩ := H
 go_enter Try.func31, Try.ntmps31
 go_wp2_with (first | ((with_reducible refine gate_callee (f := 33) rfl ?_); refine goesL_ (some 13) rfl rfl Try.func33 (by kernel_rfl) rfl #[.pointer (some ⟨g, 0, none⟩), .int .i64 (wrap64 ((wrap64 (a2 - a1)) + 1))] rfl (by (try simp only [List.map_toArray, List.map_cons, List.map_nil]); first | done | rfl | (simp only [List.length_drop, List.length_take]; rfl)) ?_; (with_reducible refine (swarfkit_Feed_Below.calls g s0_0 (wrap64 ((wrap64 (a2 - a1)) + 1)) t281 t282 w0 _ ?side1 ?side2 A4.out).mono ?_); (case side1 => exact IsS90.up HI0.out); (case side2 => exact below_y HB.out); rintro e w5 ⟨rfl, hi, hb, hk⟩; refine ⟨_, rfl, ?_⟩; replace HK := Aside0.mk (KeepBut.trans (by exact keep_y HK.out) hk (.inl rfl)); replace HB := Aside0.mk (hb); replace HI0 := Aside0.mk (hi); (try clear hb); (try clear hk); (try clear hi)))
 go_ret
 exact ⟨by first | rfl | (simp [errW_none, errW_some] <;> rfl) | (simp [*, errW_none, errW_some] <;> rfl), by exact IsS90.up HI0.out, by exact below_y HB.out, by exact keep_y HK.out⟩
def swarfkit_Feed_In.f (s0_0 : Int) (a1_0 : Int) (a1_1 : Int) : Option (Int × Int) := (swarfkit_Feed_Between.f s0_0 a1_0 a1_1).bind fun bt1050 => ((swarfkit_Feed_Between.f bt1050.2 a1_0 a1_1).bind fun bt1052 => ((swarfkit_Feed_Either.f bt1052.2 (([a1_0, a1_1, bt1050.1, bt1052.1] : List Int))).bind fun bt1057 => (some (bt1057.1, bt1057.2))))
def swarfkit_Feed_In.T1 : Bool × List (List Nat × List Nat) := (true, [([], []), ([], []), ([1], [1]), ([], []), ([3], [3]), ([], []), ([], []), ([6], [6]), ([], []), ([8], [8]), ([5, 7, 9], [5, 7, 9]), ([], []), ([], []), ([12], [12]), ([], []), ([14], [14]), ([11, 13, 15, 10], [11, 13, 15]), ([2, 4, 10, 16], [2, 4, 10, 16]), ([0, 17, 16], [0, 17]), ([18, 18, 0, 1, 2, 3, 4, 5, 6, 7, 8, 9, 10, 11, 12, 13, 14, 15, 16, 17, 18], [18])])
def swarfkit_Feed_In.B1 : List Nat := [0, 0, 2, 0, 8, 0, 0, 64, 0, 256, 992, 0, 0, 4096, 0, 16384, 65504, 131070, 262143, 524287]
theorem swarfkit_Feed_In.tab1 : rtab .any (opsOf Try.f77 1) = swarfkit_Feed_In.T1 := by kernel_rfl
theorem swarfkit_Feed_In.bits1 : waitsOk swarfkit_Feed_In.T1.2 swarfkit_Feed_In.B1 = true := by kernel_rfl
set_option maxHeartbeats 8000000 in
set_option maxRecDepth 100000 in
theorem swarfkit_Feed_In.calls (g : Nat) (s0_0 : Int) (a1_0 : Int) (a1_1 : Int) (r1 : Int) (r2 : Int) (w0 w : World) (hI : IsS90 w0 w g s0_0) (hB : Below w0.heap.size w0 w) (h : swarfkit_Feed_In.f s0_0 a1_0 a1_1 = some (r1, r2)) :
  Calls Try.prog 77 #[.pointer (some ⟨g, 0, none⟩), .agg #[.int .i64 a1_0, .int .i64 a1_1]] w fun e w' => e = .returned (.int .i64 r1) ∧ IsS90 w0 w' g r2 ∧ Below w0.heap.size w0 w' ∧ KeepBut w w' g none := by
 have hu56 := Try.underlying56
 have HI0 := Aside0.mk hI
 have HK := Aside0.mk (KeepBut.refl w g none)
 have HL := Aside0.mk hB.size
 clear hI
 have HW0 := Aside0.mk hB.size
 have HB := Aside0.mk hB
 clear hB
 have H : ((swarfkit_Feed_Between.f s0_0 a1_0 a1_1).bind fun bt1050 => ((swarfkit_Feed_Between.f bt1050.2 a1_0 a1_1).bind fun bt1052 => ((swarfkit_Feed_Either.f bt1052.2 (([a1_0, a1_1, bt1050.1, bt1052.1] : List Int))).bind fun bt1057 => (some (bt1057.1, bt1057.2))))) = some (r1, r2) := h
 clear h
 replace H := Option.bind_eq_some_iff.mp H
 obtain ⟨⟨t1050, t1051⟩, A30, H⟩ := H
 try dsimp only at H
 have A3 := Aside0.mk A30
 clear A30
 replace H := Option.bind_eq_some_iff.mp H
 obtain ⟨⟨t1052, t1053⟩, A40, H⟩ := H
 try dsimp only at H
 have A4 := Aside0.mk A40
 clear A40
 obtain ⟨y1054, hy1054⟩ : ∃ y_ : List Int, y_ = (([a1_0, a1_1, t1050, t1052] : List Int)) := ⟨_, rfl⟩
 replace H : ((swarfkit_Feed_Either.f t1053 y1054).bind fun bt1057 => (some (bt1057.1, bt1057.2))) = some (r1, r2) := by first | (rw [hy1054]; with_reducible exact H) | (have H2_ := (Option.bind_some _ _).symm.trans H; rw [hy1054]; with_reducible exact H2_) | (have H2_ := (Option.bind_some _ _).symm.trans H; with_reducible exact H2_) | with_reducible exact H | (rw [hy1054]; exact H) | exact H
 have Ny1054 := Aside0.mk hy1054
 clear hy1054
 replace H := Option.bind_eq_some_iff.mp H
 obtain ⟨⟨t1057, t1058⟩, A50, H⟩ := H
 replace H : (some (t1057, t1058)) = some (r1, r2) := H
 have A5 := Aside0.mk A50
 clear A50
 simp only [Option.some.injEq, Prod.mk.injEq] at H
 obtain ⟨rfl, rfl⟩ := H
 go_enter Try.func77, Try.ntmps77
 try go_wp2_with (first | ((with_reducible refine gate_dst (N := 3) rfl ?_); refine box_event ?hg (N := 3) ?hd (cs := #[.int .i64 a1_0, .int .i64 a1_1]) (t := 56) ?hr ?_; (case hd => rfl); (case hg => rfl); (case hr => first | (go_simp; done) | (go_simp; rfl)); intro gb1049 hg w6 hbox hb; replace HB := bl_x HB hb; have BK1049 := Aside0.mk (hbox); have GW1049 := Aside0.mk ((by rw [hg]; exact (keep_size (w := w) (g := g) (row := none) (by exact keep_y HK.out)) : w.heap.size ≤ gb1049)); have GE1049 := Aside0.mk ((Nat.le_trans HW0.out (by rw [hg]; exact (keep_size (w := w) (g := g) (row := none) (by exact keep_y HK.out)) : w.heap.size ≤ gb1049) : w0.heap.size ≤ gb1049)); replace HK := Aside0.mk (KeepBut.trans (by exact keep_y HK.out) (KeepBut.of_below hb g none) (.inl rfl)); have NB0_1049 := Aside0.mk ((by rw [hg]; exact Nat.ne_of_lt (IsS90.lt (show IsS90 w0 _ g s0_0 from by exact IsS90.up HI0.out)) : g ≠ gb1049)); have NB1049_0 := Aside0.mk ((by rw [hg]; exact Nat.ne_of_gt (IsS90.lt (show IsS90 w0 _ g s0_0 from by exact IsS90.up HI0.out)) : gb1049 ≠ g)); replace HI0 := Aside0.mk (IsS90.below (by exact IsS90.up HI0.out) hb); clear hb hbox hg))
 replace BK1049 := Aside0.mk (blk_drew BK1049.out)
 replace HI0 := Aside0.mk (IsS90.drew HI0.out)
 replace HK := Aside0.mk (keep_drew HK.out)
 replace HB := Aside0.mk (below_drew1 HB.out)
 refine start_ (n := 20) (S := fun w' => w'.cell? ⟨gb1049, 0, none⟩ = some (.int .i64 a1_0) ∧ w'.cell? ⟨gb1049, 1, none⟩ = some (.int .i64 a1_1)) (ds := []) #[false, false, false, false, false, false, false, false, false, false, false, false, false, false, false, false, false, false, false, false] (by kernel_rfl) rfl rfl ⟨(blk_cell BK1049.out 0).trans rfl, (blk_cell BK1049.out 1).trans rfl⟩ (fun hHeld => ?_); refine with_tabW swarfkit_Feed_In.tab1 swarfkit_Feed_In.bits1 (fun HT_ HW_ => ?_)
 generalize w6.drew = w7 at BK1049 HI0 HK HB hHeld ⊢
 refine pure_t 0 (some 5) (bz 20 1) HT_ ?_
 refine pure_t 1 (some 6) (bz 20 3) HT_ ?_
 refine pure_t 3 (some 8) (bz 20 11) HT_ ?_
 refine pure_t 5 (some 10) (bz 20 43) HT_ ?_
 refine pure_t 6 (some 11) (bz 20 107) HT_ ?_
 refine pure_t 8 (some 13) (bz 20 363) HT_ ?_
 refine pure_t 11 (some 16) (bz 20 2411) HT_ ?_
 refine pure_t 12 (some 17) (bz 20 6507) HT_ ?_
 refine pure_t 14 (some 19) (bz 20 22891) HT_ ?_
 refine take_ (i := 2) (N := some 7) (v := ?_) (a' := ?_) (bz 20 22895) rfl rfl (take_ofW HT_.out HW_.out (by kernel_rfl)) (fun _ _ _ h => h) (Or.inl ⟨by rfl, ?_⟩) hHeld ?_ ?_
 rotate_left; (rintro w' ⟨s0, s1⟩; go_simp; with_reducible rfl); rotate_left; (simp only [Act.put, put_x, i64_w, i32_w]; rfl)
 refine take_ (i := 4) (N := some 9) (v := ?_) (a' := ?_) (bz 20 22911) rfl rfl (take_ofW HT_.out HW_.out (by kernel_rfl)) (fun _ _ _ h => h) (Or.inl ⟨by rfl, ?_⟩) hHeld ?_ ?_
 rotate_left; (rintro w' ⟨s0, s1⟩; go_simp; with_reducible rfl); rotate_left; (simp only [Act.put, put_x, i64_w, i32_w]; rfl)
 refine take_ (i := 7) (N := some 12) (v := ?_) (a' := ?_) (bz 20 23039) rfl rfl (take_ofW HT_.out HW_.out (by kernel_rfl)) (fun _ _ _ h => h) (Or.inl ⟨by rfl, ?_⟩) hHeld ?_ ?_
 rotate_left; (rintro w' ⟨s0, s1⟩; go_simp; with_reducible rfl); rotate_left; (simp only [Act.put, put_x, i64_w, i32_w]; rfl)
 refine take_ (i := 9) (N := some 14) (v := ?_) (a' := ?_) (bz 20 23551) rfl rfl (take_ofW HT_.out HW_.out (by kernel_rfl)) (fun _ _ _ h => h) (Or.inl ⟨by rfl, ?_⟩) hHeld ?_ ?_
 rotate_left; (rintro w' ⟨s0, s1⟩; go_simp; with_reducible rfl); rotate_left; (simp only [Act.put, put_x, i64_w, i32_w]; rfl)
 refine take_ (i := 13) (N := some 18) (v := ?_) (a' := ?_) (bz 20 31743) rfl rfl (take_ofW HT_.out HW_.out (by kernel_rfl)) (fun _ _ _ h => h) (Or.inl ⟨by rfl, ?_⟩) hHeld ?_ ?_
 rotate_left; (rintro w' ⟨s0, s1⟩; go_simp; with_reducible rfl); rotate_left; (simp only [Act.put, put_x, i64_w, i32_w]; rfl)
 refine take_ (i := 15) (N := some 20) (v := ?_) (a' := ?_) (bz 20 64511) rfl rfl (take_ofW HT_.out HW_.out (by kernel_rfl)) (fun _ _ _ h => h) (Or.inl ⟨by rfl, ?_⟩) hHeld ?_ ?_
 rotate_left; (rintro w' ⟨s0, s1⟩; go_simp; with_reducible rfl); rotate_left; (simp only [Act.put, put_x, i64_w, i32_w]; rfl)
 refine one_ (i := 10) (N := some 15) (bz 20 65535) rfl rfl (one_of HT_.out (by kernel_rfl)) (by decide) (fun K hK => ?_)
 refine goes_ Try.func31 (by kernel_rfl) rfl #[.pointer (some ⟨g, 0, none⟩), .int .i64 a1_0, .int .i64 a1_1] (by rfl) rfl rfl (by (try simp only [List.map_toArray, List.map_cons, List.map_nil]); first | done | rfl | (simp only [List.length_drop, List.length_take]; rfl)) ?_
 with_reducible refine (swarfkit_Feed_Between.calls g s0_0 a1_0 a1_1 t1050 t1051 w0 _ ?side1 ?side2 A3.out).mono ?_
 (case side1 => exact IsS90.up HI0.out)
 (case side2 => exact below_y HB.out)
 rintro e w8 ⟨rfl, hi, hb, hk⟩
 refine ⟨_, rfl, ?_⟩
 replace BK1049 := Aside0.mk (KeepBut.blk hk (blk_x BK1049.out) NB1049_0.out (by simp))
 replace HK := Aside0.mk (KeepBut.trans (by exact keep_y HK.out) hk (.inl rfl))
 replace HB := Aside0.mk (hb)
 replace HI0 := Aside0.mk (hi)
 (try clear hb)
 (try clear hb2)
 (try clear hk)
 (try clear hi)
 refine hK.out _ _ ⟨(blk_cell BK1049.out 0).trans rfl, (blk_cell BK1049.out 1).trans rfl⟩ (fun hHeld => ?_)
 clear hK K
 refine norm_ (a' := ?_) ?_ ?_; rotate_left; (show Act.put _ (some 15) _ = _; simp only [Act.put, put_x, i64_w, i32_w]; rfl)
 refine one_ (i := 16) (N := some 21) (bz 20 131071) rfl rfl (one_of HT_.out (by kernel_rfl)) (by decide) (fun K hK => ?_)
 refine goes_ Try.func31 (by kernel_rfl) rfl #[.pointer (some ⟨g, 0, none⟩), .int .i64 a1_0, .int .i64 a1_1] (by rfl) rfl rfl (by (try simp only [List.map_toArray, List.map_cons, List.map_nil]); first | done | rfl | (simp only [List.length_drop, List.length_take]; rfl)) ?_
 with_reducible refine (swarfkit_Feed_Between.calls g t1051 a1_0 a1_1 t1052 t1053 w0 _ ?side1 ?side2 A4.out).mono ?_
 (case side1 => exact IsS90.up HI0.out)
 (case side2 => exact below_y HB.out)
 rintro e w9 ⟨rfl, hi, hb, hk⟩
 refine ⟨_, rfl, ?_⟩
 replace BK1049 := Aside0.mk (KeepBut.blk hk (blk_x BK1049.out) NB1049_0.out (by simp))
 replace HK := Aside0.mk (KeepBut.trans (by exact keep_y HK.out) hk (.inl rfl))
 replace HB := Aside0.mk (hb)
 replace HI0 := Aside0.mk (hi)
 (try clear hb)
 (try clear hb2)
 (try clear hk)
 (try clear hi)
 refine hK.out _ _ ⟨(blk_cell BK1049.out 0).trans rfl, (blk_cell BK1049.out 1).trans rfl⟩ (fun hHeld => ?_)
 clear hK K
 refine norm_ (a' := ?_) ?_ ?_; rotate_left; (show Act.put _ (some 21) _ = _; simp only [Act.put, put_x, i64_w, i32_w]; rfl)
 refine one_ (i := 17) (N := some 22) (bz 20 262143) rfl rfl (one_of HT_.out (by kernel_rfl)) (by decide) (fun K hK => ?_)
 refine Kd.R_lit_step (Kd.int .i64) _ 3 ?hg (N := 22) ?hd (xs := ([a1_0, a1_1, t1050, t1052] : List Int)) (inner := [.int .i64 a1_0, .int .i64 a1_1, .int .i64 t1050, .int .i64 t1052]) (ok := fun _ => True) (okp := fun _ => True) ?hr ?hp (fun _ hk => hk) trivial (Below.refl _ _) (Nat.le_refl _) (by simp) ?_; (case hd => rfl); (case hg => rfl); (case hr => first | (go_simp; done) | (go_simp; rfl)); (case hp => exact (Reps.one (show Kd.M (Kd.int .i64) _ _ _ a1_0 [.int .i64 a1_0] from rfl) (Reps.one (show Kd.M (Kd.int .i64) _ _ _ a1_1 [.int .i64 a1_1] from rfl) (Reps.one (show Kd.M (Kd.int .i64) _ _ _ t1050 [.int .i64 t1050] from rfl) (Reps.one (show Kd.M (Kd.int .i64) _ _ _ t1052 [.int .i64 t1052] from rfl) (Reps.none _ _))))))
 intro v1055 w10 ho11 hb hg_ hnew_
 clear hg_ hnew_
 (first | rw [← Ny1054.out] at ho11 | (simp only [Int.reduceToNat] at ho11; rw [← Ny1054.out] at ho11))
 have HO1056 := Aside0.mk (Kd.R_lower ho11 (keep_size (w := w) (g := g) (row := none) (by exact keep_y HK.out)))
 replace HI0 := Aside0.mk (IsS90.below (by exact IsS90.up HI0.out) hb)
 replace BK1049 := Aside0.mk (blk_below (blk_x BK1049.out) hb)
 replace HK := Aside0.mk (KeepBut.trans (by exact keep_y HK.out) (KeepBut.of_below hb g none) (.inl rfl))
 replace HB := bl_x HB hb
 clear hb ho11
 obtain ⟨Ao12, co12, eo12⟩ := Kd.R_slice HO1056.out
 (first | subst eo12 | (injection eo12 with f1_ f2_ f3_; have f4_ := f1_.symm; have f5_ := f3_.symm; clear f1_ f2_ f3_; subst f4_; subst f5_))
 refine hK.out _ _ ⟨(blk_cell BK1049.out 0).trans rfl, (blk_cell BK1049.out 1).trans rfl⟩ (fun hHeld => ?_)
 clear hK K
 refine norm_ (a' := ?_) ?_ ?_; rotate_left; (show Act.put _ (some 22) _ = _; simp only [Act.put, put_x, i64_w, i32_w]; rfl)
 refine one_ (i := 18) (N := some 23) (bz 20 524287) rfl rfl (one_of HT_.out (by kernel_rfl)) (by decide) (fun K hK => ?_)
 refine goes_ Try.func18 (by kernel_rfl) rfl #[.pointer (some ⟨g, 0, none⟩), .slice Ao12 y1054.length co12] (by rfl) rfl rfl (by (try simp only [List.map_toArray, List.map_cons, List.map_nil]); first | done | rfl | (simp only [List.length_drop, List.length_take]; rfl)) ?_
 with_reducible refine (swarfkit_Feed_Either.calls g t1053 _ _ y1054 t1057 t1058 w0 _ ?side1 ?side2 ?side3 ?side4 ?side5 A5.out).mono ?_
 (case side1 => exact IsS90.up HI0.out)
 (case side2 => exact below_y HB.out)
 (case side3 => exact Kd.C_y (Kd.R_reads' HO1056.out).2.2)
 (case side4 => exact (Kd.R_reads' HO1056.out).2.1)
 (case side5 => exact far_slice (IsS90.own_ne HI0.out HO1056.out (by decide)))
 rintro e w13 ⟨rfl, hi, hb, hk⟩
 refine ⟨_, rfl, ?_⟩
 replace BK1049 := Aside0.mk (KeepBut.blk hk (blk_x BK1049.out) NB1049_0.out (by simp))
 replace HO1056 := Aside0.mk (Kd.R_mono (Kd.R_keep (IsS90.apart (show IsS90 w0 _ g t1053 from by exact IsS90.up HI0.out) (Kd.R_x HO1056.out) (by decide)) hk (fun _ h => h.2)) (fun _ h => h.1))
 replace HK := Aside0.mk (KeepBut.trans (by exact keep_y HK.out) hk (.inl rfl))
 replace HB := Aside0.mk (hb)
 replace HI0 := Aside0.mk (hi)
 (try clear hb)
 (try clear hb2)
 (try clear hk)
 (try clear hi)
 refine hK.out _ _ ⟨(blk_cell BK1049.out 0).trans rfl, (blk_cell BK1049.out 1).trans rfl⟩ (fun hHeld => ?_)
 clear hK K
 refine norm_ (a' := ?_) ?_ ?_; rotate_left; (show Act.put _ (some 23) _ = _; simp only [Act.put, put_x, i64_w, i32_w]; rfl)
 refine pure_t 19 (some 4) (bz 20 1048575) HT_ ?_
 refine done_ (done_of HT_.out (by kernel_rfl)) ?_
 try go_wp2
 go_ret
 exact ⟨by first | rfl | (simp [errW_none, errW_some] <;> rfl) | (simp [*, errW_none, errW_some] <;> rfl), by exact IsS90.up HI0.out, by exact below_y HB.out, by exact keep_y HK.out⟩
end Go.Proofs.Ytodmemndaaiolaa.PC7
