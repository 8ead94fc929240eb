/- Lemmas on the way to this: Crush says what the reference says, for every car, every list of papers and every list of numbers. -/
import Derived.Test.YtkkmfcdikkiodaaCStripCrushes1
import Derived.Test.YtkkmfcdikkiodaaCStripCrushes2
import Derived.Deep.RegionLaw
namespace Go.Proofs.Ytkkmfcdikkiodaa.PC4
open Go.RowKit Go.Proofs.YtkkmfcdikkiodaaW.PrintWords Go.Proofs.YtkkmfcdikkiodaaW.PrintLast Go.Proofs.YtkkmfcdikkiodaaW.PrintMore
attribute [local go_sem] max2_int min2_int max_two min_two max_three min_three max_four min_four
set_option linter.unusedVariables false
set_option linter.unusedSimpArgs false
def swarfref04_Wrongs.l0 : Nat → List Bool → Int → Int → List (S50) → Int → List (S61) → Int → List Int → Option (Int)
 | 0, _, _, _, _, _, _, _, _ => none
 | k + 1, x1, x5, x6, x200000, x200001, x200002, x200003, x200004 => if x6 < (x200002.length : Int) then (if 0 ≤ x6 then (if 0 ≤ ((rd_T61 x200002 x6).f0) then (if ((rd_T61 x200002 x6).f0) < (x1.length : Int) then (if ((rdOf false x1 ((rd_T61 x200002 x6).f0)) != ((rd_T61 x200002 x6).f1)) = true then (swarfref04_Wrongs.l0 k x1 (wrap64 (x5 + 1)) (wrap64 (x6 + 1)) x200000 x200001 x200002 x200003 x200004) else (swarfref04_Wrongs.l0 k x1 x5 (wrap64 (x6 + 1)) x200000 x200001 x200002 x200003 x200004)) else (none)) else (none)) else (none)) else (some x5)
def swarfref04_Wrongs.f (k : Nat) (l0_0 : List (S50)) (a0_1 : Int) (l0_2 : List (S61)) (a0_3 : Int) (l0_4 : List Int) (l1 : List Bool) : Option (Int) := swarfref04_Wrongs.l0 k l1 0 0 l0_0 a0_1 l0_2 a0_3 l0_4
set_option maxHeartbeats 8000000 in
set_option maxRecDepth 100000 in
theorem swarfref04_Wrongs.calls (k : Nat) (A0_0 : Option Addr) (c0_0 : Nat) (l0_0 : List (S50)) (a0_1 : Int) (A0_2 : Option Addr) (c0_2 : Nat) (l0_2 : List (S61)) (a0_3 : Int) (A0_4 : Option Addr) (c0_4 : Nat) (l0_4 : List Int) (A1 : Option Addr) (c1 : Nat) (l1 : List Bool) (r : Int) (w : World) (hr0_0 : Kd.C k50 w A0_0 l0_0.length l0_0) (hc0_0 : l0_0.length ≤ c0_0) (hr0_2 : Kd.C k61 w A0_2 l0_2.length l0_2) (hc0_2 : l0_2.length ≤ c0_2) (hr0_4 : Kd.C (Kd.int .i64) w A0_4 l0_4.length l0_4) (hc0_4 : l0_4.length ≤ c0_4) (hr1 : Kd.C Kd.bool w A1 l1.length l1) (hc1 : l1.length ≤ c1) (h : swarfref04_Wrongs.f k l0_0 a0_1 l0_2 a0_3 l0_4 l1 = some r) :
  Calls Try.prog 28 #[.agg #[.slice A0_0 l0_0.length c0_0, .int .i64 a0_1, .slice A0_2 l0_2.length c0_2, .int .i64 a0_3, .slice A0_4 l0_4.length c0_4], .slice A1 l1.length c1] w fun e w' => e = .returned (.int .i64 r) ∧ Below w.heap.size w w' := by
 have hu26 := Try.underlying26
 have HR0_0 := Aside0.mk hr0_0
 have HC0_0 := Aside0.mk hc0_0
 clear hr0_0 hc0_0
 have HR0_2 := Aside0.mk hr0_2
 have HC0_2 := Aside0.mk hc0_2
 clear hr0_2 hc0_2
 have HR0_4 := Aside0.mk hr0_4
 have HC0_4 := Aside0.mk hc0_4
 clear hr0_4 hc0_4
 have HR1 := Aside0.mk hr1
 have HC1 := Aside0.mk hc1
 clear hr1 hc1
 have HB := Aside0.mk (Below.refl w.heap.size w)
 have H : (swarfref04_Wrongs.l0 k l1 0 0 l0_0 a0_1 l0_2 a0_3 l0_4) = some r := h
 clear h
 have H' := Aside0.mk H
 clear H
 go_enter Try.func28, Try.ntmps28
 go_wp2_with (first | ((with_reducible refine gate_dst (N := 2) rfl ?_); refine box_event ?hg (N := 2) ?hd (cs := #[.slice A0_0 l0_0.length c0_0, .int .i64 a0_1, .slice A0_2 l0_2.length c0_2, .int .i64 a0_3, .slice A0_4 l0_4.length c0_4]) (t := 26) ?hr ?_; (case hd => rfl); (case hg => rfl); (case hr => first | (go_simp; done) | (go_simp; rfl)); intro gb199 hg w3 hbox hb; have BK199 := Aside0.mk (hbox); have GW199 := Aside0.mk ((by rw [hg]; exact (below_size (below_x HB.out)) : w.heap.size ≤ gb199)); have GE199 := Aside0.mk ((by rw [hg]; exact (below_size (below_x HB.out)) : w.heap.size ≤ gb199)); replace HB := Aside0.mk (below_step (below_x HB.out) hb); clear hb hbox hg))
 repeat (go_quiet (first | ((with_reducible refine gate_dst (N := 2) rfl ?_); refine box_event ?hg (N := 2) ?hd (cs := #[.slice A0_0 l0_0.length c0_0, .int .i64 a0_1, .slice A0_2 l0_2.length c0_2, .int .i64 a0_3, .slice A0_4 l0_4.length c0_4]) (t := 26) ?hr ?_; (case hd => rfl); (case hg => rfl); (case hr => first | (go_simp; done) | (go_simp; rfl)); intro gb199 hg w3 hbox hb; have BK199 := Aside0.mk (hbox); have GW199 := Aside0.mk ((by rw [hg]; exact (below_size (below_x HB.out)) : w.heap.size ≤ gb199)); have GE199 := Aside0.mk ((by rw [hg]; exact (below_size (below_x HB.out)) : w.heap.size ≤ gb199)); replace HB := Aside0.mk (below_step (below_x HB.out) hb); clear hb hbox hg)); try go_wp2_with (first | ((with_reducible refine gate_dst (N := 2) rfl ?_); refine box_event ?hg (N := 2) ?hd (cs := #[.slice A0_0 l0_0.length c0_0, .int .i64 a0_1, .slice A0_2 l0_2.length c0_2, .int .i64 a0_3, .slice A0_4 l0_4.length c0_4]) (t := 26) ?hr ?_; (case hd => rfl); (case hg => rfl); (case hr => first | (go_simp; done) | (go_simp; rfl)); intro gb199 hg w3 hbox hb; have BK199 := Aside0.mk (hbox); have GW199 := Aside0.mk ((by rw [hg]; exact (below_size (below_x HB.out)) : w.heap.size ≤ gb199)); have GE199 := Aside0.mk ((by rw [hg]; exact (below_size (below_x HB.out)) : w.heap.size ≤ gb199)); replace HB := Aside0.mk (below_step (below_x HB.out) hb); clear hb hbox hg)))
 go_loopg [5, 6] k (fun kq v5 v6 w' => ∃ (x5_1 : Int) (x6_1 : Int), v5 = .int .i64 x5_1 ∧ v6 = .int .i64 x6_1 ∧ Aside0 (swarfref04_Wrongs.l0 kq l1 x5_1 x6_1 l0_0 a0_1 l0_2 a0_3 l0_4 = some r) ∧ Aside0 (kq ≤ k) ∧ Aside0 (w'.heap[gb199]? = some (.cells #[(.slice A0_0 l0_0.length c0_0), .int .i64 a0_1, (.slice A0_2 l0_2.length c0_2), .int .i64 a0_3, (.slice A0_4 l0_4.length c0_4)] 26 (0, 0))) ∧ Aside0 (Below w.heap.size w w'))
 case atStart => exact ⟨(0), (0), (by first | rfl | (simp; done) | (simp [*]; done)), (by first | rfl | (simp; done) | (simp [*]; done)), H', ⟨Nat.le_refl _⟩, ⟨blk_x BK199.out⟩, ⟨by exact below_y HB.out⟩⟩
 case round =>
  clear H'
  obtain ⟨x5_1, x6_1, rfl, rfl, HA, HK1, BK199, HB⟩ := hrel
  cases gk with
  | zero => exact absurd HA.out (by simp [swarfref04_Wrongs.l0])
  | succ k1 =>
   have H := HA.out
   clear HA
   simp only [swarfref04_Wrongs.l0] at H
   by_cases c4 : x6_1 < (l0_2.length : Int)
   ·
    rw [if_pos c4] at H
    have c4b0 : decide (x6_1 < (l0_2.length : Int)) = true := decide_eq_true c4
    clear c4
    by_cases c5 : 0 ≤ x6_1
    ·
     rw [if_pos c5] at H
     have c5b0 : decide (0 ≤ x6_1) = true := decide_eq_true c5
     clear c5
     by_cases c6 : 0 ≤ ((rd_T61 l0_2 x6_1).f0)
     ·
      rw [if_pos c6] at H
      have c6b0 : decide (0 ≤ ((rd_T61 l0_2 x6_1).f0)) = true := decide_eq_true c6
      clear c6
      by_cases c7 : ((rd_T61 l0_2 x6_1).f0) < (l1.length : Int)
      ·
       rw [if_pos c7] at H
       have c7b0 : decide (((rd_T61 l0_2 x6_1).f0) < (l1.length : Int)) = true := decide_eq_true c7
       clear c7
       by_cases c8 : ((rdOf false l1 ((rd_T61 l0_2 x6_1).f0)) != ((rd_T61 l0_2 x6_1).f1)) = true
       ·
        rw [if_pos c8] at H
        have c8b0 : ((rdOf false l1 ((rd_T61 l0_2 x6_1).f0)) != ((rd_T61 l0_2 x6_1).f1)) = true := c8
        (try (have c8b1 : decide ((rdOf false l1 ((rd_T61 l0_2 x6_1).f0)) = ((rd_T61 l0_2 x6_1).f1)) = false := by simpa using c8))
        (try (have c8b2 : ((rdOf false l1 ((rd_T61 l0_2 x6_1).f0)) == ((rd_T61 l0_2 x6_1).f1)) = false := by simpa using c8))
        (try (have c8b3 : ¬ ((rdOf false l1 ((rd_T61 l0_2 x6_1).f0)) = ((rd_T61 l0_2 x6_1).f1)) := by simpa using c8))
        clear c8
        have H' := Aside0.mk H
        clear H
        obtain ⟨_, _, _, _, _⟩ := cz5 BK199
        have hfz9_0 := blk_frozen BK199.out
        have p200 : 0 ≤ (x6_1 : Int) := of_x
        have q200 : x6_1 < (l0_2.length : Int) := of_x
        obtain ⟨ad200, e200, hx200_0, hx200_1⟩ := at_T61 HR0_2.out x6_1 p200 q200
        cases e200
        replace hx200_0 := cell_x HB hx200_0
        replace hx200_1 := cell_x HB hx200_1
        replace p200 := eq_true p200
        replace q200 := eq_true q200
        have p201 : 0 ≤ (((rd_T61 l0_2 x6_1).f0) : Int) := of_x
        have q201 : ((rd_T61 l0_2 x6_1).f0) < (l1.length : Int) := of_x
        obtain ⟨ad201, e201, hx201_0⟩ := Kd.at_bool HR1.out ((rd_T61 l0_2 x6_1).f0) p201 q201
        cases e201
        replace hx201_0 := cell_x HB hx201_0
        replace p201 := eq_true p201
        replace q201 := eq_true q201
        have p202 : 0 ≤ (x6_1 : Int) := of_x
        have q202 : x6_1 < (l0_2.length : Int) := of_x
        obtain ⟨ad202, e202, hx202_0, hx202_1⟩ := at_T61 HR0_2.out x6_1 p202 q202
        obtain rfl : ad200 = ad202 := (by injection e202)
        replace hx202_0 := cell_x HB hx202_0
        replace hx202_1 := cell_x HB hx202_1
        replace p202 := eq_true p202
        replace q202 := eq_true q202
        go_wp2
        repeat (go_quiet (fail); try go_wp2)
        go_roundg k1
        case measure => have := HK1.out; omega
        case rel => exact ⟨(wrap64 (x5_1 + 1)), (wrap64 (x6_1 + 1)), (by first | rfl | (simp; done) | (simp [*]; done)), (by first | rfl | (simp; done) | (simp [*]; done)), H', ⟨by have := HK1.out; omega⟩, ⟨blk_x BK199.out⟩, ⟨by exact below_y HB.out⟩⟩
       ·
        rw [if_neg c8] at H
        have c8b0 : ((rdOf false l1 ((rd_T61 l0_2 x6_1).f0)) != ((rd_T61 l0_2 x6_1).f1)) = false := by simpa using c8
        (try (have c8b1 : decide ((rdOf false l1 ((rd_T61 l0_2 x6_1).f0)) = ((rd_T61 l0_2 x6_1).f1)) = true := by simpa using c8))
        (try (have c8b2 : ((rdOf false l1 ((rd_T61 l0_2 x6_1).f0)) == ((rd_T61 l0_2 x6_1).f1)) = true := by simpa using c8))
        clear c8
        have H' := Aside0.mk H
        clear H
        obtain ⟨_, _, _, _, _⟩ := cz5 BK199
        have hfz10_0 := blk_frozen BK199.out
        have p200 : 0 ≤ (x6_1 : Int) := of_x
        have q200 : x6_1 < (l0_2.length : Int) := of_x
        obtain ⟨ad200, e200, hx200_0, hx200_1⟩ := at_T61 HR0_2.out x6_1 p200 q200
        cases e200
        replace hx200_0 := cell_x HB hx200_0
        replace hx200_1 := cell_x HB hx200_1
        replace p200 := eq_true p200
        replace q200 := eq_true q200
        have p201 : 0 ≤ (((rd_T61 l0_2 x6_1).f0) : Int) := of_x
        have q201 : ((rd_T61 l0_2 x6_1).f0) < (l1.length : Int) := of_x
        obtain ⟨ad201, e201, hx201_0⟩ := Kd.at_bool HR1.out ((rd_T61 l0_2 x6_1).f0) p201 q201
        cases e201
        replace hx201_0 := cell_x HB hx201_0
        replace p201 := eq_true p201
        replace q201 := eq_true q201
        have p202 : 0 ≤ (x6_1 : Int) := of_x
        have q202 : x6_1 < (l0_2.length : Int) := of_x
        obtain ⟨ad202, e202, hx202_0, hx202_1⟩ := at_T61 HR0_2.out x6_1 p202 q202
        obtain rfl : ad200 = ad202 := (by injection e202)
        replace hx202_0 := cell_x HB hx202_0
        replace hx202_1 := cell_x HB hx202_1
        replace p202 := eq_true p202
        replace q202 := eq_true q202
        go_wp2
        repeat (go_quiet (fail); try go_wp2)
        go_roundg k1
        case measure => have := HK1.out; omega
        case rel => exact ⟨(x5_1), (wrap64 (x6_1 + 1)), (by first | rfl | (simp; done) | (simp [*]; done)), (by first | rfl | (simp; done) | (simp [*]; done)), H', ⟨by have := HK1.out; omega⟩, ⟨blk_x BK199.out⟩, ⟨by exact below_y HB.out⟩⟩
      ·
       rw [if_neg c7] at H
       exact absurd H (by simp)
     ·
      rw [if_neg c6] at H
      exact absurd H (by simp)
    ·
     rw [if_neg c5] at H
     exact absurd H (by simp)
   ·
    rw [if_neg c4] at H
    have c4b0 : decide (x6_1 < (l0_2.length : Int)) = false := decide_eq_false c4
    clear c4
    obtain rfl := Option.some.inj H
    obtain ⟨_, _, _, _, _⟩ := cz5 BK199
    have hfz11_0 := blk_frozen BK199.out
    go_wp2
    repeat (go_quiet (fail); try go_wp2)
    go_ret
    exact ⟨by first | rfl | (simp [errW_none, errW_some] <;> rfl) | (simp [*, errW_none, errW_some] <;> rfl), by exact below_y HB.out⟩
def swarfkit_Feed_Often.f (s0_0 : Int) (a1 : Int) (a2 : Int) : Option (Bool × Int) := (swarfkit_Feed_Below.f s0_0 a2).bind fun bt203 => (some (decide (bt203.1 < a1), bt203.2))
set_option maxHeartbeats 8000000 in
set_option maxRecDepth 100000 in
theorem swarfkit_Feed_Often.calls (g : Nat) (s0_0 : Int) (a1 : Int) (a2 : Int) (r1 : Bool) (r2 : Int) (w0 w : World) (hI : IsS79 w0 w g s0_0) (hB : Below w0.heap.size w0 w) (h : swarfkit_Feed_Often.f s0_0 a1 a2 = some (r1, r2)) :
  Calls Try.prog 35 #[.pointer (some ⟨g, 0, none⟩), .int .i64 a1, .int .i64 a2] w fun e w' => e = .returned (.bool r1) ∧ IsS79 w0 w' g r2 ∧ Below w0.heap.size w0 w' ∧ KeepBut w w' g none := by
 have HI0 := Aside0.mk hI
 have HK := Aside0.mk (KeepBut.refl w g none)
 have HL := Aside0.mk hB.size
 clear hI
 have HW0 := Aside0.mk hB.size
 have HB := Aside0.mk hB
 clear hB
 have H : ((swarfkit_Feed_Below.f s0_0 a2).bind fun bt203 => (some (decide (bt203.1 < a1), bt203.2))) = some (r1, r2) := h
 clear h
 replace H := Option.bind_eq_some_iff.mp H
 obtain ⟨⟨t203, t204⟩, A40, H⟩ := H
 replace H : (some (decide (t203 < a1), t204)) = some (r1, r2) := H
 have A4 := Aside0.mk A40
 clear A40
 simp only [Option.some.injEq, Prod.mk.injEq] at H
 obtain ⟨rfl, rfl⟩ := H
 go_enter Try.func35, Try.ntmps35
 go_wp2_with (first | ((with_reducible refine gate_callee (f := 25) rfl ?_); refine goesL_ (some 9) rfl rfl Try.func25 (by kernel_rfl) rfl #[.pointer (some ⟨g, 0, none⟩), .int .i64 a2] rfl (by (try simp only [List.map_toArray, List.map_cons, List.map_nil]); first | done | rfl | (simp only [List.length_drop, List.length_take]; rfl)) ?_; (with_reducible refine (swarfkit_Feed_Below.calls g s0_0 a2 t203 t204 w0 _ ?side1 ?side2 A4.out).mono ?_); (case side1 => exact IsS79.up HI0.out); (case side2 => exact below_y HB.out); rintro e w5 ⟨rfl, hi, hb, hk⟩; refine ⟨_, rfl, ?_⟩; replace HK := Aside0.mk (KeepBut.trans (by exact keep_y HK.out) hk (.inl rfl)); replace HB := Aside0.mk (hb); replace HI0 := Aside0.mk (hi); (try clear hb); (try clear hk); (try clear hi)))
 go_ret
 exact ⟨by first | rfl | (simp [errW_none, errW_some] <;> rfl) | (simp [*, errW_none, errW_some] <;> rfl), by exact IsS79.up HI0.out, by exact below_y HB.out, by exact keep_y HK.out⟩
def swarfkit_Feed_Between.f (s0_0 : Int) (a1 : Int) (a2 : Int) : Option (Int × Int) := (swarfkit_Feed_Below.f s0_0 (wrap64 ((wrap64 (a2 - a1)) + 1))).bind fun bt205 => (some (wrap64 (a1 + bt205.1), bt205.2))
set_option maxHeartbeats 8000000 in
set_option maxRecDepth 100000 in
theorem swarfkit_Feed_Between.calls (g : Nat) (s0_0 : Int) (a1 : Int) (a2 : Int) (r1 : Int) (r2 : Int) (w0 w : World) (hI : IsS79 w0 w g s0_0) (hB : Below w0.heap.size w0 w) (h : swarfkit_Feed_Between.f s0_0 a1 a2 = some (r1, r2)) :
  Calls Try.prog 46 #[.pointer (some ⟨g, 0, none⟩), .int .i64 a1, .int .i64 a2] w fun e w' => e = .returned (.int .i64 r1) ∧ IsS79 w0 w' g r2 ∧ Below w0.heap.size w0 w' ∧ KeepBut w w' g none := by
 have HI0 := Aside0.mk hI
 have HK := Aside0.mk (KeepBut.refl w g none)
 have HL := Aside0.mk hB.size
 clear hI
 have HW0 := Aside0.mk hB.size
 have HB := Aside0.mk hB
 clear hB
 have H : ((swarfkit_Feed_Below.f s0_0 (wrap64 ((wrap64 (a2 - a1)) + 1))).bind fun bt205 => (some (wrap64 (a1 + bt205.1), bt205.2))) = some (r1, r2) := h
 clear h
 replace H := Option.bind_eq_some_iff.mp H
 obtain ⟨⟨t205, t206⟩, A40, H⟩ := H
 replace H : (some (wrap64 (a1 + t205), t206)) = some (r1, r2) := H
 have A4 := Aside0.mk A40
 clear A40
 simp only [Option.some.injEq, Prod.mk.injEq] at H
 obtain ⟨rfl, rfl⟩ := H
 go_enter Try.func46, Try.ntmps46
 go_wp2_with (first | ((with_reducible refine gate_callee (f := 25) rfl ?_); refine goesL_ (some 13) rfl rfl Try.func25 (by kernel_rfl) rfl #[.pointer (some ⟨g, 0, none⟩), .int .i64 (wrap64 ((wrap64 (a2 - a1)) + 1))] rfl (by (try simp only [List.map_toArray, List.map_cons, List.map_nil]); first | done | rfl | (simp only [List.length_drop, List.length_take]; rfl)) ?_; (with_reducible refine (swarfkit_Feed_Below.calls g s0_0 (wrap64 ((wrap64 (a2 - a1)) + 1)) t205 t206 w0 _ ?side1 ?side2 A4.out).mono ?_); (case side1 => exact IsS79.up HI0.out); (case side2 => exact below_y HB.out); rintro e w5 ⟨rfl, hi, hb, hk⟩; refine ⟨_, rfl, ?_⟩; replace HK := Aside0.mk (KeepBut.trans (by exact keep_y HK.out) hk (.inl rfl)); replace HB := Aside0.mk (hb); replace HI0 := Aside0.mk (hi); (try clear hb); (try clear hk); (try clear hi)))
 go_ret
 exact ⟨by first | rfl | (simp [errW_none, errW_some] <;> rfl) | (simp [*, errW_none, errW_some] <;> rfl), by exact IsS79.up HI0.out, by exact below_y HB.out, by exact keep_y HK.out⟩
mutual
def swarfkit_CarOf.l0 : Nat → Int → List Bool → Int → Int → List (S50) → Int → Int → Option ((List (S50)) × Int × (List (S61)) × Int × List Int × List Bool × Int)
 | 0, _, _, _, _, _, _, _ => none
 | k + 1, x2, x9, x10, x1000, x209000, x209001, x209003 => if x10 > 0 then ((swarfkit_Feed_Often.f x1000 1 2).bind fun bt211 => ((swarfkit_Feed_Between.f bt211.2 1 3).bind fun bt213 => ((swarfkit_Feed_Below.f bt213.2 30).bind fun bt215 => ((swarfkit_Feed_Below.f bt215.2 30).bind fun bt217 => ((swarfkit_Feed_Either.f bt217.2 (([0, bt215.1, bt217.1] : List Int))).bind fun bt222 => (swarfkit_CarOf.l1 k x2 x9 x10 (x209000.length : Int) true 0 bt222.2 x209000 x209001 x209003 ([] : List Int) bt211.1 bt213.1 bt222.1)))))) else ((swarfkit_Feed_Below.f x1000 9).bind fun bt242 => ((swarfkit_Feed_Either.f bt242.2 (([0, bt242.1] : List Int))).bind fun bt247 => ((swarfkit_Feed_Below.f bt247.2 (wrap64 (x2 + 1))).bind fun bt249 => (swarfkit_CarOf.l2 k x9 bt249.1 bt249.2 x209000 bt247.1 ([] : List (S61)) x209003))))
def swarfkit_CarOf.l1 : Nat → Int → List Bool → Int → Int → Bool → Int → Int → List (S50) → Int → Int → List Int → Bool → Int → Int → Option ((List (S50)) × Int × (List (S61)) × Int × List Int × List Bool × Int)
 | 0, _, _, _, _, _, _, _, _, _, _, _, _, _, _ => none
 | k + 1, x2, x9, x10, x11, x13, x14, x1000, x209000, x209001, x209003, x225000, x225001, x225002, x225003 => if x14 < x11 then ((swarfkit_Feed_Often.f x1000 1 4).bind fun bt225 => (if bt225.1 = true then (if x225000.length < 17592186044416 then ((some (x225000 ++ [x14] : List Int)).bind fun y227 => (if x13 = true then (if 0 ≤ x14 then (if x14 < (x9.length : Int) then (swarfkit_CarOf.l1 k x2 x9 x10 x11 (rdOf false x9 x14) (wrap64 (x14 + 1)) bt225.2 x209000 x209001 x209003 y227 x225001 x225002 x225003) else (none)) else (none)) else (swarfkit_CarOf.l1 k x2 x9 x10 x11 false (wrap64 (x14 + 1)) bt225.2 x209000 x209001 x209003 y227 x225001 x225002 x225003))) else (none)) else (swarfkit_CarOf.l1 k x2 x9 x10 x11 x13 (wrap64 (x14 + 1)) bt225.2 x209000 x209001 x209003 x225000 x225001 x225002 x225003))) else (if x209000.length < 2932031007402 then ((some (x209000 ++ [(⟨x225000, x225001, x225002, x225003⟩ : S50)] : List (S50))).bind fun y231 => (if x13 = true then ((swarfkit_Feed_Often.f x1000 3 5).bind fun bt234 => (if x9.length < 140737488355328 then (swarfkit_CarOf.l0 k x2 (x9 ++ [bt234.1]) (wrap64 (x10 - 1)) bt234.2 y231 x209001 x209003) else (none))) else (if x9.length < 140737488355328 then (swarfkit_CarOf.l0 k x2 (x9 ++ [false]) (wrap64 (x10 - 1)) x1000 y231 x209001 x209003) else (none)))) else (none))
def swarfkit_CarOf.l2 : Nat → List Bool → Int → Int → List (S50) → Int → List (S61) → Int → Option ((List (S50)) × Int × (List (S61)) × Int × List Int × List Bool × Int)
 | 0, _, _, _, _, _, _, _ => none
 | k + 1, x9, x15, x1000, x209000, x209001, x209002, x209003 => if x15 > 0 then ((swarfkit_Feed_Below.f x1000 (x209000.length : Int)).bind fun bt251 => (if 0 ≤ bt251.1 then (if bt251.1 < (x9.length : Int) then ((swarfkit_Feed_Often.f bt251.2 1 6).bind fun bt254 => (if x209002.length < 8796093022208 then (swarfkit_CarOf.l2 k x9 (wrap64 (x15 - 1)) bt254.2 x209000 x209001 (x209002 ++ [(⟨bt251.1, ((rdOf false x9 bt251.1) != bt254.1)⟩ : S61)]) x209003) else (none))) else (none)) else (none))) else ((swarfref04_Wrongs.f k x209000 x209001 x209002 x209003 ([] : List Int) x9).bind fun t259 => ((swarfkit_Feed_Either.f x1000 (([0, 0, 1] : List Int))).bind fun bt263 => (swarfkit_CarOf.l3 k x9 0 bt263.2 x209000 x209001 x209002 (mn 12 (wrap64 (t259 + bt263.1))) ([] : List Int))))
def swarfkit_CarOf.l3 : Nat → List Bool → Int → Int → List (S50) → Int → List (S61) → Int → List Int → Option ((List (S50)) × Int × (List (S61)) × Int × List Int × List Bool × Int)
 | 0, _, _, _, _, _, _, _, _ => none
 | k + 1, x9, x17, x1000, x209000, x209001, x209002, x209003, x209004 => if x17 ≤ 8 then (swarfkit_CarOf.j4 k x9 x17 (decide ((x209004.length : Int) < 3)) x1000 x209000 x209001 x209002 x209003 x209004) else (swarfkit_CarOf.j4 k x9 x17 false x1000 x209000 x209001 x209002 x209003 x209004)
def swarfkit_CarOf.j4 : Nat → List Bool → Int → Bool → Int → List (S50) → Int → List (S61) → Int → List Int → Option ((List (S50)) × Int × (List (S61)) × Int × List Int × List Bool × Int)
 | 0, _, _, _, _, _, _, _, _, _ => none
 | k + 1, x9, x17, x123, x1000, x209000, x209001, x209002, x209003, x209004 => if x123 = true then ((swarfkit_Feed_Often.f x1000 1 5).bind fun bt265 => (if bt265.1 = true then (if x209004.length < 17592186044416 then (swarfkit_CarOf.l3 k x9 (wrap64 (x17 + 1)) bt265.2 x209000 x209001 x209002 x209003 (x209004 ++ [x17])) else (none)) else (swarfkit_CarOf.l3 k x9 (wrap64 (x17 + 1)) bt265.2 x209000 x209001 x209002 x209003 x209004))) else (some (x209000, x209001, x209002, x209003, x209004, x9, x1000))
end
def swarfkit_CarOf.f (k : Nat) (s0_0 : Int) (a1 : Int) (a2 : Int) : Option ((List (S50)) × Int × (List (S61)) × Int × List Int × List Bool × Int) := (swarfkit_Feed_Between.f s0_0 1 a1).bind fun bt209 => (swarfkit_CarOf.l0 k a2 ([] : List Bool) bt209.1 bt209.2 ([] : List (S50)) 0 0)
def swarfkit_CarOf.T13 : Bool × List (List Nat × List Nat) := (true, [([], []), ([0], [0]), ([], []), ([2], [2]), ([1, 3], [1, 3]), ([], []), ([5, 4], [5]), ([6], [6]), ([6], [6]), ([7, 8, 6], [6, 7, 8]), ([9, 6], [6, 9]), ([6, 10], [6, 10]), ([0, 1, 2, 3, 4], []), ([12, 4, 6, 0, 1, 2, 3, 4], [4, 12]), ([11, 13, 0, 1, 2, 3, 4, 5, 6, 7, 8, 9, 10, 11, 12, 13], [5, 11])])
def swarfkit_CarOf.B13 : List Nat := [0, 1, 0, 4, 15, 0, 63, 127, 127, 511, 1023, 2047, 31, 4223, 16383]
theorem swarfkit_CarOf.tab13 : rtab .any (opsOf Try.f17 13) = swarfkit_CarOf.T13 := by kernel_rfl
theorem swarfkit_CarOf.bits13 : waitsOk swarfkit_CarOf.T13.2 swarfkit_CarOf.B13 = true := by kernel_rfl
def swarfkit_CarOf.T20 : Bool × List (List Nat × List Nat) := (true, [([], []), ([0], [0]), ([], []), ([], []), ([], []), ([3, 4], [3, 4]), ([5], [5]), ([], []), ([7], [7]), ([6, 8], [6, 8]), ([2, 9], [2, 9]), ([10], [10]), ([1, 11, 8], [1, 11]), ([0, 1, 2, 3, 4, 5, 6, 7, 8, 9, 10, 11, 12], []), ([13, 12, 12, 0, 1, 2, 3, 4, 5, 6, 7, 8, 9, 10, 11, 12], [12, 13])])
def swarfkit_CarOf.B20 : List Nat := [0, 1, 0, 0, 0, 24, 56, 0, 128, 504, 1020, 2044, 4095, 8191, 16383]
theorem swarfkit_CarOf.tab20 : rtab .any (opsOf Try.f17 20) = swarfkit_CarOf.T20 := by kernel_rfl
theorem swarfkit_CarOf.bits20 : waitsOk swarfkit_CarOf.T20.2 swarfkit_CarOf.B20 = true := by kernel_rfl
set_option maxHeartbeats 8000000 in
set_option maxRecDepth 100000 in
theorem swarfkit_CarOf.calls (k : Nat) (g : Nat) (s0_0 : Int) (a1 : Int) (a2 : Int) (r1 : List (S50)) (r2 : Int) (r3 : List (S61)) (r4 : Int) (r5 : List Int) (r6 : List Bool) (r7 : Int) (w0 w : World) (hI : IsS79 w0 w g s0_0) (hB : Below w0.heap.size w0 w) (h : swarfkit_CarOf.f k s0_0 a1 a2 = some (r1, r2, r3, r4, r5, r6, r7)) :
  Calls Try.prog 17 #[.pointer (some ⟨g, 0, none⟩), .int .i64 a1, .int .i64 a2] w fun e w' => ∃ v0_ v2_ v4_ v5_ : Value, e = .returned (.tuple #[.agg #[v0_, .int .i64 r2, v2_, .int .i64 r4, v4_], v5_]) ∧ Kd.S k50 50 w' w.heap.size (fun k_ => some k_ ≠ (v4_ : Value).ownBlock) v0_ r1 ∧ Kd.R k61 61 w' w.heap.size (fun _ => True) v2_ r3 ∧ Kd.R (Kd.int .i64) 3 w' w.heap.size (fun _ => True) v4_ r5 ∧ Kd.R Kd.bool 4 w' w.heap.size (fun _ => True) v5_ r6 ∧ IsS79 w0 w' g r7 ∧ Below w0.heap.size w0 w' ∧ KeepBut w w' g none := by
 have hu26 := Try.underlying26
 have hu50 := Try.underlying50
 have hu61 := Try.underlying61
 have HI0 := Aside0.mk hI
 have HK := Aside0.mk (KeepBut.refl w g none)
 have HL := Aside0.mk hB.size
 clear hI
 have HW0 := Aside0.mk hB.size
 have HB := Aside0.mk hB
 clear hB
 have H : ((swarfkit_Feed_Between.f s0_0 1 a1).bind fun bt209 => (swarfkit_CarOf.l0 k a2 ([] : List Bool) bt209.1 bt209.2 ([] : List (S50)) 0 0)) = some (r1, r2, r3, r4, r5, r6, r7) := h
 clear h
 replace H := Option.bind_eq_some_iff.mp H
 obtain ⟨⟨t209, t210⟩, A40, H⟩ := H
 try dsimp only at H
 have A4 := Aside0.mk A40
 clear A40
 have H' := Aside0.mk H
 clear H
 go_enter Try.func17, Try.ntmps17
 go_wp2_with (first | ((with_reducible refine gate_dst (N := 6) rfl ?_); (try (refine gate_guard (by rfl) ?_; dsimp only)); refine box_event ?hg (N := 6) ?hd (cs := #[.slice none 0 0, .int .i64 0, .slice none 0 0, .int .i64 0, .slice none 0 0]) (t := 26) ?hr ?_; (case hd => rfl); (case hg => rfl); (case hr => first | (go_simp; done) | (go_simp; rfl)); intro gb207 hg w5 hbox hb; replace HB := bl_x HB hb; have BK207 := Aside0.mk (hbox); have GW207 := Aside0.mk ((by rw [hg]; exact (keep_size (w := w) (g := g) (row := none) (by exact keep_y HK.out)) : w.heap.size ≤ gb207)); have GE207 := Aside0.mk ((Nat.le_trans HW0.out (by rw [hg]; exact (keep_size (w := w) (g := g) (row := none) (by exact keep_y HK.out)) : w.heap.size ≤ gb207) : w0.heap.size ≤ gb207)); replace HK := Aside0.mk (KeepBut.trans (by exact keep_y HK.out) (KeepBut.of_below hb g none) (.inl rfl)); have NB0_207 := Aside0.mk ((by rw [hg]; exact Nat.ne_of_lt (IsS79.lt (show IsS79 w0 _ g s0_0 from by exact IsS79.up HI0.out)) : g ≠ gb207)); have NB207_0 := Aside0.mk ((by rw [hg]; exact Nat.ne_of_gt (IsS79.lt (show IsS79 w0 _ g s0_0 from by exact IsS79.up HI0.out)) : gb207 ≠ g)); replace HI0 := Aside0.mk (IsS79.below (by exact IsS79.up HI0.out) hb); clear hb hbox hg) | ((with_reducible refine gate_dst (N := 8) rfl ?_); (try (refine gate_guard (by rfl) ?_; dsimp only)); refine box_event ?hg (N := 8) ?hd (cs := #[.slice none 0 0, .int .i64 0, .slice none 0 0, .int .i64 0, .slice none 0 0]) (t := 26) ?hr ?_; (case hd => rfl); (case hg => rfl); (case hr => first | (go_simp; done) | (go_simp; rfl)); intro gb208 hg w6 hbox hb; replace HB := bl_x HB hb; have BK208 := Aside0.mk (hbox); have GW208 := Aside0.mk ((by rw [hg]; exact (keep_size (w := w) (g := g) (row := none) (by exact keep_y HK.out)) : w.heap.size ≤ gb208)); have GE208 := Aside0.mk ((Nat.le_trans HW0.out (by rw [hg]; exact (keep_size (w := w) (g := g) (row := none) (by exact keep_y HK.out)) : w.heap.size ≤ gb208) : w0.heap.size ≤ gb208)); replace HK := Aside0.mk (KeepBut.trans (by exact keep_y HK.out) (KeepBut.of_below hb g none) (.inl rfl)); have NB207_208 := Aside0.mk ((by rw [hg]; exact Nat.ne_of_lt (blk_lt (g := gb207) (o := .cells #[.slice none 0 0, .int .i64 0, .slice none 0 0, .int .i64 0, .slice none 0 0] 26 (0, 0)) (blk_x BK207.out)) : gb207 ≠ gb208)); have NB208_207 := Aside0.mk ((by rw [hg]; exact Nat.ne_of_gt (blk_lt (g := gb207) (o := .cells #[.slice none 0 0, .int .i64 0, .slice none 0 0, .int .i64 0, .slice none 0 0] 26 (0, 0)) (blk_x BK207.out)) : gb208 ≠ gb207)); replace BK207 := Aside0.mk (blk_below (blk_x BK207.out) hb); have NB0_208 := Aside0.mk ((by rw [hg]; exact Nat.ne_of_lt (IsS79.lt (show IsS79 w0 _ g s0_0 from by exact IsS79.up HI0.out)) : g ≠ gb208)); have NB208_0 := Aside0.mk ((by rw [hg]; exact Nat.ne_of_gt (IsS79.lt (show IsS79 w0 _ g s0_0 from by exact IsS79.up HI0.out)) : gb208 ≠ g)); replace HI0 := Aside0.mk (IsS79.below (by exact IsS79.up HI0.out) hb); clear hb hbox hg) | ((with_reducible refine gate_callee (f := 46) rfl ?_); refine goesL_ (some 20) rfl rfl Try.func46 (by kernel_rfl) rfl #[.pointer (some ⟨g, 0, none⟩), .int .i64 1, .int .i64 a1] rfl (by (try simp only [List.map_toArray, List.map_cons, List.map_nil]); first | done | rfl | (simp only [List.length_drop, List.length_take]; rfl)) ?_; (with_reducible refine (swarfkit_Feed_Between.calls g s0_0 1 a1 t209 t210 w0 _ ?side1 ?side2 A4.out).mono ?_); (case side1 => exact IsS79.up HI0.out); (case side2 => exact below_y HB.out); rintro e w7 ⟨rfl, hi, hb, hk⟩; refine ⟨_, rfl, ?_⟩; replace BK207 := Aside0.mk (KeepBut.blk hk (blk_x BK207.out) NB207_0.out (by simp)); replace BK208 := Aside0.mk (KeepBut.blk hk (blk_x BK208.out) NB208_0.out (by simp)); replace HK := Aside0.mk (KeepBut.trans (by exact keep_y HK.out) hk (.inl rfl)); replace HB := Aside0.mk (hb); replace HI0 := Aside0.mk (hi); (try clear hb); (try clear hk); (try clear hi)))
 go_loopg [9, 10] k (fun kq v9 v10 w' => ∃ (x9_1 : List Bool) (x10_1 : Int) (x1000_1 : Int) (x209000_1 : List (S50)) (u209000 : Value), v10 = .int .i64 x10_1 ∧ Aside0 (swarfkit_CarOf.l0 kq a2 x9_1 x10_1 x1000_1 x209000_1 0 0 = some (r1, r2, r3, r4, r5, r6, r7)) ∧ Aside0 (kq ≤ k) ∧ Aside0 (Kd.R Kd.bool 4 w' w.heap.size (fun _ => True) v9 x9_1) ∧ Aside0 (Kd.S k50 50 w' w.heap.size (fun _ => True) u209000 x209000_1) ∧ Aside0 (w'.heap[gb207]? = some (.cells #[(.slice none 0 0), .int .i64 0, (.slice none 0 0), .int .i64 0, (.slice none 0 0)] 26 (0, 0))) ∧ Aside0 (w'.heap[gb208]? = some (.cells #[u209000, .int .i64 0, (.slice none 0 0), .int .i64 0, (.slice none 0 0)] 26 (0, 0))) ∧ Aside0 (IsS79 w0 w' g x1000_1) ∧ Aside0 (KeepBut w w' g none) ∧ Aside0 (Below w0.heap.size w0 w'))
 case atStart => exact ⟨(([] : List Bool)), (t209), (t210), (([] : List (S50))), (.slice none 0 0), (by first | rfl | (simp; done) | (simp [*]; done)), H', ⟨Nat.le_refl _⟩, ⟨by first | exact Kd.R_nil _ _ _ _ _ | exact Kd.N_nil _ _ _ _ _ | exact Kd.V_nil _ _ _ _ _ | exact Kd.Q_nil _ _ _ _ _ | exact Kd.S_nil _ _ _ _ _⟩, ⟨by first | exact Kd.S_nil _ _ _ _ _ | exact Kd.N_nil _ _ _ _ _ | exact Kd.V_nil _ _ _ _ _ | exact Kd.Q_nil _ _ _ _ _ | exact Kd.R_nil _ _ _ _ _⟩, ⟨blk_x BK207.out⟩, ⟨blk_x BK208.out⟩, ⟨by exact IsS79.up HI0.out⟩, ⟨by exact keep_y HK.out⟩, ⟨by exact below_y HB.out⟩⟩
 case round =>
  clear H'
  obtain ⟨x9_1, x10_1, x1000_1, x209000_1, u209000, rfl, HA, HK1, HO_9, HO_209000, BK207, BK208, HI0, HK, HB⟩ := hrel
  cases gk with
  | zero => exact absurd HA.out (by simp [swarfkit_CarOf.l0])
  | succ k1 =>
   have H := HA.out
   clear HA
   simp only [swarfkit_CarOf.l0] at H
   by_cases c8 : x10_1 > 0
   ·
    rw [if_pos c8] at H
    have c8b0 : decide (0 < x10_1) = true := decide_eq_true c8
    clear c8
    replace H := Option.bind_eq_some_iff.mp H
    obtain ⟨⟨t211, t212⟩, A90, H⟩ := H
    try dsimp only at H
    have A9 := Aside0.mk A90
    clear A90
    replace H := Option.bind_eq_some_iff.mp H
    obtain ⟨⟨t213, t214⟩, A100, H⟩ := H
    try dsimp only at H
    have A10 := Aside0.mk A100
    clear A100
    replace H := Option.bind_eq_some_iff.mp H
    obtain ⟨⟨t215, t216⟩, A110, H⟩ := H
    try dsimp only at H
    have A11 := Aside0.mk A110
    clear A110
    replace H := Option.bind_eq_some_iff.mp H
    obtain ⟨⟨t217, t218⟩, A120, H⟩ := H
    try dsimp only at H
    have A12 := Aside0.mk A120
    clear A120
    obtain ⟨y219, hy219⟩ : ∃ y_ : List Int, y_ = (([0, t215, t217] : List Int)) := ⟨_, rfl⟩
    replace H : ((swarfkit_Feed_Either.f t218 y219).bind fun bt222 => (swarfkit_CarOf.l1 k1 a2 x9_1 x10_1 (x209000_1.length : Int) true 0 bt222.2 x209000_1 0 0 ([] : List Int) t211 t213 bt222.1)) = some (r1, r2, r3, r4, r5, r6, r7) := by first | (rw [hy219]; with_reducible exact H) | (have H2_ := (Option.bind_some _ _).symm.trans H; rw [hy219]; with_reducible exact H2_) | (have H2_ := (Option.bind_some _ _).symm.trans H; with_reducible exact H2_) | with_reducible exact H | (rw [hy219]; exact H) | exact H
    have Ny219 := Aside0.mk hy219
    clear hy219
    replace H := Option.bind_eq_some_iff.mp H
    obtain ⟨⟨t222, t223⟩, A130, H⟩ := H
    try dsimp only at H
    have A13 := Aside0.mk A130
    clear A130
    have H' := Aside0.mk H
    clear H
    have hnb14 := NB208_207.out
    have hnc14 := NB207_208.out
    have hnb15 := NB208_0.out
    have hnc15 := NB0_208.out
    obtain ⟨_, _, _, _, _⟩ := cz5 BK208
    have hfz16_0 := blk_frozen BK208.out
    obtain ⟨Ao17, co17, eo17⟩ := Kd.S_slice HO_209000.out
    subst eo17
    go_wp2_with (first | ((with_reducible refine gate_callee (f := 35) rfl ?_); refine goesL_ (some 29) rfl rfl Try.func35 (by kernel_rfl) rfl #[.pointer (some ⟨g, 0, none⟩), .int .i64 1, .int .i64 2] rfl (by (try simp only [List.map_toArray, List.map_cons, List.map_nil]); first | done | rfl | (simp only [List.length_drop, List.length_take]; rfl)) ?_; (with_reducible refine (swarfkit_Feed_Often.calls g x1000_1 1 2 t211 t212 w0 _ ?side1 ?side2 A9.out).mono ?_); (case side1 => exact IsS79.up HI0.out); (case side2 => exact below_y HB.out); rintro e w18 ⟨rfl, hi, hb, hk⟩; refine ⟨_, rfl, ?_⟩; replace HO_9 := Aside0.mk (Kd.R_mono (Kd.R_keep (IsS79.apart (show IsS79 w0 _ g x1000_1 from by exact IsS79.up HI0.out) (Kd.R_x HO_9.out) (by decide)) hk (fun _ h => h.2)) (fun _ h => h.1)); replace HO_209000 := Aside0.mk (Kd.S_mono (Kd.S_keep (IsS79.apartS (show IsS79 w0 _ g x1000_1 from by exact IsS79.up HI0.out) (Kd.S_x HO_209000.out) (by decide)) hk (fun _ h => h.2)) (fun _ h => h.1)); replace BK207 := Aside0.mk (KeepBut.blk hk (blk_x BK207.out) NB207_0.out (by simp)); replace BK208 := Aside0.mk (KeepBut.blk hk (blk_x BK208.out) NB208_0.out (by simp)); replace HK := Aside0.mk (KeepBut.trans (by exact keep_y HK.out) hk (.inl rfl)); replace HB := Aside0.mk (hb); replace HI0 := Aside0.mk (hi); (try clear hb); (try clear hk); (try clear hi)) | ((with_reducible refine gate_callee (f := 46) rfl ?_); refine goesL_ (some 31) rfl rfl Try.func46 (by kernel_rfl) rfl #[.pointer (some ⟨g, 0, none⟩), .int .i64 1, .int .i64 3] rfl (by (try simp only [List.map_toArray, List.map_cons, List.map_nil]); first | done | rfl | (simp only [List.length_drop, List.length_take]; rfl)) ?_; (with_reducible refine (swarfkit_Feed_Between.calls g t212 1 3 t213 t214 w0 _ ?side1 ?side2 A10.out).mono ?_); (case side1 => exact IsS79.up HI0.out); (case side2 => exact below_y HB.out); rintro e w19 ⟨rfl, hi, hb, hk⟩; refine ⟨_, rfl, ?_⟩; replace HO_9 := Aside0.mk (Kd.R_mono (Kd.R_keep (IsS79.apart (show IsS79 w0 _ g t212 from by exact IsS79.up HI0.out) (Kd.R_x HO_9.out) (by decide)) hk (fun _ h => h.2)) (fun _ h => h.1)); replace HO_209000 := Aside0.mk (Kd.S_mono (Kd.S_keep (IsS79.apartS (show IsS79 w0 _ g t212 from by exact IsS79.up HI0.out) (Kd.S_x HO_209000.out) (by decide)) hk (fun _ h => h.2)) (fun _ h => h.1)); replace BK207 := Aside0.mk (KeepBut.blk hk (blk_x BK207.out) NB207_0.out (by simp)); replace BK208 := Aside0.mk (KeepBut.blk hk (blk_x BK208.out) NB208_0.out (by simp)); replace HK := Aside0.mk (KeepBut.trans (by exact keep_y HK.out) hk (.inl rfl)); replace HB := Aside0.mk (hb); replace HI0 := Aside0.mk (hi); (try clear hb); (try clear hk); (try clear hi)) | ((with_reducible refine gate_callee (f := 25) rfl ?_); refine goesL_ (some 34) rfl rfl Try.func25 (by kernel_rfl) rfl #[.pointer (some ⟨g, 0, none⟩), .int .i64 30] rfl (by (try simp only [List.map_toArray, List.map_cons, List.map_nil]); first | done | rfl | (simp only [List.length_drop, List.length_take]; rfl)) ?_; (with_reducible refine (swarfkit_Feed_Below.calls g t214 30 t215 t216 w0 _ ?side1 ?side2 A11.out).mono ?_); (case side1 => exact IsS79.up HI0.out); (case side2 => exact below_y HB.out); rintro e w20 ⟨rfl, hi, hb, hk⟩; refine ⟨_, rfl, ?_⟩; replace HO_9 := Aside0.mk (Kd.R_mono (Kd.R_keep (IsS79.apart (show IsS79 w0 _ g t214 from by exact IsS79.up HI0.out) (Kd.R_x HO_9.out) (by decide)) hk (fun _ h => h.2)) (fun _ h => h.1)); replace HO_209000 := Aside0.mk (Kd.S_mono (Kd.S_keep (IsS79.apartS (show IsS79 w0 _ g t214 from by exact IsS79.up HI0.out) (Kd.S_x HO_209000.out) (by decide)) hk (fun _ h => h.2)) (fun _ h => h.1)); replace BK207 := Aside0.mk (KeepBut.blk hk (blk_x BK207.out) NB207_0.out (by simp)); replace BK208 := Aside0.mk (KeepBut.blk hk (blk_x BK208.out) NB208_0.out (by simp)); replace HK := Aside0.mk (KeepBut.trans (by exact keep_y HK.out) hk (.inl rfl)); replace HB := Aside0.mk (hb); replace HI0 := Aside0.mk (hi); (try clear hb); (try clear hk); (try clear hi)) | ((with_reducible refine gate_callee (f := 25) rfl ?_); refine goesL_ (some 36) rfl rfl Try.func25 (by kernel_rfl) rfl #[.pointer (some ⟨g, 0, none⟩), .int .i64 30] rfl (by (try simp only [List.map_toArray, List.map_cons, List.map_nil]); first | done | rfl | (simp only [List.length_drop, List.length_take]; rfl)) ?_; (with_reducible refine (swarfkit_Feed_Below.calls g t216 30 t217 t218 w0 _ ?side1 ?side2 A12.out).mono ?_); (case side1 => exact IsS79.up HI0.out); (case side2 => exact below_y HB.out); rintro e w21 ⟨rfl, hi, hb, hk⟩; refine ⟨_, rfl, ?_⟩; replace HO_9 := Aside0.mk (Kd.R_mono (Kd.R_keep (IsS79.apart (show IsS79 w0 _ g t216 from by exact IsS79.up HI0.out) (Kd.R_x HO_9.out) (by decide)) hk (fun _ h => h.2)) (fun _ h => h.1)); replace HO_209000 := Aside0.mk (Kd.S_mono (Kd.S_keep (IsS79.apartS (show IsS79 w0 _ g t216 from by exact IsS79.up HI0.out) (Kd.S_x HO_209000.out) (by decide)) hk (fun _ h => h.2)) (fun _ h => h.1)); replace BK207 := Aside0.mk (KeepBut.blk hk (blk_x BK207.out) NB207_0.out (by simp)); replace BK208 := Aside0.mk (KeepBut.blk hk (blk_x BK208.out) NB208_0.out (by simp)); replace HK := Aside0.mk (KeepBut.trans (by exact keep_y HK.out) hk (.inl rfl)); replace HB := Aside0.mk (hb); replace HI0 := Aside0.mk (hi); (try clear hb); (try clear hk); (try clear hi)) | ((with_reducible refine gate_dst (N := 37) rfl ?_); (try (refine gate_guard (by rfl) ?_; dsimp only)); refine Kd.R_lit (Kd.int .i64) _ 3 ?hg (N := 37) ?hd (xs := ([0, t215, t217] : List Int)) (inner := [.int .i64 0, .int .i64 t215, .int .i64 t217]) (ok := fun _ => True) (okp := fun _ => True) ?hr ?hp (fun _ hk => hk) trivial (Below.refl _ _) (Nat.le_refl _) (by simp) ?_; (case hd => rfl); (case hg => rfl); (case hr => first | (go_simp; done) | (go_simp; rfl)); (case hp => exact (Reps.one (show Kd.M (Kd.int .i64) _ _ _ 0 [.int .i64 0] from rfl) (Reps.one (show Kd.M (Kd.int .i64) _ _ _ t215 [.int .i64 t215] from rfl) (Reps.one (show Kd.M (Kd.int .i64) _ _ _ t217 [.int .i64 t217] from rfl) (Reps.none _ _))))); intro v220 w22 ho23 hb hg_ hnew_; clear hg_ hnew_; (first | rw [← Ny219.out] at ho23 | (simp only [Int.reduceToNat] at ho23; rw [← Ny219.out] at ho23)); replace HO_9 := Aside0.mk (Kd.R_below (Kd.R_x HO_9.out) hb); replace HO_209000 := Aside0.mk (Kd.S_elder' (Kd.S_x HO_209000.out) (Kd.R_base ho23) hb); have HO221 := Aside0.mk (Kd.R_lower ho23 (keep_size (w := w) (g := g) (row := none) (by exact keep_y HK.out))); replace BK207 := Aside0.mk (blk_below (blk_x BK207.out) hb); replace BK208 := Aside0.mk (blk_below (blk_x BK208.out) hb); replace HI0 := Aside0.mk (IsS79.below (by exact IsS79.up HI0.out) hb); replace HK := Aside0.mk (KeepBut.trans (by exact keep_y HK.out) (KeepBut.of_below hb g none) (.inl rfl)); replace HB := bl_x HB hb; clear hb ho23; obtain ⟨Ao24, co24, eo24⟩ := Kd.R_slice HO221.out; subst eo24) | ((with_reducible refine gate_callee (f := 24) rfl ?_); refine goesL_ (some 38) rfl rfl Try.func24 (by kernel_rfl) rfl #[.pointer (some ⟨g, 0, none⟩), .slice Ao24 y219.length co24] rfl (by (try simp only [List.map_toArray, List.map_cons, List.map_nil]); first | done | rfl | (simp only [List.length_drop, List.length_take]; rfl)) ?_; (with_reducible refine (swarfkit_Feed_Either.calls g t218 _ _ y219 t222 t223 w0 _ ?side1 ?side2 ?side3 ?side4 ?side5 A13.out).mono ?_); (case side1 => exact IsS79.up HI0.out); (case side2 => exact below_y HB.out); (case side3 => exact Kd.C_y (Kd.R_reads' HO221.out).2.2); (case side4 => exact (Kd.R_reads' HO221.out).2.1); (case side5 => exact far_slice (IsS79.own_ne HI0.out HO221.out (by decide))); rintro e w25 ⟨rfl, hi, hb, hk⟩; refine ⟨_, rfl, ?_⟩; replace HO_9 := Aside0.mk (Kd.R_mono (Kd.R_keep (IsS79.apart (show IsS79 w0 _ g t218 from by exact IsS79.up HI0.out) (Kd.R_x HO_9.out) (by decide)) hk (fun _ h => h.2)) (fun _ h => h.1)); replace HO_209000 := Aside0.mk (Kd.S_mono (Kd.S_keep (IsS79.apartS (show IsS79 w0 _ g t218 from by exact IsS79.up HI0.out) (Kd.S_x HO_209000.out) (by decide)) hk (fun _ h => h.2)) (fun _ h => h.1)); replace BK207 := Aside0.mk (KeepBut.blk hk (blk_x BK207.out) NB207_0.out (by simp)); replace BK208 := Aside0.mk (KeepBut.blk hk (blk_x BK208.out) NB208_0.out (by simp)); replace HO221 := Aside0.mk (Kd.R_mono (Kd.R_keep (IsS79.apart (show IsS79 w0 _ g t218 from by exact IsS79.up HI0.out) (Kd.R_x HO221.out) (by decide)) hk (fun _ h => h.2)) (fun _ h => h.1)); replace HK := Aside0.mk (KeepBut.trans (by exact keep_y HK.out) hk (.inl rfl)); replace HB := Aside0.mk (hb); replace HI0 := Aside0.mk (hi); (try clear hb); (try clear hk); (try clear hi)) | ((with_reducible refine gate_dst (N := 12) rfl ?_); (try (refine gate_guard (by rfl) ?_; dsimp only)); refine box_event ?hg (N := 12) ?hd (cs := #[.slice none 0 0, .bool false, .int .i64 0, .int .i64 0]) (t := 50) ?hr ?_; (case hd => rfl); (case hg => rfl); (case hr => first | (go_simp; done) | (go_simp; rfl)); intro gb224 hg w26 hbox hb; replace HO_9 := Aside0.mk (Kd.R_below (Kd.R_x HO_9.out) hb); replace HO_209000 := Aside0.mk (Kd.S_below (Kd.S_elderB (Kd.S_x HO_209000.out) gb224 (Nat.le_of_eq hg.symm)) hb); replace HO221 := Aside0.mk (Kd.R_below (Kd.R_x HO221.out) hb); replace HB := bl_x HB hb; have BK224 := Aside0.mk (hbox); have GW224 := Aside0.mk ((by rw [hg]; exact (keep_size (w := w) (g := g) (row := none) (by exact keep_y HK.out)) : w.heap.size ≤ gb224)); have GE224 := Aside0.mk ((Nat.le_trans HW0.out (by rw [hg]; exact (keep_size (w := w) (g := g) (row := none) (by exact keep_y HK.out)) : w.heap.size ≤ gb224) : w0.heap.size ≤ gb224)); replace HK := Aside0.mk (KeepBut.trans (by exact keep_y HK.out) (KeepBut.of_below hb g none) (.inl rfl)); have NB207_224 := Aside0.mk ((by rw [hg]; exact Nat.ne_of_lt (blk_lt (g := gb207) (o := .cells #[.slice none 0 0, .int .i64 0, .slice none 0 0, .int .i64 0, .slice none 0 0] 26 (0, 0)) (blk_x BK207.out)) : gb207 ≠ gb224)); have NB224_207 := Aside0.mk ((by rw [hg]; exact Nat.ne_of_gt (blk_lt (g := gb207) (o := .cells #[.slice none 0 0, .int .i64 0, .slice none 0 0, .int .i64 0, .slice none 0 0] 26 (0, 0)) (blk_x BK207.out)) : gb224 ≠ gb207)); replace BK207 := Aside0.mk (blk_below (blk_x BK207.out) hb); have NB208_224 := Aside0.mk ((by rw [hg]; exact Nat.ne_of_lt (blk_lt (g := gb208) (o := .cells #[.slice Ao17 x209000_1.length co17, .int .i64 0, .slice none 0 0, .int .i64 0, .slice none 0 0] 26 (0, 0)) (blk_x BK208.out)) : gb208 ≠ gb224)); have NB224_208 := Aside0.mk ((by rw [hg]; exact Nat.ne_of_gt (blk_lt (g := gb208) (o := .cells #[.slice Ao17 x209000_1.length co17, .int .i64 0, .slice none 0 0, .int .i64 0, .slice none 0 0] 26 (0, 0)) (blk_x BK208.out)) : gb224 ≠ gb208)); replace BK208 := Aside0.mk (blk_below (blk_x BK208.out) hb); have NB0_224 := Aside0.mk ((by rw [hg]; exact Nat.ne_of_lt (IsS79.lt (show IsS79 w0 _ g t223 from by exact IsS79.up HI0.out)) : g ≠ gb224)); have NB224_0 := Aside0.mk ((by rw [hg]; exact Nat.ne_of_gt (IsS79.lt (show IsS79 w0 _ g t223 from by exact IsS79.up HI0.out)) : gb224 ≠ g)); replace HI0 := Aside0.mk (IsS79.below (by exact IsS79.up HI0.out) hb); clear hb hbox hg; have hnb27 := NB224_207.out; have hnc27 := NB207_224.out; have hnb28 := NB224_208.out; have hnc28 := NB208_224.out; have hnb29 := NB224_0.out; have hnc29 := NB0_224.out; obtain ⟨_, _, _, _⟩ := cz4 BK224; have hfz30_0 := blk_frozen BK224.out))
    go_loopg [13, 14] k1 (fun kq v13 v14 w' => ∃ (x13_2 : Bool) (x14_2 : Int) (x1000_2 : Int) (x225000_2 : List Int) (u225000 : Value), v13 = .bool x13_2 ∧ v14 = .int .i64 x14_2 ∧ Aside0 (swarfkit_CarOf.l1 kq a2 x9_1 x10_1 (x209000_1.length : Int) x13_2 x14_2 x1000_2 x209000_1 0 0 x225000_2 t211 t213 t222 = some (r1, r2, r3, r4, r5, r6, r7)) ∧ Aside0 (kq ≤ k1) ∧ Aside0 (Kd.R Kd.bool 4 w' w.heap.size (fun _ => True) u9 x9_1) ∧ Aside0 (Kd.S k50 50 w' w.heap.size (fun k_ => some k_ ≠ (u225000 : Value).ownBlock ∧ k_ ≠ gb224) (.slice Ao17 x209000_1.length co17) x209000_1) ∧ Aside0 (Kd.R (Kd.int .i64) 3 w' w.heap.size (fun _ => True) u225000 x225000_2) ∧ Aside0 (w'.heap[gb207]? = some (.cells #[(.slice none 0 0), .int .i64 0, (.slice none 0 0), .int .i64 0, (.slice none 0 0)] 26 (0, 0))) ∧ Aside0 (w'.heap[gb208]? = some (.cells #[(.slice Ao17 x209000_1.length co17), .int .i64 0, (.slice none 0 0), .int .i64 0, (.slice none 0 0)] 26 (0, 0))) ∧ Aside0 (w'.heap[gb224]? = some (.cells #[u225000, .bool t211, .int .i64 t213, .int .i64 t222] 50 (0, 0))) ∧ Aside0 (IsS79 w0 w' g x1000_2) ∧ Aside0 (KeepBut w w' g none) ∧ Aside0 (Below w0.heap.size w0 w'))
    case atStart => exact ⟨(true), (0), (t223), (([] : List Int)), (.slice none 0 0), (by first | rfl | (simp; done) | (simp [*]; done)), (by first | rfl | (simp; done) | (simp [*]; done)), H', ⟨Nat.le_refl _⟩, ⟨by (with_reducible repeat (first | apply Kd.R_alloc | apply Kd.R_drewN | apply Kd.R_drew)); exact Kd.R_mono (Kd.R_far (p := ⟨gb224, 3, none⟩) (Kd.R_far (p := ⟨gb224, 2, none⟩) (Kd.R_far (p := ⟨gb224, 1, none⟩) (Kd.R_far (p := ⟨gb224, 0, none⟩) (Kd.R_types HO_9.out BK224.out (by decide)) (fun _ hk => hk.2) (.slice none 0 0)) (fun _ hk => hk.2) (.bool t211)) (fun _ hk => hk.2) (.int .i64 t213)) (fun _ hk => hk.2) (.int .i64 t222)) (fun _ hk => trivial)⟩, ⟨by (with_reducible repeat (first | apply Kd.S_alloc | apply Kd.S_drewN | apply Kd.S_drew)); exact Kd.S_mono (Kd.S_far (p := ⟨gb224, 3, none⟩) (Kd.S_far (p := ⟨gb224, 2, none⟩) (Kd.S_far (p := ⟨gb224, 1, none⟩) (Kd.S_far (p := ⟨gb224, 0, none⟩) (Kd.S_mono HO_209000.out (fun k_ hk => (⟨hk, hk.2⟩ : _ ∧ k_ ≠ gb224))) (fun _ hk => hk.2) (.slice none 0 0)) (fun _ hk => hk.2) (.bool t211)) (fun _ hk => hk.2) (.int .i64 t213)) (fun _ hk => hk.2) (.int .i64 t222)) (fun _ hk => ⟨(by simp [Value.ownBlock]), hk.1.2⟩)⟩, ⟨by first | exact Kd.R_nil _ _ _ _ _ | exact Kd.N_nil _ _ _ _ _ | exact Kd.V_nil _ _ _ _ _ | exact Kd.Q_nil _ _ _ _ _ | exact Kd.S_nil _ _ _ _ _⟩, ⟨blk_w BK207.out⟩, ⟨blk_w BK208.out⟩, ⟨by (with_reducible repeat (first | refine blk_drewN ?_ _ | refine blk_drew ?_ | refine blk_alloc ?_ _)); refine blk_put (cs := #[.slice none 0 0, .bool t211, .int .i64 t213, .int .i64 0]) ?_ 3 _ rfl; (with_reducible repeat (first | refine blk_drewN ?_ _ | refine blk_drew ?_ | refine blk_alloc ?_ _)); refine blk_put (cs := #[.slice none 0 0, .bool t211, .int .i64 0, .int .i64 0]) ?_ 2 _ rfl; (with_reducible repeat (first | refine blk_drewN ?_ _ | refine blk_drew ?_ | refine blk_alloc ?_ _)); refine blk_put (cs := #[.slice none 0 0, .bool false, .int .i64 0, .int .i64 0]) ?_ 1 _ rfl; (with_reducible repeat (first | refine blk_drewN ?_ _ | refine blk_drew ?_ | refine blk_alloc ?_ _)); refine blk_put (cs := #[.slice none 0 0, .bool false, .int .i64 0, .int .i64 0]) ?_ 0 _ rfl; (with_reducible repeat (first | refine blk_drewN ?_ _ | refine blk_drew ?_ | refine blk_alloc ?_ _)); exact BK224.out⟩, ⟨by exact IsS79.up HI0.out⟩, ⟨by exact keep_y HK.out⟩, ⟨by exact below_y HB.out⟩⟩
    case round =>
     clear H'
     obtain ⟨x13_2, x14_2, x1000_2, x225000_2, u225000, rfl, rfl, HA, HK2, HO_9, HO_209000, HO_225000, BK207, BK208, BK224, HI0, HK, HB⟩ := hrel
     cases gk with
     | zero => exact absurd HA.out (by simp [swarfkit_CarOf.l1])
     | succ k2 =>
      have H := HA.out
      clear HA
      simp only [swarfkit_CarOf.l1] at H
      by_cases c31 : x14_2 < (x209000_1.length : Int)
      ·
       rw [if_pos c31] at H
       have c31b0 : decide (x14_2 < (x209000_1.length : Int)) = true := decide_eq_true c31
       clear c31
       replace H := Option.bind_eq_some_iff.mp H
       obtain ⟨⟨t225, t226⟩, A320, H⟩ := H
       try dsimp only at H
       have A32 := Aside0.mk A320
       clear A320
       by_cases c33 : t225 = true
       ·
        subst c33
        have H1 : (if x225000_2.length < 17592186044416 then ((some (x225000_2 ++ [x14_2] : List Int)).bind fun y227 => (if x13_2 = true then (if 0 ≤ x14_2 then (if x14_2 < (x9_1.length : Int) then (swarfkit_CarOf.l1 k2 a2 x9_1 x10_1 (x209000_1.length : Int) (rdOf false x9_1 x14_2) (wrap64 (x14_2 + 1)) t226 x209000_1 0 0 y227 t211 t213 t222) else (none)) else (none)) else (swarfkit_CarOf.l1 k2 a2 x9_1 x10_1 (x209000_1.length : Int) false (wrap64 (x14_2 + 1)) t226 x209000_1 0 0 y227 t211 t213 t222))) else (none)) = some (r1, r2, r3, r4, r5, r6, r7) := by rw [if_pos rfl] at H; exact H
        clear H
        have H := H1
        clear H1
        by_cases c34 : x225000_2.length < 17592186044416
        ·
         rw [if_pos c34] at H
         have LMc34 := Aside0.mk c34
         clear c34
         obtain ⟨y227, hy227⟩ : ∃ y_ : List Int, y_ = (x225000_2 ++ [x14_2]) := ⟨_, rfl⟩
         replace H : (if x13_2 = true then (if 0 ≤ x14_2 then (if x14_2 < (x9_1.length : Int) then (swarfkit_CarOf.l1 k2 a2 x9_1 x10_1 (x209000_1.length : Int) (rdOf false x9_1 x14_2) (wrap64 (x14_2 + 1)) t226 x209000_1 0 0 y227 t211 t213 t222) else (none)) else (none)) else (swarfkit_CarOf.l1 k2 a2 x9_1 x10_1 (x209000_1.length : Int) false (wrap64 (x14_2 + 1)) t226 x209000_1 0 0 y227 t211 t213 t222)) = some (r1, r2, r3, r4, r5, r6, r7) := by first | (rw [hy227]; with_reducible exact H) | (have H2_ := (Option.bind_some _ _).symm.trans H; rw [hy227]; with_reducible exact H2_) | (have H2_ := (Option.bind_some _ _).symm.trans H; with_reducible exact H2_) | with_reducible exact H | (rw [hy227]; exact H) | exact H
         have Ny227 := Aside0.mk hy227
         clear hy227
         by_cases c35 : x13_2 = true
         ·
          subst c35
          have H1 : (if 0 ≤ x14_2 then (if x14_2 < (x9_1.length : Int) then (swarfkit_CarOf.l1 k2 a2 x9_1 x10_1 (x209000_1.length : Int) (rdOf false x9_1 x14_2) (wrap64 (x14_2 + 1)) t226 x209000_1 0 0 y227 t211 t213 t222) else (none)) else (none)) = some (r1, r2, r3, r4, r5, r6, r7) := by rw [if_pos rfl] at H; exact H
          clear H
          have H := H1
          clear H1
          by_cases c36 : 0 ≤ x14_2
          ·
           rw [if_pos c36] at H
           have c36b0 : decide (0 ≤ x14_2) = true := decide_eq_true c36
           clear c36
           by_cases c37 : x14_2 < (x9_1.length : Int)
           ·
            rw [if_pos c37] at H
            have c37b0 : decide (x14_2 < (x9_1.length : Int)) = true := decide_eq_true c37
            clear c37
            have H' := Aside0.mk H
            clear H
            try go_wp2_with (first | ((with_reducible refine gate_callee (f := 35) rfl ?_); refine goesL_ (some 46) rfl rfl Try.func35 (by kernel_rfl) rfl #[.pointer (some ⟨g, 0, none⟩), .int .i64 1, .int .i64 4] rfl (by (try simp only [List.map_toArray, List.map_cons, List.map_nil]); first | done | rfl | (simp only [List.length_drop, List.length_take]; rfl)) ?_; (with_reducible refine (swarfkit_Feed_Often.calls g x1000_2 1 4 true t226 w0 _ ?side1 ?side2 A32.out).mono ?_); (case side1 => exact IsS79.up HI0.out); (case side2 => exact below_y HB.out); rintro e w38 ⟨rfl, hi, hb, hk⟩; refine ⟨_, rfl, ?_⟩; replace HO_9 := Aside0.mk (Kd.R_mono (Kd.R_keep (IsS79.apart (show IsS79 w0 _ g x1000_2 from by exact IsS79.up HI0.out) (Kd.R_x HO_9.out) (by decide)) hk (fun _ h => h.2)) (fun _ h => h.1)); replace HO_209000 := Aside0.mk (Kd.S_mono (Kd.S_keep (IsS79.apartS (show IsS79 w0 _ g x1000_2 from by exact IsS79.up HI0.out) (Kd.S_x HO_209000.out) (by decide)) hk (fun _ h => h.2)) (fun _ h => h.1)); replace HO_225000 := Aside0.mk (Kd.R_mono (Kd.R_keep (IsS79.apart (show IsS79 w0 _ g x1000_2 from by exact IsS79.up HI0.out) (Kd.R_x HO_225000.out) (by decide)) hk (fun _ h => h.2)) (fun _ h => h.1)); replace BK207 := Aside0.mk (KeepBut.blk hk (blk_x BK207.out) NB207_0.out (by simp)); replace BK208 := Aside0.mk (KeepBut.blk hk (blk_x BK208.out) NB208_0.out (by simp)); replace BK224 := Aside0.mk (KeepBut.blk hk (blk_x BK224.out) NB224_0.out (by simp)); replace HK := Aside0.mk (KeepBut.trans (by exact keep_y HK.out) hk (.inl rfl)); replace HB := Aside0.mk (hb); replace HI0 := Aside0.mk (hi); (try clear hb); (try clear hk); (try clear hi)))
            replace HO_9 := Aside0.mk (Kd.R_drew HO_9.out)
            replace HO_209000 := Aside0.mk (Kd.S_drew HO_209000.out)
            replace HO_225000 := Aside0.mk (Kd.R_drew HO_225000.out)
            replace BK207 := Aside0.mk (blk_drew BK207.out)
            replace BK208 := Aside0.mk (blk_drew BK208.out)
            replace BK224 := Aside0.mk (blk_drew BK224.out)
            replace HI0 := Aside0.mk (IsS79.drew HI0.out)
            replace HK := Aside0.mk (keep_drew HK.out)
            replace HB := Aside0.mk (below_drew1 HB.out)
            have p230 : 0 ≤ (x14_2 : Int) := of_x
            have q230 : x14_2 < (x9_1.length : Int) := of_x
            obtain ⟨Ao_, co_, eo_⟩ := Kd.R_slice HO_9.out
            subst eo_
            obtain ⟨ad230, e230, hx230_0⟩ := Kd.at_bool (Kd.R_reads' HO_9.out).2.2 x14_2 p230 q230
            cases e230
            replace p230 := eq_true p230
            replace q230 := eq_true q230
            have hne_ : (ad230.add (x14_2).toNat).block ≠ gb224 := by
             first | rw [add_block] | (show (Addr.add _ _).block ≠ _; rw [add_block])
             intro e_
             obtain ⟨_, hz_⟩ := Kd.R_typed HO_9.out _ rfl
             rw [e_, BK224.out] at hz_
             injection hz_ with hz_
             injection hz_ with _ hz_
             exact absurd hz_ (by decide)
            have hc0_ : w38.cell? ⟨gb224, 0, none⟩ = some (u225000) := (blk_cell BK224.out 0).trans rfl
            have hc1_ : w38.cell? ⟨gb224, 1, none⟩ = some (.bool t211) := (blk_cell BK224.out 1).trans rfl
            have hc2_ : w38.cell? ⟨gb224, 2, none⟩ = some (.int .i64 t213) := (blk_cell BK224.out 2).trans rfl
            have hc3_ : w38.cell? ⟨gb224, 3, none⟩ = some (.int .i64 t222) := (blk_cell BK224.out 3).trans rfl
            have hx_ : w38.cell? (ad230.add (x14_2).toNat) = some (.bool (rdOf false x9_1 x14_2)) := hx230_0
            have hcA0_ : (w38.alloc (.cells #[.int .i64 x14_2] 3)).cell? ⟨gb224, 0, none⟩ = some (u225000) := (blk_cell (blk_alloc BK224.out _) 0).trans rfl
            have hcA1_ : (w38.alloc (.cells #[.int .i64 x14_2] 3)).cell? ⟨gb224, 1, none⟩ = some (.bool t211) := (blk_cell (blk_alloc BK224.out _) 1).trans rfl
            have hcA2_ : (w38.alloc (.cells #[.int .i64 x14_2] 3)).cell? ⟨gb224, 2, none⟩ = some (.int .i64 t213) := (blk_cell (blk_alloc BK224.out _) 2).trans rfl
            have hcA3_ : (w38.alloc (.cells #[.int .i64 x14_2] 3)).cell? ⟨gb224, 3, none⟩ = some (.int .i64 t222) := (blk_cell (blk_alloc BK224.out _) 3).trans rfl
            have hxA_ : (w38.alloc (.cells #[.int .i64 x14_2] 3)).cell? (ad230.add (x14_2).toNat) = some (.bool (rdOf false x9_1 x14_2)) := (World.cell?_alloc_lt _ _ _ (World.block_lt_of_cell? _ _ hx_)).trans hx_
            go_region_law ((refine Kd.R_append_step (W := w38.drew) (Kd.int .i64) w.heap.size (by rfl) (.tmp 48) (.tmp 50) 24 3 (.int .i64 0) 8 (by rfl) Try.underlying24 info3 rfl (by decide) (by omega) u225000 x225000_2 x14_2 [.int .i64 x14_2] (fun _ => True) (fun _ => False) (by rfl) (by rfl) ?aP (fun _ hk => hk.elim) ?aF ?aO (Below.refl _ _) ?aS ?aL ?_; (case aP => exact rfl); (case aF => exact (fun _ _ => trivial)); (case aO => exact (Kd.R_x HO_225000.out)); (case aS => exact (keep_size (w := w) (g := g) (row := none) (by exact keep_y HK.out))); (case aL => have := LMc34.out; omega); intro v228 w40 ho hb hg hat; (first | have HS4_ := cell_grown hg (hx230_0) (by first | exact (by obtain ⟨_, hz_⟩ := Kd.R_typed HO_9.out _ rfl; exact Kd.R_ne HO_225000.out hz_ (by decide)) | (rw [add_block]; exact (by obtain ⟨_, hz_⟩ := Kd.R_typed HO_9.out _ rfl; exact Kd.R_ne HO_225000.out hz_ (by decide))) | (show some (Addr.add _ _).block ≠ _; rw [add_block]; exact (by obtain ⟨_, hz_⟩ := Kd.R_typed HO_9.out _ rfl; exact Kd.R_ne HO_225000.out hz_ (by decide)))) | have HS4_ := cell_grown hg (cell_unalloc (hx230_0) (by first | exact (by obtain ⟨_, hz_⟩ := Kd.R_typed HO_9.out _ rfl; exact blk_lt hz_) | (rw [add_block]; exact (by obtain ⟨_, hz_⟩ := Kd.R_typed HO_9.out _ rfl; exact blk_lt hz_)) | (show (Addr.add _ _).block < _; rw [add_block]; exact (by obtain ⟨_, hz_⟩ := Kd.R_typed HO_9.out _ rfl; exact blk_lt hz_)))) (by first | exact (by obtain ⟨_, hz_⟩ := Kd.R_typed HO_9.out _ rfl; exact Kd.R_ne HO_225000.out hz_ (by decide)) | (rw [add_block]; exact (by obtain ⟨_, hz_⟩ := Kd.R_typed HO_9.out _ rfl; exact Kd.R_ne HO_225000.out hz_ (by decide))) | (show some (Addr.add _ _).block ≠ _; rw [add_block]; exact (by obtain ⟨_, hz_⟩ := Kd.R_typed HO_9.out _ rfl; exact Kd.R_ne HO_225000.out hz_ (by decide))))); rw [← Ny227.out] at ho; replace HO_9 := Aside0.mk (Kd.R_over' (Kd.R_x HO_9.out) (Kd.R_typed (Kd.R_x HO_225000.out)) (by decide) hg); replace HO_209000 := Aside0.mk (Kd.S_after (ok := (fun k_ => k_ ≠ gb224)) (by (with_reducible repeat (first | apply Kd.S_alloc | apply Kd.S_drewN | apply Kd.S_drew)); exact Kd.S_mono HO_209000.out (fun _ hk => ⟨hk.2, hk.1⟩)) hg hat); replace BK207 := Aside0.mk (blk_grown (blk_x BK207.out) hg (Kd.R_ne HO_225000.out BK207.out (by decide))); replace BK208 := Aside0.mk (blk_grown (blk_x BK208.out) hg (Kd.R_ne HO_225000.out BK208.out (by decide))); replace BK224 := Aside0.mk (blk_grown (blk_x BK224.out) hg (Kd.R_ne HO_225000.out BK224.out (by decide))); replace HI0 := Aside0.mk (IsS79.grown (by exact IsS79.up HI0.out) hg (IsS79.own_ne HI0.out HO_225000.out (by decide))); replace HB := Aside0.mk (below_weaken (by exact below_y HB.out) HL.out hb); replace HK := Aside0.mk (KeepBut.trans (by exact keep_y HK.out) (KeepBut.of_grown hg g) (Kd.R_base2 HO_225000.out)); have HO229 := Aside0.mk (ho); clear HO_225000; clear ho hb hg hat; obtain ⟨Ao41, co41, eo41⟩ := Kd.R_slice HO_9.out; (first | subst eo41 | (injection eo41 with f1_ f2_ f3_; have f4_ := f1_.symm; have f5_ := f3_.symm; clear f1_ f2_ f3_; subst f4_; subst f5_)); obtain ⟨Ao42, co42, eo42⟩ := Kd.R_slice HO229.out; (first | subst eo42 | (injection eo42 with f1_ f2_ f3_; have f4_ := f1_.symm; have f5_ := f3_.symm; clear f1_ f2_ f3_; subst f4_; subst f5_)); have hs43 : w40.cell? ⟨gb224, 0, none⟩ = some (u225000) := (blk_cell BK224.out 0).trans rfl; have hfs43 := blk_frozen BK224.out 0; have hns43_0 := NB207_224.out; have hns43_1 := NB208_224.out; have hms43_0 := NB224_207.out; have hms43_1 := NB224_208.out; have hxS_ : (w40.setCell ⟨gb224, 0, none⟩ (.slice Ao42 y227.length co42)).cell? (ad230.add (x14_2).toNat) = some (.bool (rdOf false x9_1 x14_2)) := (cell_far (p := ⟨gb224, 0, none⟩) hne_ _).trans HS4_))
            all_goals
             try go_wp2
             go_roundg k2
             case measure => have := HK1.out; have := HK2.out; omega
             case rel => exact ⟨(rdOf false x9_1 x14_2), (wrap64 (x14_2 + 1)), (t226), (y227), (.slice Ao42 y227.length co42), (by first | rfl | (simp; done) | (simp [*]; done)), (by first | rfl | (simp; done) | (simp [*]; done)), H', ⟨by have := HK1.out; have := HK2.out; omega⟩, ⟨by (with_reducible repeat (first | apply Kd.R_alloc | apply Kd.R_drewN | apply Kd.R_drew)); exact Kd.R_mono (Kd.R_far (p := ⟨gb224, 0, none⟩) (Kd.R_types HO_9.out BK224.out (by decide)) (fun _ hk => hk.2) (.slice Ao42 y227.length co42)) (fun _ hk => trivial)⟩, ⟨by (with_reducible repeat (first | apply Kd.S_alloc | apply Kd.S_drewN | apply Kd.S_drew)); exact Kd.S_mono (Kd.S_far (p := ⟨gb224, 0, none⟩) (Kd.S_mono HO_209000.out (fun k_ hk => (⟨hk, hk.1⟩ : _ ∧ k_ ≠ gb224))) (fun _ hk => hk.2) (.slice Ao42 y227.length co42)) (fun _ hk => ⟨hk.1.2, hk.1.1⟩)⟩, ⟨by (with_reducible repeat (first | apply Kd.R_alloc | apply Kd.R_drewN | apply Kd.R_drew)); exact Kd.R_mono (Kd.R_far (p := ⟨gb224, 0, none⟩) (Kd.R_types HO229.out BK224.out (by decide)) (fun _ hk => hk.2) (.slice Ao42 y227.length co42)) (fun _ hk => trivial)⟩, ⟨blk_w BK207.out⟩, ⟨blk_w BK208.out⟩, ⟨by (with_reducible repeat (first | refine blk_drewN ?_ _ | refine blk_drew ?_ | refine blk_alloc ?_ _)); refine blk_put (cs := #[u225000, .bool t211, .int .i64 t213, .int .i64 t222]) ?_ 0 _ rfl; (with_reducible repeat (first | refine blk_drewN ?_ _ | refine blk_drew ?_ | refine blk_alloc ?_ _)); exact BK224.out⟩, ⟨by exact IsS79.up HI0.out⟩, ⟨by exact keep_y HK.out⟩, ⟨by exact below_y HB.out⟩⟩
           ·
            rw [if_neg c37] at H
            exact absurd H (by simp)
          ·
           rw [if_neg c36] at H
           exact absurd H (by simp)
         ·
          replace c35 := Bool.eq_false_iff.mpr c35
          subst c35
          have H1 : (swarfkit_CarOf.l1 k2 a2 x9_1 x10_1 (x209000_1.length : Int) false (wrap64 (x14_2 + 1)) t226 x209000_1 0 0 y227 t211 t213 t222) = some (r1, r2, r3, r4, r5, r6, r7) := by rw [if_neg (show ¬ (false = true) by decide)] at H; exact H
          clear H
          have H := H1
          clear H1
          have H' := Aside0.mk H
          clear H
          try go_wp2_with (first | ((with_reducible refine gate_callee (f := 35) rfl ?_); refine goesL_ (some 46) rfl rfl Try.func35 (by kernel_rfl) rfl #[.pointer (some ⟨g, 0, none⟩), .int .i64 1, .int .i64 4] rfl (by (try simp only [List.map_toArray, List.map_cons, List.map_nil]); first | done | rfl | (simp only [List.length_drop, List.length_take]; rfl)) ?_; (with_reducible refine (swarfkit_Feed_Often.calls g x1000_2 1 4 true t226 w0 _ ?side1 ?side2 A32.out).mono ?_); (case side1 => exact IsS79.up HI0.out); (case side2 => exact below_y HB.out); rintro e w44 ⟨rfl, hi, hb, hk⟩; refine ⟨_, rfl, ?_⟩; replace HO_9 := Aside0.mk (Kd.R_mono (Kd.R_keep (IsS79.apart (show IsS79 w0 _ g x1000_2 from by exact IsS79.up HI0.out) (Kd.R_x HO_9.out) (by decide)) hk (fun _ h => h.2)) (fun _ h => h.1)); replace HO_209000 := Aside0.mk (Kd.S_mono (Kd.S_keep (IsS79.apartS (show IsS79 w0 _ g x1000_2 from by exact IsS79.up HI0.out) (Kd.S_x HO_209000.out) (by decide)) hk (fun _ h => h.2)) (fun _ h => h.1)); replace HO_225000 := Aside0.mk (Kd.R_mono (Kd.R_keep (IsS79.apart (show IsS79 w0 _ g x1000_2 from by exact IsS79.up HI0.out) (Kd.R_x HO_225000.out) (by decide)) hk (fun _ h => h.2)) (fun _ h => h.1)); replace BK207 := Aside0.mk (KeepBut.blk hk (blk_x BK207.out) NB207_0.out (by simp)); replace BK208 := Aside0.mk (KeepBut.blk hk (blk_x BK208.out) NB208_0.out (by simp)); replace BK224 := Aside0.mk (KeepBut.blk hk (blk_x BK224.out) NB224_0.out (by simp)); replace HK := Aside0.mk (KeepBut.trans (by exact keep_y HK.out) hk (.inl rfl)); replace HB := Aside0.mk (hb); replace HI0 := Aside0.mk (hi); (try clear hb); (try clear hk); (try clear hi)))
          replace HO_9 := Aside0.mk (Kd.R_drew HO_9.out)
          replace HO_209000 := Aside0.mk (Kd.S_drew HO_209000.out)
          replace HO_225000 := Aside0.mk (Kd.R_drew HO_225000.out)
          replace BK207 := Aside0.mk (blk_drew BK207.out)
          replace BK208 := Aside0.mk (blk_drew BK208.out)
          replace BK224 := Aside0.mk (blk_drew BK224.out)
          replace HI0 := Aside0.mk (IsS79.drew HI0.out)
          replace HK := Aside0.mk (keep_drew HK.out)
          replace HB := Aside0.mk (below_drew1 HB.out)
          refine start_ (n := 15) (S := fun w' => w'.cell? ⟨gb224, 0, none⟩ = some (u225000) ∧ w'.cell? ⟨gb224, 1, none⟩ = some (.bool t211) ∧ w'.cell? ⟨gb224, 2, none⟩ = some (.int .i64 t213) ∧ w'.cell? ⟨gb224, 3, none⟩ = some (.int .i64 t222)) (ds := [13]) #[false, false, false, false, false, false, false, false, false, false, false, false, false, false, false] (by kernel_rfl) rfl rfl ⟨(blk_cell BK224.out 0).trans rfl, (blk_cell BK224.out 1).trans rfl, (blk_cell BK224.out 2).trans rfl, (blk_cell BK224.out 3).trans rfl⟩ (fun hHeld => ?_); refine with_tabW swarfkit_CarOf.tab13 swarfkit_CarOf.bits13 (fun HT_ HW_ => ?_)
          generalize w44.drew = w45 at HO_9 HO_209000 HO_225000 BK207 BK208 BK224 HI0 HK HB hHeld ⊢
          refine pure_ (i := 0) (N := some 47) (v := ?_) (a' := ?_) (bz 15 1) rfl rfl (any_of HT_.out (by kernel_rfl)) (fun _ _ _ h => h) (Or.inl ⟨by rfl, ?_⟩) ?_ ?_
          rotate_left
          ·
           intro w'
           go_simp
           with_reducible rfl
          rotate_left
          ·
           simp only [Act.put, put_x, i64_w, i32_w]
           rfl
          refine pure_ (i := 2) (N := some 49) (v := ?_) (a' := ?_) (bz 15 5) rfl rfl (any_of HT_.out (by kernel_rfl)) (fun _ _ _ h => h) (Or.inl ⟨by rfl, ?_⟩) ?_ ?_
          rotate_left
          ·
           intro w'
           go_simp
           with_reducible rfl
          rotate_left
          ·
           simp only [Act.put, put_x, i64_w, i32_w]
           rfl
          refine pure_ (i := 5) (N := some 52) (v := ?_) (a' := ?_) (bz 15 37) rfl rfl (any_of HT_.out (by kernel_rfl)) (fun _ _ _ h => h) (Or.inl ⟨by rfl, ?_⟩) ?_ ?_
          rotate_left
          ·
           intro w'
           go_simp
           with_reducible rfl
          rotate_left
          ·
           simp only [Act.put, put_x, i64_w, i32_w]
           rfl
          refine take_ (i := 1) (N := some 48) (v := ?_) (a' := ?_) (bz 15 39) rfl rfl (take_ofW HT_.out HW_.out (by kernel_rfl)) (fun _ _ _ h => h) (Or.inl ⟨by rfl, ?_⟩) hHeld ?_ ?_
          rotate_left
          ·
           rintro w' ⟨s0, s1, s2, s3⟩
           go_simp
           with_reducible rfl
          rotate_left
          ·
           simp only [Act.put, put_x, i64_w, i32_w]
           rfl
          refine one_ (i := 3) (N := some 50) (bz 15 47) rfl rfl (one_of HT_.out (by kernel_rfl)) (by decide) (fun K hK => ?_)
          refine value_ (w1 := ?_) (v := ?_) (by rfl) rfl ?_ ?_
          rotate_left 2
          ·
           go_simp
           constructor
           ·
            rfl
           ·
            rfl
          refine hK.out _ _ ⟨(blk_cell (blk_alloc BK224.out _) 0).trans rfl, (blk_cell (blk_alloc BK224.out _) 1).trans rfl, (blk_cell (blk_alloc BK224.out _) 2).trans rfl, (blk_cell (blk_alloc BK224.out _) 3).trans rfl⟩ (fun hHeld => ?_)
          clear hK K
          refine norm_ (a' := ?_) ?_ ?_
          rotate_left
          ·
           show Act.put _ (some 50) _ = _
           simp only [Act.put, put_x, i64_w, i32_w]
           rfl
          refine one_ (i := 4) (N := some 51) (bz 15 63) rfl rfl (one_of HT_.out (by kernel_rfl)) (by decide) (fun K hK => ?_)
          refine Kd.R_append_step (Kd.int .i64) w.heap.size (by rfl) (.tmp 48) (.tmp 50) 24 3 (.int .i64 0) 8 rfl Try.underlying24 info3 rfl (by decide) (by omega) u225000 x225000_2 x14_2 [.int .i64 x14_2] (fun _ => True) (fun _ => False) rfl rfl ?aP (fun _ hk => hk.elim) ?aF ?aO (Below.refl _ _) ?aS ?aL ?_
          (case aP => exact rfl)
          (case aF => exact (fun _ _ => trivial))
          (case aO => exact (Kd.R_x HO_225000.out))
          (case aS => exact (keep_size (w := w) (g := g) (row := none) (by exact keep_y HK.out)))
          (case aL => have := LMc34.out; omega)
          intro v228 w46 ho hb hg hat
          rw [← Ny227.out] at ho
          replace HO_9 := Aside0.mk (Kd.R_over' (Kd.R_x HO_9.out) (Kd.R_typed (Kd.R_x HO_225000.out)) (by decide) hg)
          replace HO_209000 := Aside0.mk (Kd.S_after (ok := (fun k_ => k_ ≠ gb224)) (by (with_reducible repeat (first | apply Kd.S_alloc | apply Kd.S_drewN | apply Kd.S_drew)); exact Kd.S_mono HO_209000.out (fun _ hk => ⟨hk.2, hk.1⟩)) hg hat)
          replace BK207 := Aside0.mk (blk_grown (blk_x BK207.out) hg (Kd.R_ne HO_225000.out BK207.out (by decide)))
          replace BK208 := Aside0.mk (blk_grown (blk_x BK208.out) hg (Kd.R_ne HO_225000.out BK208.out (by decide)))
          replace BK224 := Aside0.mk (blk_grown (blk_x BK224.out) hg (Kd.R_ne HO_225000.out BK224.out (by decide)))
          replace HI0 := Aside0.mk (IsS79.grown (by exact IsS79.up HI0.out) hg (IsS79.own_ne HI0.out HO_225000.out (by decide)))
          replace HB := Aside0.mk (below_weaken (by exact below_y HB.out) HL.out hb)
          replace HK := Aside0.mk (KeepBut.trans (by exact keep_y HK.out) (KeepBut.of_grown hg g) (Kd.R_base2 HO_225000.out))
          have HO229 := Aside0.mk (ho)
          clear HO_225000 ho hb hg hat
          obtain ⟨Ao47, co47, eo47⟩ := Kd.R_slice HO229.out
          (first | subst eo47 | (injection eo47 with f1_ f2_ f3_; have f4_ := f1_.symm; have f5_ := f3_.symm; clear f1_ f2_ f3_; subst f4_; subst f5_))
          refine hK.out _ _ ⟨(blk_cell BK224.out 0).trans rfl, (blk_cell BK224.out 1).trans rfl, (blk_cell BK224.out 2).trans rfl, (blk_cell BK224.out 3).trans rfl⟩ (fun hHeld => ?_)
          clear hK K
          refine norm_ (a' := ?_) ?_ ?_
          rotate_left
          ·
           show Act.put _ (some 51) _ = _
           simp only [Act.put, put_x, i64_w, i32_w]
           rfl
          refine pure_ (i := 6) (N := some 53) (v := ?_) (a' := ?_) (bz 15 127) rfl rfl (any_of HT_.out (by kernel_rfl)) (fun _ _ _ h => h) (Or.inl ⟨by rfl, ?_⟩) ?_ ?_
          rotate_left
          ·
           intro w'
           go_simp
           with_reducible rfl
          rotate_left
          ·
           simp only [Act.put, put_x, i64_w, i32_w]
           rfl
          refine pure_ (i := 7) (N := some 54) (v := undef) (a' := ?_) (bz 15 255) rfl rfl (any_of HT_.out (by kernel_rfl)) (fun _ _ _ h => h) (Or.inr ⟨by rfl, rfl⟩) ?_ ?_
          rotate_left
          ·
           simp only [Act.put, put_x, i64_w, i32_w]
           rfl
          refine pure_ (i := 8) (N := some 55) (v := undef) (a' := ?_) (bz 15 511) rfl rfl (any_of HT_.out (by kernel_rfl)) (fun _ _ _ h => h) (Or.inr ⟨by rfl, rfl⟩) ?_ ?_
          rotate_left
          ·
           simp only [Act.put, put_x, i64_w, i32_w]
           rfl
          refine pure_ (i := 9) (N := some 56) (v := undef) (a' := ?_) (bz 15 1023) rfl rfl (any_of HT_.out (by kernel_rfl)) (fun _ _ _ h => h) (Or.inr ⟨by rfl, rfl⟩) ?_ ?_
          rotate_left
          ·
           simp only [Act.put, put_x, i64_w, i32_w]
           rfl
          refine pure_ (i := 10) (N := some 57) (v := undef) (a' := ?_) (bz 15 2047) rfl rfl (any_of HT_.out (by kernel_rfl)) (fun _ _ _ h => h) (Or.inr ⟨by rfl, rfl⟩) ?_ ?_
          rotate_left
          ·
           simp only [Act.put, put_x, i64_w, i32_w]
           rfl
          refine pure_ (i := 11) (N := some 58) (v := ?_) (a' := ?_) (bz 15 4095) rfl rfl (any_of HT_.out (by kernel_rfl)) (fun _ _ _ h => h) (Or.inl ⟨by rfl, ?_⟩) ?_ ?_
          rotate_left
          ·
           intro w'
           go_simp
           with_reducible rfl
          rotate_left
          ·
           simp only [Act.put, put_x, i64_w, i32_w]
           rfl
          refine pure_ (i := 12) (N := some 59) (v := ?_) (a' := ?_) (bz 15 8191) rfl rfl (any_of HT_.out (by kernel_rfl)) (fun _ _ _ h => h) (Or.inl ⟨by rfl, ?_⟩) ?_ ?_
          rotate_left
          ·
           intro w'
           go_simp
           with_reducible rfl
          rotate_left
          ·
           simp only [Act.put, put_x, i64_w, i32_w]
           rfl
          refine last_ (i := 13) (N := none) (bz 15 16383) rfl rfl (one_of HT_.out (by kernel_rfl)) (by decide) (fun K hK => ?_)
          have hs48 : w46.cell? ⟨gb224, 0, none⟩ = some (u225000) := (blk_cell BK224.out 0).trans rfl
          have hfs48 := blk_frozen BK224.out 0
          have hns48_0 := NB207_224.out
          have hns48_1 := NB208_224.out
          have hms48_0 := NB224_207.out
          have hms48_1 := NB224_208.out
          refine skip_ (w1 := ?_) (by rfl) rfl ?_ ?_
          rotate_left
          ·
           go_simp
           rfl
          refine hK.out _ _ ?_
          clear hK K
          refine pure_ (i := 14) (N := some 13) (v := ?_) (a' := ?_) (bz 15 32767) rfl rfl (any_of HT_.out (by kernel_rfl)) (fun _ _ _ h => h) (Or.inl ⟨by rfl, ?_⟩) ?_ ?_
          rotate_left
          ·
           intro w'
           go_simp
           with_reducible rfl
          rotate_left
          ·
           simp only [Act.put, put_x, i64_w, i32_w]
           rfl
          refine done_ (done_of HT_.out (by kernel_rfl)) ?_
          try go_wp2
          go_roundg k2
          case measure => have := HK1.out; have := HK2.out; omega
          case rel => exact ⟨(false), (wrap64 (x14_2 + 1)), (t226), (y227), (.slice Ao47 y227.length co47), (by first | rfl | (simp; done) | (simp [*]; done)), (by first | rfl | (simp; done) | (simp [*]; done)), H', ⟨by have := HK1.out; have := HK2.out; omega⟩, ⟨by (with_reducible repeat (first | apply Kd.R_alloc | apply Kd.R_drewN | apply Kd.R_drew)); exact Kd.R_mono (Kd.R_far (p := ⟨gb224, 0, none⟩) (Kd.R_types HO_9.out BK224.out (by decide)) (fun _ hk => hk.2) (.slice Ao47 y227.length co47)) (fun _ hk => trivial)⟩, ⟨by (with_reducible repeat (first | apply Kd.S_alloc | apply Kd.S_drewN | apply Kd.S_drew)); exact Kd.S_mono (Kd.S_far (p := ⟨gb224, 0, none⟩) (Kd.S_mono HO_209000.out (fun k_ hk => (⟨hk, hk.1⟩ : _ ∧ k_ ≠ gb224))) (fun _ hk => hk.2) (.slice Ao47 y227.length co47)) (fun _ hk => ⟨hk.1.2, hk.1.1⟩)⟩, ⟨by (with_reducible repeat (first | apply Kd.R_alloc | apply Kd.R_drewN | apply Kd.R_drew)); exact Kd.R_mono (Kd.R_far (p := ⟨gb224, 0, none⟩) (Kd.R_types HO229.out BK224.out (by decide)) (fun _ hk => hk.2) (.slice Ao47 y227.length co47)) (fun _ hk => trivial)⟩, ⟨blk_w BK207.out⟩, ⟨blk_w BK208.out⟩, ⟨by (with_reducible repeat (first | refine blk_drewN ?_ _ | refine blk_drew ?_ | refine blk_alloc ?_ _)); refine blk_put (cs := #[u225000, .bool t211, .int .i64 t213, .int .i64 t222]) ?_ 0 _ rfl; (with_reducible repeat (first | refine blk_drewN ?_ _ | refine blk_drew ?_ | refine blk_alloc ?_ _)); exact BK224.out⟩, ⟨by exact IsS79.up HI0.out⟩, ⟨by exact keep_y HK.out⟩, ⟨by exact below_y HB.out⟩⟩
        ·
         rw [if_neg c34] at H
         exact absurd H (by simp)
       ·
        replace c33 := Bool.eq_false_iff.mpr c33
        subst c33
        have H1 : (swarfkit_CarOf.l1 k2 a2 x9_1 x10_1 (x209000_1.length : Int) x13_2 (wrap64 (x14_2 + 1)) t226 x209000_1 0 0 x225000_2 t211 t213 t222) = some (r1, r2, r3, r4, r5, r6, r7) := by rw [if_neg (show ¬ (false = true) by decide)] at H; exact H
        clear H
        have H := H1
        clear H1
        have H' := Aside0.mk H
        clear H
        go_wp2_with (first | ((with_reducible refine gate_callee (f := 35) rfl ?_); refine goesL_ (some 46) rfl rfl Try.func35 (by kernel_rfl) rfl #[.pointer (some ⟨g, 0, none⟩), .int .i64 1, .int .i64 4] rfl (by (try simp only [List.map_toArray, List.map_cons, List.map_nil]); first | done | rfl | (simp only [List.length_drop, List.length_take]; rfl)) ?_; (with_reducible refine (swarfkit_Feed_Often.calls g x1000_2 1 4 false t226 w0 _ ?side1 ?side2 A32.out).mono ?_); (case side1 => exact IsS79.up HI0.out); (case side2 => exact below_y HB.out); rintro e w49 ⟨rfl, hi, hb, hk⟩; refine ⟨_, rfl, ?_⟩; replace HO_9 := Aside0.mk (Kd.R_mono (Kd.R_keep (IsS79.apart (show IsS79 w0 _ g x1000_2 from by exact IsS79.up HI0.out) (Kd.R_x HO_9.out) (by decide)) hk (fun _ h => h.2)) (fun _ h => h.1)); replace HO_209000 := Aside0.mk (Kd.S_mono (Kd.S_keep (IsS79.apartS (show IsS79 w0 _ g x1000_2 from by exact IsS79.up HI0.out) (Kd.S_x HO_209000.out) (by decide)) hk (fun _ h => h.2)) (fun _ h => h.1)); replace HO_225000 := Aside0.mk (Kd.R_mono (Kd.R_keep (IsS79.apart (show IsS79 w0 _ g x1000_2 from by exact IsS79.up HI0.out) (Kd.R_x HO_225000.out) (by decide)) hk (fun _ h => h.2)) (fun _ h => h.1)); replace BK207 := Aside0.mk (KeepBut.blk hk (blk_x BK207.out) NB207_0.out (by simp)); replace BK208 := Aside0.mk (KeepBut.blk hk (blk_x BK208.out) NB208_0.out (by simp)); replace BK224 := Aside0.mk (KeepBut.blk hk (blk_x BK224.out) NB224_0.out (by simp)); replace HK := Aside0.mk (KeepBut.trans (by exact keep_y HK.out) hk (.inl rfl)); replace HB := Aside0.mk (hb); replace HI0 := Aside0.mk (hi); (try clear hb); (try clear hk); (try clear hi)))
        go_roundg k2
        case measure => have := HK1.out; have := HK2.out; omega
        case rel => exact ⟨(x13_2), (wrap64 (x14_2 + 1)), (t226), (x225000_2), (u225000), (by first | rfl | (simp; done) | (simp [*]; done)), (by first | rfl | (simp; done) | (simp [*]; done)), H', ⟨by have := HK1.out; have := HK2.out; omega⟩, ⟨by (with_reducible repeat (first | apply Kd.R_alloc | apply Kd.R_drewN | apply Kd.R_drew)); exact HO_9.out⟩, ⟨by (with_reducible repeat (first | apply Kd.S_alloc | apply Kd.S_drewN | apply Kd.S_drew)); exact HO_209000.out⟩, ⟨by (with_reducible repeat (first | apply Kd.R_alloc | apply Kd.R_drewN | apply Kd.R_drew)); exact HO_225000.out⟩, ⟨blk_x BK207.out⟩, ⟨blk_x BK208.out⟩, ⟨blk_x BK224.out⟩, ⟨by exact IsS79.up HI0.out⟩, ⟨by exact keep_y HK.out⟩, ⟨by exact below_y HB.out⟩⟩
      ·
       rw [if_neg c31] at H
       have c31b0 : decide (x14_2 < (x209000_1.length : Int)) = false := decide_eq_false c31
       clear c31
       by_cases c50 : x209000_1.length < 2932031007402
       ·
        rw [if_pos c50] at H
        have LMc50 := Aside0.mk c50
        clear c50
        obtain ⟨y231, hy231⟩ : ∃ y_ : List (S50), y_ = (x209000_1 ++ [(⟨x225000_2, t211, t213, t222⟩ : S50)]) := ⟨_, rfl⟩
        replace H : (if x13_2 = true then ((swarfkit_Feed_Often.f x1000_2 3 5).bind fun bt234 => (if x9_1.length < 140737488355328 then (swarfkit_CarOf.l0 k2 a2 (x9_1 ++ [bt234.1]) (wrap64 (x10_1 - 1)) bt234.2 y231 0 0) else (none))) else (if x9_1.length < 140737488355328 then (swarfkit_CarOf.l0 k2 a2 (x9_1 ++ [false]) (wrap64 (x10_1 - 1)) x1000_2 y231 0 0) else (none))) = some (r1, r2, r3, r4, r5, r6, r7) := by first | (rw [hy231]; with_reducible exact H) | (have H2_ := (Option.bind_some _ _).symm.trans H; rw [hy231]; with_reducible exact H2_) | (have H2_ := (Option.bind_some _ _).symm.trans H; with_reducible exact H2_) | with_reducible exact H | (rw [hy231]; exact H) | exact H
        have Ny231 := Aside0.mk hy231
        clear hy231
        by_cases c51 : x13_2 = true
        ·
         subst c51
         have H1 : ((swarfkit_Feed_Often.f x1000_2 3 5).bind fun bt234 => (if x9_1.length < 140737488355328 then (swarfkit_CarOf.l0 k2 a2 (x9_1 ++ [bt234.1]) (wrap64 (x10_1 - 1)) bt234.2 y231 0 0) else (none))) = some (r1, r2, r3, r4, r5, r6, r7) := by rw [if_pos rfl] at H; exact H
         clear H
         have H := H1
         clear H1
         replace H := Option.bind_eq_some_iff.mp H
         obtain ⟨⟨t234, t235⟩, A520, H⟩ := H
         try dsimp only at H
         have A52 := Aside0.mk A520
         clear A520
         by_cases c53 : x9_1.length < 140737488355328
         ·
          rw [if_pos c53] at H
          have LMc53 := Aside0.mk c53
          clear c53
          obtain ⟨y236, hy236⟩ : ∃ y_ : List Bool, y_ = (x9_1 ++ [t234]) := ⟨_, rfl⟩
          replace H : (swarfkit_CarOf.l0 k2 a2 y236 (wrap64 (x10_1 - 1)) t235 y231 0 0) = some (r1, r2, r3, r4, r5, r6, r7) := by first | (rw [hy236]; with_reducible exact H) | (have H2_ := (Option.bind_some _ _).symm.trans H; rw [hy236]; with_reducible exact H2_) | (have H2_ := (Option.bind_some _ _).symm.trans H; with_reducible exact H2_) | with_reducible exact H | (rw [hy236]; exact H) | exact H
          have Ny236 := Aside0.mk hy236
          clear hy236
          have H' := Aside0.mk H
          clear H
          have hnb54 := NB208_207.out
          have hnc54 := NB207_208.out
          have hnb55 := NB208_224.out
          have hnc55 := NB224_208.out
          have hnb56 := NB208_0.out
          have hnc56 := NB0_208.out
          obtain ⟨_, _, _, _, _⟩ := cz5 BK208
          have hfz57_0 := blk_frozen BK208.out
          have hnb58 := NB224_207.out
          have hnc58 := NB207_224.out
          have hnb59 := NB224_0.out
          have hnc59 := NB0_224.out
          obtain ⟨_, _, _, _⟩ := cz4 BK224
          have hfz60_0 := blk_frozen BK224.out
          obtain ⟨Ao62, co62, eo62⟩ := Kd.R_slice HO_225000.out
          subst eo62
          go_wp2_with (first | ((with_reducible refine gate_builtin (b := .append) (xs := #[.tmp 61, .tmp 63]) rfl ?_); (try (refine gate_guard (by rfl) ?_; dsimp only)); at_builtin; refine Kd.S_append k50 w.heap.size rfl (.tmp 61) (.tmp 63) 22 50 (.agg #[(.slice none 0 0), (.bool false), (.int .i64 0), (.int .i64 0)]) 48 rfl Try.underlying22 info50 rfl (by decide) (by omega) (.slice Ao17 x209000_1.length co17) x209000_1 (⟨x225000_2, t211, t213, t222⟩ : S50) [.slice Ao62 x225000_2.length co62, .bool t211, .int .i64 t213, .int .i64 t222] (fun k_ => k_ ≠ gb224) (fun k_ => some k_ = (.slice Ao62 x225000_2.length co62 : Value).ownBlock) rfl rfl ?aP (fun k_ hk_ => ((Kd.R_mono (ok' := fun k_ => ((fun k_ => k_ ≠ gb224)) k_ ∧ some k_ ≠ (.slice Ao17 x209000_1.length co17 : Value).ownBlock) (Kd.R_types (Kd.R_apart' (HO_225000.out) (Kd.S_typed HO_209000.out) (by decide)) BK224.out (by decide)) (fun k_ hk => ⟨hk.2, hk.1.2⟩))).1 k_ hk_.symm) ?aF ?aO (Below.refl _ _) ?aS ?aL ?_; (case aP => exact k50_mkM _ _ _ (⟨x225000_2, t211, t213, t222⟩ : S50) (Kd.R_mono (Kd.R_tight rfl (Kd.R_mono (ok' := fun k_ => ((fun k_ => k_ ≠ gb224)) k_ ∧ some k_ ≠ (.slice Ao17 x209000_1.length co17 : Value).ownBlock) (Kd.R_types (Kd.R_apart' (HO_225000.out) (Kd.S_typed HO_209000.out) (by decide)) BK224.out (by decide)) (fun k_ hk => ⟨hk.2, hk.1.2⟩))) (fun _ h_ => h_))); (case aF => exact (fun k_ hk => Kd.freshB (g := gb224) (o := .cells #[.slice Ao62 x225000_2.length co62, .bool t211, .int .i64 t213, .int .i64 t222] 50 (0, 0)) (blk_x BK224.out) k_ hk)); (case aO => exact (by (with_reducible repeat (first | apply Kd.S_alloc | apply Kd.S_drewN | apply Kd.S_drew)); exact Kd.S_mono HO_209000.out (fun k_ hk => ⟨hk.2, fun e_ => hk.1 e_⟩))); (case aS => exact (keep_size (w := w) (g := g) (row := none) (by exact keep_y HK.out))); (case aL => have := LMc50.out; omega); intro v232 w61 ho hb hg hat; rw [← Ny231.out] at ho; replace HO_9 := Aside0.mk (Kd.R_over' (Kd.R_x HO_9.out) (Kd.S_typed (Kd.S_x HO_209000.out)) (by decide) hg); replace BK207 := Aside0.mk (blk_grown (blk_x BK207.out) hg (Kd.S_ne HO_209000.out BK207.out (by decide))); replace BK208 := Aside0.mk (blk_grown (blk_x BK208.out) hg (Kd.S_ne HO_209000.out BK208.out (by decide))); replace BK224 := Aside0.mk (blk_grown (blk_x BK224.out) hg (Kd.S_away HO_209000.out (fun _ hk => hk.2))); replace HI0 := Aside0.mk (IsS79.grown (by exact IsS79.up HI0.out) hg (IsS79.own_neS HI0.out HO_209000.out (by decide))); replace HB := Aside0.mk (below_weaken (by exact below_y HB.out) HL.out hb); replace HK := Aside0.mk (KeepBut.trans (by exact keep_y HK.out) (KeepBut.of_grown hg g) (Kd.S_base2 HO_209000.out)); have HO233 := Aside0.mk (ho); clear HO_209000 HO_225000; clear ho hb hg hat) | (go_at_call 35; (with_reducible refine (swarfkit_Feed_Often.calls g x1000_2 3 5 t234 t235 w0 _ ?side1 ?side2 A52.out).mono ?_); (case side1 => exact IsS79.up HI0.out); (case side2 => exact below_y HB.out); rintro e w63 ⟨rfl, hi, hb, hk⟩; replace HO_9 := Aside0.mk (Kd.R_mono (Kd.R_keep (IsS79.apart (show IsS79 w0 _ g x1000_2 from by exact IsS79.up HI0.out) (Kd.R_x HO_9.out) (by decide)) hk (fun _ h => h.2)) (fun _ h => h.1)); replace BK207 := Aside0.mk (KeepBut.blk hk (blk_x BK207.out) NB207_0.out (by simp)); replace BK208 := Aside0.mk (KeepBut.blk hk (blk_x BK208.out) NB208_0.out (by simp)); replace BK224 := Aside0.mk (KeepBut.blk hk (blk_x BK224.out) NB224_0.out (by simp)); replace HO233 := Aside0.mk (Kd.S_mono (Kd.S_keep (IsS79.apartS (show IsS79 w0 _ g x1000_2 from by exact IsS79.up HI0.out) (Kd.S_x HO233.out) (by decide)) hk (fun _ h => h.2)) (fun _ h => h.1)); replace HK := Aside0.mk (KeepBut.trans (by exact keep_y HK.out) hk (.inl rfl)); replace HB := Aside0.mk (hb); replace HI0 := Aside0.mk (hi); (try clear hb); (try clear hk); (try clear hi)) | ((with_reducible refine gate_builtin (b := .append) (xs := #[.tmp 65, .tmp 71]) rfl ?_); (try (refine gate_guard (by rfl) ?_; dsimp only)); at_builtin; refine Kd.R_append Kd.bool w.heap.size rfl (.tmp 65) (.tmp 71) 31 4 (.bool false) 1 rfl Try.underlying31 info4 rfl (by decide) (by omega) u9 x9_1 t234 [.bool t234] (fun _ => True) (fun _ => False) rfl rfl ?aP (fun _ hk => hk.elim) ?aF ?aO (Below.refl _ _) ?aS ?aL ?_; (case aP => exact rfl); (case aF => exact (fun _ _ => trivial)); (case aO => exact (Kd.R_x HO_9.out)); (case aS => exact (keep_size (w := w) (g := g) (row := none) (by exact keep_y HK.out))); (case aL => have := LMc53.out; omega); intro v237 w64 ho hb hg hat; rw [← Ny236.out] at ho; replace BK207 := Aside0.mk (blk_grown (blk_x BK207.out) hg (Kd.R_ne HO_9.out BK207.out (by decide))); replace BK208 := Aside0.mk (blk_grown (blk_x BK208.out) hg (Kd.R_ne HO_9.out BK208.out (by decide))); replace BK224 := Aside0.mk (blk_grown (blk_x BK224.out) hg (Kd.R_ne HO_9.out BK224.out (by decide))); replace HI0 := Aside0.mk (IsS79.grown (by exact IsS79.up HI0.out) hg (IsS79.own_ne HI0.out HO_9.out (by decide))); replace HO233 := Aside0.mk (Kd.S_over' (Kd.S_x HO233.out) (Kd.R_typed (Kd.R_x HO_9.out)) (by decide) hg); replace HB := Aside0.mk (below_weaken (by exact below_y HB.out) HL.out hb); replace HK := Aside0.mk (KeepBut.trans (by exact keep_y HK.out) (KeepBut.of_grown hg g) (Kd.R_base2 HO_9.out)); have HO238 := Aside0.mk (ho); clear HO_9; clear ho hb hg hat; obtain ⟨Ao65, co65, eo65⟩ := Kd.S_slice HO233.out; subst eo65; obtain ⟨_, _, _, _, _⟩ := cz5 BK208; have hfz66_0 := blk_frozen BK208.out))
          go_roundg k2
          case measure => have := HK1.out; have := HK2.out; omega
          case rel => exact ⟨(y236), (wrap64 (x10_1 - 1)), (t235), (y231), (.slice Ao65 y231.length co65), (by first | rfl | (simp; done) | (simp [*]; done)), H', ⟨by have := HK1.out; have := HK2.out; omega⟩, ⟨by (with_reducible repeat (first | apply Kd.R_alloc | apply Kd.R_drewN | apply Kd.R_drew)); exact Kd.R_mono (Kd.R_far (p := ⟨gb208, 0, none⟩) (Kd.R_types HO238.out BK208.out (by decide)) (fun _ hk => hk.2) (.slice Ao65 y231.length co65)) (fun _ hk => trivial)⟩, ⟨by (with_reducible repeat (first | apply Kd.S_alloc | apply Kd.S_drewN | apply Kd.S_drew)); exact Kd.S_mono (Kd.S_far (p := ⟨gb208, 0, none⟩) (Kd.S_types HO233.out BK208.out (by decide)) (fun _ hk => hk.2) (.slice Ao65 y231.length co65)) (fun _ hk => trivial)⟩, ⟨blk_w BK207.out⟩, ⟨by (with_reducible repeat (first | refine blk_drewN ?_ _ | refine blk_drew ?_ | refine blk_alloc ?_ _)); refine blk_put (cs := #[.slice Ao17 x209000_1.length co17, .int .i64 0, .slice none 0 0, .int .i64 0, .slice none 0 0]) ?_ 0 _ rfl; (with_reducible repeat (first | refine blk_drewN ?_ _ | refine blk_drew ?_ | refine blk_alloc ?_ _)); exact BK208.out⟩, ⟨by exact IsS79.up HI0.out⟩, ⟨by exact keep_y HK.out⟩, ⟨by exact below_y HB.out⟩⟩
         ·
          rw [if_neg c53] at H
          exact absurd H (by simp)
        ·
         replace c51 := Bool.eq_false_iff.mpr c51
         subst c51
         have H1 : (if x9_1.length < 140737488355328 then (swarfkit_CarOf.l0 k2 a2 (x9_1 ++ [false]) (wrap64 (x10_1 - 1)) x1000_2 y231 0 0) else (none)) = some (r1, r2, r3, r4, r5, r6, r7) := by rw [if_neg (show ¬ (false = true) by decide)] at H; exact H
         clear H
         have H := H1
         clear H1
         by_cases c67 : x9_1.length < 140737488355328
         ·
          rw [if_pos c67] at H
          have LMc67 := Aside0.mk c67
          clear c67
          obtain ⟨y239, hy239⟩ : ∃ y_ : List Bool, y_ = (x9_1 ++ [false]) := ⟨_, rfl⟩
          replace H : (swarfkit_CarOf.l0 k2 a2 y239 (wrap64 (x10_1 - 1)) x1000_2 y231 0 0) = some (r1, r2, r3, r4, r5, r6, r7) := by first | (rw [hy239]; with_reducible exact H) | (have H2_ := (Option.bind_some _ _).symm.trans H; rw [hy239]; with_reducible exact H2_) | (have H2_ := (Option.bind_some _ _).symm.trans H; with_reducible exact H2_) | with_reducible exact H | (rw [hy239]; exact H) | exact H
          have Ny239 := Aside0.mk hy239
          clear hy239
          have H' := Aside0.mk H
          clear H
          have hnb68 := NB208_207.out
          have hnc68 := NB207_208.out
          have hnb69 := NB208_224.out
          have hnc69 := NB224_208.out
          have hnb70 := NB208_0.out
          have hnc70 := NB0_208.out
          obtain ⟨_, _, _, _, _⟩ := cz5 BK208
          have hfz71_0 := blk_frozen BK208.out
          have hnb72 := NB224_207.out
          have hnc72 := NB207_224.out
          have hnb73 := NB224_0.out
          have hnc73 := NB0_224.out
          obtain ⟨_, _, _, _⟩ := cz4 BK224
          have hfz74_0 := blk_frozen BK224.out
          obtain ⟨Ao76, co76, eo76⟩ := Kd.R_slice HO_225000.out
          subst eo76
          go_wp2_with (first | ((with_reducible refine gate_builtin (b := .append) (xs := #[.tmp 61, .tmp 63]) rfl ?_); (try (refine gate_guard (by rfl) ?_; dsimp only)); at_builtin; refine Kd.S_append k50 w.heap.size rfl (.tmp 61) (.tmp 63) 22 50 (.agg #[(.slice none 0 0), (.bool false), (.int .i64 0), (.int .i64 0)]) 48 rfl Try.underlying22 info50 rfl (by decide) (by omega) (.slice Ao17 x209000_1.length co17) x209000_1 (⟨x225000_2, t211, t213, t222⟩ : S50) [.slice Ao76 x225000_2.length co76, .bool t211, .int .i64 t213, .int .i64 t222] (fun k_ => k_ ≠ gb224) (fun k_ => some k_ = (.slice Ao76 x225000_2.length co76 : Value).ownBlock) rfl rfl ?aP (fun k_ hk_ => ((Kd.R_mono (ok' := fun k_ => ((fun k_ => k_ ≠ gb224)) k_ ∧ some k_ ≠ (.slice Ao17 x209000_1.length co17 : Value).ownBlock) (Kd.R_types (Kd.R_apart' (HO_225000.out) (Kd.S_typed HO_209000.out) (by decide)) BK224.out (by decide)) (fun k_ hk => ⟨hk.2, hk.1.2⟩))).1 k_ hk_.symm) ?aF ?aO (Below.refl _ _) ?aS ?aL ?_; (case aP => exact k50_mkM _ _ _ (⟨x225000_2, t211, t213, t222⟩ : S50) (Kd.R_mono (Kd.R_tight rfl (Kd.R_mono (ok' := fun k_ => ((fun k_ => k_ ≠ gb224)) k_ ∧ some k_ ≠ (.slice Ao17 x209000_1.length co17 : Value).ownBlock) (Kd.R_types (Kd.R_apart' (HO_225000.out) (Kd.S_typed HO_209000.out) (by decide)) BK224.out (by decide)) (fun k_ hk => ⟨hk.2, hk.1.2⟩))) (fun _ h_ => h_))); (case aF => exact (fun k_ hk => Kd.freshB (g := gb224) (o := .cells #[.slice Ao76 x225000_2.length co76, .bool t211, .int .i64 t213, .int .i64 t222] 50 (0, 0)) (blk_x BK224.out) k_ hk)); (case aO => exact (by (with_reducible repeat (first | apply Kd.S_alloc | apply Kd.S_drewN | apply Kd.S_drew)); exact Kd.S_mono HO_209000.out (fun k_ hk => ⟨hk.2, fun e_ => hk.1 e_⟩))); (case aS => exact (keep_size (w := w) (g := g) (row := none) (by exact keep_y HK.out))); (case aL => have := LMc50.out; omega); intro v232 w75 ho hb hg hat; rw [← Ny231.out] at ho; replace HO_9 := Aside0.mk (Kd.R_over' (Kd.R_x HO_9.out) (Kd.S_typed (Kd.S_x HO_209000.out)) (by decide) hg); replace BK207 := Aside0.mk (blk_grown (blk_x BK207.out) hg (Kd.S_ne HO_209000.out BK207.out (by decide))); replace BK208 := Aside0.mk (blk_grown (blk_x BK208.out) hg (Kd.S_ne HO_209000.out BK208.out (by decide))); replace BK224 := Aside0.mk (blk_grown (blk_x BK224.out) hg (Kd.S_away HO_209000.out (fun _ hk => hk.2))); replace HI0 := Aside0.mk (IsS79.grown (by exact IsS79.up HI0.out) hg (IsS79.own_neS HI0.out HO_209000.out (by decide))); replace HB := Aside0.mk (below_weaken (by exact below_y HB.out) HL.out hb); replace HK := Aside0.mk (KeepBut.trans (by exact keep_y HK.out) (KeepBut.of_grown hg g) (Kd.S_base2 HO_209000.out)); have HO233 := Aside0.mk (ho); clear HO_209000 HO_225000; clear ho hb hg hat) | ((with_reducible refine gate_builtin (b := .append) (xs := #[.tmp 65, .tmp 71]) rfl ?_); (try (refine gate_guard (by rfl) ?_; dsimp only)); at_builtin; refine Kd.R_append Kd.bool w.heap.size rfl (.tmp 65) (.tmp 71) 31 4 (.bool false) 1 rfl Try.underlying31 info4 rfl (by decide) (by omega) u9 x9_1 false [.bool false] (fun _ => True) (fun _ => False) rfl rfl ?aP (fun _ hk => hk.elim) ?aF ?aO (Below.refl _ _) ?aS ?aL ?_; (case aP => exact rfl); (case aF => exact (fun _ _ => trivial)); (case aO => exact (Kd.R_x HO_9.out)); (case aS => exact (keep_size (w := w) (g := g) (row := none) (by exact keep_y HK.out))); (case aL => have := LMc67.out; omega); intro v240 w77 ho hb hg hat; rw [← Ny239.out] at ho; replace BK207 := Aside0.mk (blk_grown (blk_x BK207.out) hg (Kd.R_ne HO_9.out BK207.out (by decide))); replace BK208 := Aside0.mk (blk_grown (blk_x BK208.out) hg (Kd.R_ne HO_9.out BK208.out (by decide))); replace BK224 := Aside0.mk (blk_grown (blk_x BK224.out) hg (Kd.R_ne HO_9.out BK224.out (by decide))); replace HI0 := Aside0.mk (IsS79.grown (by exact IsS79.up HI0.out) hg (IsS79.own_ne HI0.out HO_9.out (by decide))); replace HO233 := Aside0.mk (Kd.S_over' (Kd.S_x HO233.out) (Kd.R_typed (Kd.R_x HO_9.out)) (by decide) hg); replace HB := Aside0.mk (below_weaken (by exact below_y HB.out) HL.out hb); replace HK := Aside0.mk (KeepBut.trans (by exact keep_y HK.out) (KeepBut.of_grown hg g) (Kd.R_base2 HO_9.out)); have HO241 := Aside0.mk (ho); clear HO_9; clear ho hb hg hat; obtain ⟨Ao78, co78, eo78⟩ := Kd.S_slice HO233.out; subst eo78; obtain ⟨_, _, _, _, _⟩ := cz5 BK208; have hfz79_0 := blk_frozen BK208.out))
          go_roundg k2
          case measure => have := HK1.out; have := HK2.out; omega
          case rel => exact ⟨(y239), (wrap64 (x10_1 - 1)), (x1000_2), (y231), (.slice Ao78 y231.length co78), (by first | rfl | (simp; done) | (simp [*]; done)), H', ⟨by have := HK1.out; have := HK2.out; omega⟩, ⟨by (with_reducible repeat (first | apply Kd.R_alloc | apply Kd.R_drewN | apply Kd.R_drew)); exact Kd.R_mono (Kd.R_far (p := ⟨gb208, 0, none⟩) (Kd.R_types HO241.out BK208.out (by decide)) (fun _ hk => hk.2) (.slice Ao78 y231.length co78)) (fun _ hk => trivial)⟩, ⟨by (with_reducible repeat (first | apply Kd.S_alloc | apply Kd.S_drewN | apply Kd.S_drew)); exact Kd.S_mono (Kd.S_far (p := ⟨gb208, 0, none⟩) (Kd.S_types HO233.out BK208.out (by decide)) (fun _ hk => hk.2) (.slice Ao78 y231.length co78)) (fun _ hk => trivial)⟩, ⟨blk_w BK207.out⟩, ⟨by (with_reducible repeat (first | refine blk_drewN ?_ _ | refine blk_drew ?_ | refine blk_alloc ?_ _)); refine blk_put (cs := #[.slice Ao17 x209000_1.length co17, .int .i64 0, .slice none 0 0, .int .i64 0, .slice none 0 0]) ?_ 0 _ rfl; (with_reducible repeat (first | refine blk_drewN ?_ _ | refine blk_drew ?_ | refine blk_alloc ?_ _)); exact BK208.out⟩, ⟨by exact IsS79.up HI0.out⟩, ⟨by exact keep_y HK.out⟩, ⟨by exact below_y HB.out⟩⟩
         ·
          rw [if_neg c67] at H
          exact absurd H (by simp)
       ·
        rw [if_neg c50] at H
        exact absurd H (by simp)
   ·
    rw [if_neg c8] at H
    have c8b0 : decide (0 < x10_1) = false := decide_eq_false c8
    clear c8
    replace H := Option.bind_eq_some_iff.mp H
    obtain ⟨⟨t242, t243⟩, A800, H⟩ := H
    try dsimp only at H
    have A80 := Aside0.mk A800
    clear A800
    obtain ⟨y244, hy244⟩ : ∃ y_ : List Int, y_ = (([0, t242] : List Int)) := ⟨_, rfl⟩
    replace H : ((swarfkit_Feed_Either.f t243 y244).bind fun bt247 => ((swarfkit_Feed_Below.f bt247.2 (wrap64 (a2 + 1))).bind fun bt249 => (swarfkit_CarOf.l2 k1 x9_1 bt249.1 bt249.2 x209000_1 bt247.1 ([] : List (S61)) 0))) = some (r1, r2, r3, r4, r5, r6, r7) := by first | (rw [hy244]; with_reducible exact H) | (have H2_ := (Option.bind_some _ _).symm.trans H; rw [hy244]; with_reducible exact H2_) | (have H2_ := (Option.bind_some _ _).symm.trans H; with_reducible exact H2_) | with_reducible exact H | (rw [hy244]; exact H) | exact H
    have Ny244 := Aside0.mk hy244
    clear hy244
    replace H := Option.bind_eq_some_iff.mp H
    obtain ⟨⟨t247, t248⟩, A810, H⟩ := H
    try dsimp only at H
    have A81 := Aside0.mk A810
    clear A810
    replace H := Option.bind_eq_some_iff.mp H
    obtain ⟨⟨t249, t250⟩, A820, H⟩ := H
    try dsimp only at H
    have A82 := Aside0.mk A820
    clear A820
    have H' := Aside0.mk H
    clear H
    go_wp2_with (first | ((with_reducible refine gate_callee (f := 25) rfl ?_); refine goesL_ (some 76) rfl rfl Try.func25 (by kernel_rfl) rfl #[.pointer (some ⟨g, 0, none⟩), .int .i64 9] rfl (by (try simp only [List.map_toArray, List.map_cons, List.map_nil]); first | done | rfl | (simp only [List.length_drop, List.length_take]; rfl)) ?_; (with_reducible refine (swarfkit_Feed_Below.calls g x1000_1 9 t242 t243 w0 _ ?side1 ?side2 A80.out).mono ?_); (case side1 => exact IsS79.up HI0.out); (case side2 => exact below_y HB.out); rintro e w83 ⟨rfl, hi, hb, hk⟩; refine ⟨_, rfl, ?_⟩; replace HO_9 := Aside0.mk (Kd.R_mono (Kd.R_keep (IsS79.apart (show IsS79 w0 _ g x1000_1 from by exact IsS79.up HI0.out) (Kd.R_x HO_9.out) (by decide)) hk (fun _ h => h.2)) (fun _ h => h.1)); replace HO_209000 := Aside0.mk (Kd.S_mono (Kd.S_keep (IsS79.apartS (show IsS79 w0 _ g x1000_1 from by exact IsS79.up HI0.out) (Kd.S_x HO_209000.out) (by decide)) hk (fun _ h => h.2)) (fun _ h => h.1)); replace BK207 := Aside0.mk (KeepBut.blk hk (blk_x BK207.out) NB207_0.out (by simp)); replace BK208 := Aside0.mk (KeepBut.blk hk (blk_x BK208.out) NB208_0.out (by simp)); replace HK := Aside0.mk (KeepBut.trans (by exact keep_y HK.out) hk (.inl rfl)); replace HB := Aside0.mk (hb); replace HI0 := Aside0.mk (hi); (try clear hb); (try clear hk); (try clear hi)) | ((with_reducible refine gate_dst (N := 77) rfl ?_); (try (refine gate_guard (by rfl) ?_; dsimp only)); refine Kd.R_lit (Kd.int .i64) _ 3 ?hg (N := 77) ?hd (xs := ([0, t242] : List Int)) (inner := [.int .i64 0, .int .i64 t242]) (ok := fun _ => True) (okp := fun _ => True) ?hr ?hp (fun _ hk => hk) trivial (Below.refl _ _) (Nat.le_refl _) (by simp) ?_; (case hd => rfl); (case hg => rfl); (case hr => first | (go_simp; done) | (go_simp; rfl)); (case hp => exact (Reps.one (show Kd.M (Kd.int .i64) _ _ _ 0 [.int .i64 0] from rfl) (Reps.one (show Kd.M (Kd.int .i64) _ _ _ t242 [.int .i64 t242] from rfl) (Reps.none _ _)))); intro v245 w84 ho85 hb hg_ hnew_; clear hg_ hnew_; (first | rw [← Ny244.out] at ho85 | (simp only [Int.reduceToNat] at ho85; rw [← Ny244.out] at ho85)); replace HO_9 := Aside0.mk (Kd.R_below (Kd.R_x HO_9.out) hb); replace HO_209000 := Aside0.mk (Kd.S_elder' (Kd.S_x HO_209000.out) (Kd.R_base ho85) hb); have HO246 := Aside0.mk (Kd.R_lower ho85 (keep_size (w := w) (g := g) (row := none) (by exact keep_y HK.out))); replace BK207 := Aside0.mk (blk_below (blk_x BK207.out) hb); replace BK208 := Aside0.mk (blk_below (blk_x BK208.out) hb); replace HI0 := Aside0.mk (IsS79.below (by exact IsS79.up HI0.out) hb); replace HK := Aside0.mk (KeepBut.trans (by exact keep_y HK.out) (KeepBut.of_below hb g none) (.inl rfl)); replace HB := bl_x HB hb; clear hb ho85; obtain ⟨Ao86, co86, eo86⟩ := Kd.R_slice HO246.out; subst eo86) | ((with_reducible refine gate_callee (f := 24) rfl ?_); refine goesL_ (some 78) rfl rfl Try.func24 (by kernel_rfl) rfl #[.pointer (some ⟨g, 0, none⟩), .slice Ao86 y244.length co86] rfl (by (try simp only [List.map_toArray, List.map_cons, List.map_nil]); first | done | rfl | (simp only [List.length_drop, List.length_take]; rfl)) ?_; (with_reducible refine (swarfkit_Feed_Either.calls g t243 _ _ y244 t247 t248 w0 _ ?side1 ?side2 ?side3 ?side4 ?side5 A81.out).mono ?_); (case side1 => exact IsS79.up HI0.out); (case side2 => exact below_y HB.out); (case side3 => exact Kd.C_y (Kd.R_reads' HO246.out).2.2); (case side4 => exact (Kd.R_reads' HO246.out).2.1); (case side5 => exact far_slice (IsS79.own_ne HI0.out HO246.out (by decide))); rintro e w87 ⟨rfl, hi, hb, hk⟩; refine ⟨_, rfl, ?_⟩; replace HO_9 := Aside0.mk (Kd.R_mono (Kd.R_keep (IsS79.apart (show IsS79 w0 _ g t243 from by exact IsS79.up HI0.out) (Kd.R_x HO_9.out) (by decide)) hk (fun _ h => h.2)) (fun _ h => h.1)); replace HO_209000 := Aside0.mk (Kd.S_mono (Kd.S_keep (IsS79.apartS (show IsS79 w0 _ g t243 from by exact IsS79.up HI0.out) (Kd.S_x HO_209000.out) (by decide)) hk (fun _ h => h.2)) (fun _ h => h.1)); replace BK207 := Aside0.mk (KeepBut.blk hk (blk_x BK207.out) NB207_0.out (by simp)); replace BK208 := Aside0.mk (KeepBut.blk hk (blk_x BK208.out) NB208_0.out (by simp)); replace HO246 := Aside0.mk (Kd.R_mono (Kd.R_keep (IsS79.apart (show IsS79 w0 _ g t243 from by exact IsS79.up HI0.out) (Kd.R_x HO246.out) (by decide)) hk (fun _ h => h.2)) (fun _ h => h.1)); replace HK := Aside0.mk (KeepBut.trans (by exact keep_y HK.out) hk (.inl rfl)); replace HB := Aside0.mk (hb); replace HI0 := Aside0.mk (hi); (try clear hb); (try clear hk); (try clear hi); have hnb88 := NB208_207.out; have hnc88 := NB207_208.out; have hnb89 := NB208_0.out; have hnc89 := NB0_208.out; obtain ⟨_, _, _, _, _⟩ := cz5 BK208; have hfz90_0 := blk_frozen BK208.out) | ((with_reducible refine gate_callee (f := 25) rfl ?_); refine goesL_ (some 83) rfl rfl Try.func25 (by kernel_rfl) rfl #[.pointer (some ⟨g, 0, none⟩), .int .i64 (wrap64 (a2 + 1))] rfl (by (try simp only [List.map_toArray, List.map_cons, List.map_nil]); first | done | rfl | (simp only [List.length_drop, List.length_take]; rfl)) ?_; (with_reducible refine (swarfkit_Feed_Below.calls g t248 (wrap64 (a2 + 1)) t249 t250 w0 _ ?side1 ?side2 A82.out).mono ?_); (case side1 => exact IsS79.up HI0.out); (case side2 => exact below_y HB.out); rintro e w91 ⟨rfl, hi, hb, hk⟩; refine ⟨_, rfl, ?_⟩; replace HO_9 := Aside0.mk (Kd.R_mono (Kd.R_keep (IsS79.apart (show IsS79 w0 _ g t248 from by exact IsS79.up HI0.out) (by (with_reducible repeat (first | apply Kd.R_alloc | apply Kd.R_drewN | apply Kd.R_drew)); exact (Kd.R_mono (Kd.R_far (p := ⟨gb208, 1, none⟩) (Kd.R_types HO_9.out BK208.out (by decide)) (fun _ hk => hk.2) (.int .i64 t247)) (fun _ h_ => h_.1))) (by decide)) hk (fun _ h => h.2)) (fun _ h => h.1)); replace HO_209000 := Aside0.mk (Kd.S_mono (Kd.S_keep (IsS79.apartS (show IsS79 w0 _ g t248 from by exact IsS79.up HI0.out) (by (with_reducible repeat (first | apply Kd.S_alloc | apply Kd.S_drewN | apply Kd.S_drew)); exact (Kd.S_mono (Kd.S_far (p := ⟨gb208, 1, none⟩) (Kd.S_types HO_209000.out BK208.out (by decide)) (fun _ hk => hk.2) (.int .i64 t247)) (fun _ h_ => h_.1))) (by decide)) hk (fun _ h => h.2)) (fun _ h => h.1)); replace BK207 := Aside0.mk (KeepBut.blk hk (g' := gb207) (o := .cells #[.slice none 0 0, .int .i64 0, .slice none 0 0, .int .i64 0, .slice none 0 0] 26 (0, 0)) (blk_w BK207.out) NB207_0.out (by simp)); replace HO246 := Aside0.mk (Kd.R_mono (Kd.R_keep (IsS79.apart (show IsS79 w0 _ g t248 from by exact IsS79.up HI0.out) (by (with_reducible repeat (first | apply Kd.R_alloc | apply Kd.R_drewN | apply Kd.R_drew)); exact (Kd.R_mono (Kd.R_far (p := ⟨gb208, 1, none⟩) (Kd.R_types HO246.out BK208.out (by decide)) (fun _ hk => hk.2) (.int .i64 t247)) (fun _ h_ => h_.1))) (by decide)) hk (fun _ h => h.2)) (fun _ h => h.1)); replace BK208 := Aside0.mk (KeepBut.blk hk (g' := gb208) (o := .cells #[u209000, .int .i64 t247, .slice none 0 0, .int .i64 0, .slice none 0 0] 26 (0, 0)) (by (with_reducible repeat (first | refine blk_drewN ?_ _ | refine blk_drew ?_ | refine blk_alloc ?_ _)); refine blk_put (cs := #[u209000, .int .i64 0, .slice none 0 0, .int .i64 0, .slice none 0 0]) ?_ 1 _ rfl; (with_reducible repeat (first | refine blk_drewN ?_ _ | refine blk_drew ?_ | refine blk_alloc ?_ _)); exact BK208.out) NB208_0.out (by simp)); replace HK := Aside0.mk (KeepBut.trans (by exact keep_y HK.out) hk (.inl rfl)); replace HB := Aside0.mk (hb); replace HI0 := Aside0.mk (hi); (try clear hb); (try clear hk); (try clear hi)))
    go_loopg [15] k1 (fun kq v15 w' => ∃ (x15_2 : Int) (x1000_2 : Int) (x209002_2 : List (S61)) (u209002 : Value), v15 = .int .i64 x15_2 ∧ Aside0 (swarfkit_CarOf.l2 kq x9_1 x15_2 x1000_2 x209000_1 t247 x209002_2 0 = some (r1, r2, r3, r4, r5, r6, r7)) ∧ Aside0 (kq ≤ k1) ∧ Aside0 (Kd.R Kd.bool 4 w' w.heap.size (fun _ => True) u9 x9_1) ∧ Aside0 (Kd.S k50 50 w' w.heap.size (fun _ => True) u209000 x209000_1) ∧ Aside0 (Kd.R k61 61 w' w.heap.size (fun _ => True) u209002 x209002_2) ∧ Aside0 (w'.heap[gb207]? = some (.cells #[(.slice none 0 0), .int .i64 0, (.slice none 0 0), .int .i64 0, (.slice none 0 0)] 26 (0, 0))) ∧ Aside0 (w'.heap[gb208]? = some (.cells #[u209000, .int .i64 t247, u209002, .int .i64 0, (.slice none 0 0)] 26 (0, 0))) ∧ Aside0 (IsS79 w0 w' g x1000_2) ∧ Aside0 (KeepBut w w' g none) ∧ Aside0 (Below w0.heap.size w0 w'))
    case atStart => exact ⟨(t249), (t250), (([] : List (S61))), (.slice none 0 0), (by first | rfl | (simp; done) | (simp [*]; done)), H', ⟨Nat.le_refl _⟩, ⟨by (with_reducible repeat (first | apply Kd.R_alloc | apply Kd.R_drewN | apply Kd.R_drew)); exact HO_9.out⟩, ⟨by (with_reducible repeat (first | apply Kd.S_alloc | apply Kd.S_drewN | apply Kd.S_drew)); exact Kd.S_mono HO_209000.out (fun _ hk => trivial)⟩, ⟨by first | exact Kd.R_nil _ _ _ _ _ | exact Kd.N_nil _ _ _ _ _ | exact Kd.V_nil _ _ _ _ _ | exact Kd.Q_nil _ _ _ _ _ | exact Kd.S_nil _ _ _ _ _⟩, ⟨blk_x BK207.out⟩, ⟨blk_x BK208.out⟩, ⟨by exact IsS79.up HI0.out⟩, ⟨by exact keep_y HK.out⟩, ⟨by exact below_y HB.out⟩⟩
    case round =>
     clear H'
     obtain ⟨x15_2, x1000_2, x209002_2, u209002, rfl, HA, HK2, HO_9, HO_209000, HO_209002, BK207, BK208, HI0, HK, HB⟩ := hrel
     cases gk with
     | zero => exact absurd HA.out (by simp [swarfkit_CarOf.l2])
     | succ k2 =>
      have H := HA.out
      clear HA
      simp only [swarfkit_CarOf.l2] at H
      by_cases c92 : x15_2 > 0
      ·
       rw [if_pos c92] at H
       have c92b0 : decide (0 < x15_2) = true := decide_eq_true c92
       clear c92
       replace H := Option.bind_eq_some_iff.mp H
       obtain ⟨⟨t251, t252⟩, A930, H⟩ := H
       try dsimp only at H
       have A93 := Aside0.mk A930
       clear A930
       by_cases c94 : 0 ≤ t251
       ·
        rw [if_pos c94] at H
        have c94b0 : decide (0 ≤ t251) = true := decide_eq_true c94
        clear c94
        by_cases c95 : t251 < (x9_1.length : Int)
        ·
         rw [if_pos c95] at H
         have c95b0 : decide (t251 < (x9_1.length : Int)) = true := decide_eq_true c95
         clear c95
         replace H := Option.bind_eq_some_iff.mp H
         obtain ⟨⟨t254, t255⟩, A960, H⟩ := H
         try dsimp only at H
         have A96 := Aside0.mk A960
         clear A960
         by_cases c97 : x209002_2.length < 8796093022208
         ·
          rw [if_pos c97] at H
          have LMc97 := Aside0.mk c97
          clear c97
          obtain ⟨y256, hy256⟩ : ∃ y_ : List (S61), y_ = (x209002_2 ++ [(⟨t251, ((rdOf false x9_1 t251) != t254)⟩ : S61)]) := ⟨_, rfl⟩
          replace H : (swarfkit_CarOf.l2 k2 x9_1 (wrap64 (x15_2 - 1)) t255 x209000_1 t247 y256 0) = some (r1, r2, r3, r4, r5, r6, r7) := by first | (rw [hy256]; with_reducible exact H) | (have H2_ := (Option.bind_some _ _).symm.trans H; rw [hy256]; with_reducible exact H2_) | (have H2_ := (Option.bind_some _ _).symm.trans H; with_reducible exact H2_) | with_reducible exact H | (rw [hy256]; exact H) | exact H
          have Ny256 := Aside0.mk hy256
          clear hy256
          have H' := Aside0.mk H
          clear H
          have hnb98 := NB208_207.out
          have hnc98 := NB207_208.out
          have hnb99 := NB208_0.out
          have hnc99 := NB0_208.out
          obtain ⟨_, _, _, _, _⟩ := cz5 BK208
          have hfz100_0 := blk_frozen BK208.out
          obtain ⟨Ao101, co101, eo101⟩ := Kd.S_slice HO_209000.out
          subst eo101
          try go_wp2_with (first | ((with_reducible refine gate_callee (f := 25) rfl ?_); refine goesL_ (some 92) rfl rfl Try.func25 (by kernel_rfl) rfl #[.pointer (some ⟨g, 0, none⟩), .int .i64 (x209000_1.length : Int)] rfl (by (try simp only [List.map_toArray, List.map_cons, List.map_nil]); first | done | rfl | (simp only [List.length_drop, List.length_take]; rfl)) ?_; (with_reducible refine (swarfkit_Feed_Below.calls g x1000_2 (x209000_1.length : Int) t251 t252 w0 _ ?side1 ?side2 A93.out).mono ?_); (case side1 => exact IsS79.up HI0.out); (case side2 => exact below_y HB.out); rintro e w102 ⟨rfl, hi, hb, hk⟩; refine ⟨_, rfl, ?_⟩; replace HO_9 := Aside0.mk (Kd.R_mono (Kd.R_keep (IsS79.apart (show IsS79 w0 _ g x1000_2 from by exact IsS79.up HI0.out) (Kd.R_x HO_9.out) (by decide)) hk (fun _ h => h.2)) (fun _ h => h.1)); replace HO_209000 := Aside0.mk (Kd.S_mono (Kd.S_keep (IsS79.apartS (show IsS79 w0 _ g x1000_2 from by exact IsS79.up HI0.out) (Kd.S_x HO_209000.out) (by decide)) hk (fun _ h => h.2)) (fun _ h => h.1)); replace HO_209002 := Aside0.mk (Kd.R_mono (Kd.R_keep (IsS79.apart (show IsS79 w0 _ g x1000_2 from by exact IsS79.up HI0.out) (Kd.R_x HO_209002.out) (by decide)) hk (fun _ h => h.2)) (fun _ h => h.1)); replace BK207 := Aside0.mk (KeepBut.blk hk (blk_x BK207.out) NB207_0.out (by simp)); replace BK208 := Aside0.mk (KeepBut.blk hk (blk_x BK208.out) NB208_0.out (by simp)); replace HK := Aside0.mk (KeepBut.trans (by exact keep_y HK.out) hk (.inl rfl)); replace HB := Aside0.mk (hb); replace HI0 := Aside0.mk (hi); (try clear hb); (try clear hk); (try clear hi)))
          replace HO_9 := Aside0.mk (Kd.R_drew HO_9.out)
          replace HO_209000 := Aside0.mk (Kd.S_drew HO_209000.out)
          replace HO_209002 := Aside0.mk (Kd.R_drew HO_209002.out)
          replace BK207 := Aside0.mk (blk_drew BK207.out)
          replace BK208 := Aside0.mk (blk_drew BK208.out)
          replace HI0 := Aside0.mk (IsS79.drew HI0.out)
          replace HK := Aside0.mk (keep_drew HK.out)
          replace HB := Aside0.mk (below_drew1 HB.out)
          obtain ⟨Ao104, co104, eo104⟩ := Kd.R_slice HO_9.out
          (first | subst eo104 | (injection eo104 with f1_ f2_ f3_; have f4_ := f1_.symm; have f5_ := f3_.symm; clear f1_ f2_ f3_; subst f4_; subst f5_))
          have p253 : 0 ≤ (t251 : Int) := of_x
          have q253 : t251 < (x9_1.length : Int) := of_x
          obtain ⟨ad253, e253, hx253_0⟩ := Kd.at_bool (Kd.R_reads' HO_9.out).2.2 t251 p253 q253
          cases e253
          replace p253 := eq_true p253
          replace q253 := eq_true q253
          refine start_ (n := 15) (S := fun w' => w'.cell? ⟨gb208, 0, none⟩ = some (.slice Ao101 x209000_1.length co101) ∧ w'.cell? ⟨gb208, 1, none⟩ = some (.int .i64 t247) ∧ w'.cell? ⟨gb208, 2, none⟩ = some (u209002) ∧ w'.cell? ⟨gb208, 3, none⟩ = some (.int .i64 0) ∧ w'.cell? ⟨gb208, 4, none⟩ = some (.slice none 0 0) ∧ w'.cell? (ad253.add (t251).toNat) = some (.bool (rdOf false x9_1 t251))) (ds := [14]) #[false, false, false, false, false, false, false, false, false, false, false, false, false, false, false] (by kernel_rfl) rfl rfl ⟨(blk_cell BK208.out 0).trans rfl, (blk_cell BK208.out 1).trans rfl, (blk_cell BK208.out 2).trans rfl, (blk_cell BK208.out 3).trans rfl, (blk_cell BK208.out 4).trans rfl, hx253_0⟩ (fun hHeld => ?_); refine with_tabW swarfkit_CarOf.tab20 swarfkit_CarOf.bits20 (fun HT_ HW_ => ?_)
          generalize w102.drew = w103 at HO_9 HO_209000 HO_209002 BK207 BK208 HI0 HK HB hx253_0 hHeld ⊢
          refine pure_ (i := 0) (N := some 93) (v := ?_) (a' := ?_) (bz 15 1) rfl rfl (any_of HT_.out (by kernel_rfl)) (fun _ _ _ h => h) (Or.inl ⟨by rfl, ?_⟩) ?_ ?_
          rotate_left
          ·
           intro w'
           go_simp
           with_reducible rfl
          rotate_left
          ·
           simp only [Act.put, put_x, i64_w, i32_w]
           rfl
          refine pure_ (i := 2) (N := some 95) (v := ?_) (a' := ?_) (bz 15 5) rfl rfl (any_of HT_.out (by kernel_rfl)) (fun _ _ _ h => h) (Or.inl ⟨by rfl, ?_⟩) ?_ ?_
          rotate_left
          ·
           intro w'
           go_simp
           with_reducible rfl
          rotate_left
          ·
           simp only [Act.put, put_x, i64_w, i32_w]
           rfl
          refine pure_ (i := 3) (N := some 96) (v := ?_) (a' := ?_) (bz 15 13) rfl rfl (any_of HT_.out (by kernel_rfl)) (fun _ _ _ h => h) (Or.inl ⟨by rfl, ?_⟩) ?_ ?_
          rotate_left
          ·
           intro w'
           go_simp
           with_reducible rfl
          rotate_left
          ·
           simp only [Act.put, put_x, i64_w, i32_w]
           rfl
          refine pure_ (i := 4) (N := some 97) (v := ?_) (a' := ?_) (bz 15 29) rfl rfl (any_of HT_.out (by kernel_rfl)) (fun _ _ _ h => h) (Or.inl ⟨by rfl, ?_⟩) ?_ ?_
          rotate_left
          ·
           intro w'
           go_simp
           with_reducible rfl
          rotate_left
          ·
           simp only [Act.put, put_x, i64_w, i32_w]
           rfl
          refine pure_ (i := 5) (N := some 98) (v := ?_) (a' := ?_) (bz 15 61) rfl rfl (any_of HT_.out (by kernel_rfl)) (fun _ _ _ h => h) (Or.inl ⟨by rfl, ?_⟩) ?_ ?_
          rotate_left
          ·
           intro w'
           go_simp
           with_reducible rfl
          rotate_left
          ·
           simp only [Act.put, put_x, i64_w, i32_w]
           rfl
          refine pure_ (i := 7) (N := some 100) (v := ?_) (a' := ?_) (bz 15 189) rfl rfl (any_of HT_.out (by kernel_rfl)) (fun _ _ _ h => h) (Or.inl ⟨by rfl, ?_⟩) ?_ ?_
          rotate_left
          ·
           intro w'
           go_simp
           with_reducible rfl
          rotate_left
          ·
           simp only [Act.put, put_x, i64_w, i32_w]
           rfl
          refine take_ (i := 1) (N := some 94) (v := ?_) (a' := ?_) (bz 15 191) rfl rfl (take_ofW HT_.out HW_.out (by kernel_rfl)) (fun _ _ _ h => h) (Or.inl ⟨by rfl, ?_⟩) hHeld ?_ ?_
          rotate_left
          ·
           rintro w' ⟨s0, s1, s2, s3, s4, s5⟩
           go_simp
           with_reducible rfl
          rotate_left
          ·
           simp only [Act.put, put_x, i64_w, i32_w]
           rfl
          refine take_ (i := 6) (N := some 99) (v := ?_) (a' := ?_) (bz 15 255) rfl rfl (take_ofW HT_.out HW_.out (by kernel_rfl)) (fun _ _ _ h => h) (Or.inl ⟨by rfl, ?_⟩) hHeld ?_ ?_
          rotate_left
          ·
           rintro w' ⟨s0, s1, s2, s3, s4, s5⟩
           go_simp
           with_reducible rfl
          rotate_left
          ·
           simp only [Act.put, put_x, i64_w, i32_w]
           rfl
          refine one_ (i := 8) (N := some 101) (bz 15 511) rfl rfl (one_of HT_.out (by kernel_rfl)) (by decide) (fun K hK => ?_)
          refine goes_ Try.func35 (by kernel_rfl) rfl #[.pointer (some ⟨g, 0, none⟩), .int .i64 1, .int .i64 6] (by rfl) rfl rfl (by (try simp only [List.map_toArray, List.map_cons, List.map_nil]); first | done | rfl | (simp only [List.length_drop, List.length_take]; rfl)) ?_
          with_reducible refine (swarfkit_Feed_Often.calls g t252 1 6 t254 t255 w0 _ ?side1 ?side2 A96.out).mono ?_
          (case side1 => exact IsS79.up HI0.out)
          (case side2 => exact below_y HB.out)
          rintro e w105 ⟨rfl, hi, hb, hk⟩
          have HS5_ := keep_cell hk (hHeld.2.2.2.2.2) (by first | (rw [add_block]; exact Kd.own_blk (IsS79.own_ne HI0.out HO_9.out (by decide))) | (show (Addr.add _ _).block ≠ _; rw [add_block]; exact Kd.own_blk (IsS79.own_ne HI0.out HO_9.out (by decide))) | exact Kd.own_blk (IsS79.own_ne HI0.out HO_9.out (by decide)))
          refine ⟨_, rfl, ?_⟩
          replace HO_9 := Aside0.mk (Kd.R_mono (Kd.R_keep (IsS79.apart (show IsS79 w0 _ g t252 from by exact IsS79.up HI0.out) (Kd.R_x HO_9.out) (by decide)) hk (fun _ h => h.2)) (fun _ h => h.1))
          replace HO_209000 := Aside0.mk (Kd.S_mono (Kd.S_keep (IsS79.apartS (show IsS79 w0 _ g t252 from by exact IsS79.up HI0.out) (Kd.S_x HO_209000.out) (by decide)) hk (fun _ h => h.2)) (fun _ h => h.1))
          replace HO_209002 := Aside0.mk (Kd.R_mono (Kd.R_keep (IsS79.apart (show IsS79 w0 _ g t252 from by exact IsS79.up HI0.out) (Kd.R_x HO_209002.out) (by decide)) hk (fun _ h => h.2)) (fun _ h => h.1))
          replace BK207 := Aside0.mk (KeepBut.blk hk (blk_x BK207.out) NB207_0.out (by simp))
          replace BK208 := Aside0.mk (KeepBut.blk hk (blk_x BK208.out) NB208_0.out (by simp))
          replace HK := Aside0.mk (KeepBut.trans (by exact keep_y HK.out) hk (.inl rfl))
          replace HB := Aside0.mk (hb)
          replace HI0 := Aside0.mk (hi)
          (try clear hb)
          (try clear hb2)
          (try clear hk)
          (try clear hi)
          refine hK.out _ _ ⟨(blk_cell BK208.out 0).trans rfl, (blk_cell BK208.out 1).trans rfl, (blk_cell BK208.out 2).trans rfl, (blk_cell BK208.out 3).trans rfl, (blk_cell BK208.out 4).trans rfl, HS5_⟩ (fun hHeld => ?_)
          clear hK K
          refine norm_ (a' := ?_) ?_ ?_
          rotate_left
          ·
           show Act.put _ (some 101) _ = _
           simp only [Act.put, put_x, i64_w, i32_w]
           rfl
          refine pure_ (i := 9) (N := some 102) (v := ?_) (a' := ?_) (bz 15 1023) rfl rfl (any_of HT_.out (by kernel_rfl)) (fun _ _ _ h => h) (Or.inl ⟨by rfl, ?_⟩) ?_ ?_
          rotate_left
          ·
           intro w'
           go_simp
           with_reducible rfl
          rotate_left
          ·
           simp only [Act.put, put_x, i64_w, i32_w]
           rfl
          refine pure_ (i := 10) (N := some 103) (v := ?_) (a' := ?_) (bz 15 2047) rfl rfl (any_of HT_.out (by kernel_rfl)) (fun _ _ _ h => h) (Or.inl ⟨by rfl, ?_⟩) ?_ ?_
          rotate_left
          ·
           intro w'
           go_simp
           with_reducible rfl
          rotate_left
          ·
           simp only [Act.put, put_x, i64_w, i32_w]
           rfl
          refine one_ (i := 11) (N := some 104) (bz 15 4095) rfl rfl (one_of HT_.out (by kernel_rfl)) (by decide) (fun K hK => ?_)
          refine value_ (w1 := ?_) (v := ?_) (by rfl) rfl ?_ ?_
          rotate_left 2
          ·
           go_simp
           constructor
           ·
            rfl
           ·
            rfl
          refine hK.out _ _ ⟨(blk_cell (blk_alloc BK208.out _) 0).trans rfl, (blk_cell (blk_alloc BK208.out _) 1).trans rfl, (blk_cell (blk_alloc BK208.out _) 2).trans rfl, (blk_cell (blk_alloc BK208.out _) 3).trans rfl, (blk_cell (blk_alloc BK208.out _) 4).trans rfl, (World.cell?_alloc_lt _ _ _ (World.block_lt_of_cell? _ _ (hHeld.2.2.2.2.2))).trans (hHeld.2.2.2.2.2)⟩ (fun hHeld => ?_)
          clear hK K
          refine norm_ (a' := ?_) ?_ ?_
          rotate_left
          ·
           show Act.put _ (some 104) _ = _
           simp only [Act.put, put_x, i64_w, i32_w]
           rfl
          refine one_ (i := 12) (N := some 105) (bz 15 8191) rfl rfl (one_of HT_.out (by kernel_rfl)) (by decide) (fun K hK => ?_)
          refine Kd.R_append_step k61 w.heap.size (by rfl) (.tmp 94) (.tmp 104) 23 61 (.agg #[(.int .i64 0), (.bool false)]) 16 rfl Try.underlying23 info61 rfl (by decide) (by omega) u209002 x209002_2 (⟨t251, ((rdOf false x9_1 t251) != t254)⟩ : S61) [.int .i64 t251, .bool ((rdOf false x9_1 t251) != t254)] (fun _ => True) (fun _ => False) rfl rfl ?aP (fun _ hk => hk.elim) ?aF ?aO (Below.refl _ _) ?aS ?aL ?_
          (case aP => exact k61_mkM _ _ _ (⟨t251, ((rdOf false x9_1 t251) != t254)⟩ : S61))
          (case aF => exact (fun _ _ => trivial))
          (case aO => exact (Kd.R_x HO_209002.out))
          (case aS => exact (keep_size (w := w) (g := g) (row := none) (by exact keep_y HK.out)))
          (case aL => have := LMc97.out; omega)
          intro v257 w106 ho hb hg hat
          (first | have HS5_ := cell_grown hg (hHeld.2.2.2.2.2) (by first | exact (by obtain ⟨_, hz_⟩ := Kd.R_typed HO_9.out _ rfl; exact Kd.R_ne HO_209002.out hz_ (by decide)) | (rw [add_block]; exact (by obtain ⟨_, hz_⟩ := Kd.R_typed HO_9.out _ rfl; exact Kd.R_ne HO_209002.out hz_ (by decide))) | (show some (Addr.add _ _).block ≠ _; rw [add_block]; exact (by obtain ⟨_, hz_⟩ := Kd.R_typed HO_9.out _ rfl; exact Kd.R_ne HO_209002.out hz_ (by decide)))) | have HS5_ := cell_grown hg (cell_unalloc (hHeld.2.2.2.2.2) (by first | exact (by obtain ⟨_, hz_⟩ := Kd.R_typed HO_9.out _ rfl; exact blk_lt hz_) | (rw [add_block]; exact (by obtain ⟨_, hz_⟩ := Kd.R_typed HO_9.out _ rfl; exact blk_lt hz_)) | (show (Addr.add _ _).block < _; rw [add_block]; exact (by obtain ⟨_, hz_⟩ := Kd.R_typed HO_9.out _ rfl; exact blk_lt hz_)))) (by first | exact (by obtain ⟨_, hz_⟩ := Kd.R_typed HO_9.out _ rfl; exact Kd.R_ne HO_209002.out hz_ (by decide)) | (rw [add_block]; exact (by obtain ⟨_, hz_⟩ := Kd.R_typed HO_9.out _ rfl; exact Kd.R_ne HO_209002.out hz_ (by decide))) | (show some (Addr.add _ _).block ≠ _; rw [add_block]; exact (by obtain ⟨_, hz_⟩ := Kd.R_typed HO_9.out _ rfl; exact Kd.R_ne HO_209002.out hz_ (by decide)))))
          rw [← Ny256.out] at ho
          replace HO_9 := Aside0.mk (Kd.R_over' (Kd.R_x HO_9.out) (Kd.R_typed (Kd.R_x HO_209002.out)) (by decide) hg)
          replace HO_209000 := Aside0.mk (Kd.S_over' (Kd.S_x HO_209000.out) (Kd.R_typed (Kd.R_x HO_209002.out)) (by decide) hg)
          replace BK207 := Aside0.mk (blk_grown (blk_x BK207.out) hg (Kd.R_ne HO_209002.out BK207.out (by decide)))
          replace BK208 := Aside0.mk (blk_grown (blk_x BK208.out) hg (Kd.R_ne HO_209002.out BK208.out (by decide)))
          replace HI0 := Aside0.mk (IsS79.grown (by exact IsS79.up HI0.out) hg (IsS79.own_ne HI0.out HO_209002.out (by decide)))
          replace HB := Aside0.mk (below_weaken (by exact below_y HB.out) HL.out hb)
          replace HK := Aside0.mk (KeepBut.trans (by exact keep_y HK.out) (KeepBut.of_grown hg g) (Kd.R_base2 HO_209002.out))
          have HO258 := Aside0.mk (ho)
          clear HO_209002 ho hb hg hat
          obtain ⟨Ao107, co107, eo107⟩ := Kd.R_slice HO258.out
          (first | subst eo107 | (injection eo107 with f1_ f2_ f3_; have f4_ := f1_.symm; have f5_ := f3_.symm; clear f1_ f2_ f3_; subst f4_; subst f5_))
          refine hK.out _ _ ⟨(blk_cell BK208.out 0).trans rfl, (blk_cell BK208.out 1).trans rfl, (blk_cell BK208.out 2).trans rfl, (blk_cell BK208.out 3).trans rfl, (blk_cell BK208.out 4).trans rfl, HS5_⟩ (fun hHeld => ?_)
          clear hK K
          refine norm_ (a' := ?_) ?_ ?_
          rotate_left
          ·
           show Act.put _ (some 105) _ = _
           simp only [Act.put, put_x, i64_w, i32_w]
           rfl
          refine pure_ (i := 13) (N := some 106) (v := ?_) (a' := ?_) (bz 15 16383) rfl rfl (any_of HT_.out (by kernel_rfl)) (fun _ _ _ h => h) (Or.inl ⟨by rfl, ?_⟩) ?_ ?_
          rotate_left
          ·
           intro w'
           go_simp
           with_reducible rfl
          rotate_left
          ·
           simp only [Act.put, put_x, i64_w, i32_w]
           rfl
          refine last_ (i := 14) (N := none) (bz 15 32767) rfl rfl (one_of HT_.out (by kernel_rfl)) (by decide) (fun K hK => ?_)
          have hs108 : w106.cell? ⟨gb208, 2, none⟩ = some (u209002) := (blk_cell BK208.out 2).trans rfl
          have hfs108 := blk_frozen BK208.out 2
          have hns108_0 := NB207_208.out
          have hms108_0 := NB208_207.out
          refine skip_ (w1 := ?_) (by rfl) rfl ?_ ?_
          rotate_left
          ·
           go_simp
           rfl
          refine hK.out _ _ ?_
          clear hK K
          refine done_ (done_of HT_.out (by kernel_rfl)) ?_
          try go_wp2
          go_roundg k2
          case measure => have := HK1.out; have := HK2.out; omega
          case rel => exact ⟨(wrap64 (x15_2 - 1)), (t255), (y256), (.slice Ao107 y256.length co107), (by first | rfl | (simp; done) | (simp [*]; done)), H', ⟨by have := HK1.out; have := HK2.out; omega⟩, ⟨by (with_reducible repeat (first | apply Kd.R_alloc | apply Kd.R_drewN | apply Kd.R_drew)); exact Kd.R_mono (Kd.R_far (p := ⟨gb208, 2, none⟩) (Kd.R_types HO_9.out BK208.out (by decide)) (fun _ hk => hk.2) (.slice Ao107 y256.length co107)) (fun _ hk => trivial)⟩, ⟨by (with_reducible repeat (first | apply Kd.S_alloc | apply Kd.S_drewN | apply Kd.S_drew)); exact Kd.S_mono (Kd.S_far (p := ⟨gb208, 2, none⟩) (Kd.S_types HO_209000.out BK208.out (by decide)) (fun _ hk => hk.2) (.slice Ao107 y256.length co107)) (fun _ hk => trivial)⟩, ⟨by (with_reducible repeat (first | apply Kd.R_alloc | apply Kd.R_drewN | apply Kd.R_drew)); exact Kd.R_mono (Kd.R_far (p := ⟨gb208, 2, none⟩) (Kd.R_types HO258.out BK208.out (by decide)) (fun _ hk => hk.2) (.slice Ao107 y256.length co107)) (fun _ hk => trivial)⟩, ⟨blk_w BK207.out⟩, ⟨by (with_reducible repeat (first | refine blk_drewN ?_ _ | refine blk_drew ?_ | refine blk_alloc ?_ _)); refine blk_put (cs := #[.slice Ao101 x209000_1.length co101, .int .i64 t247, u209002, .int .i64 0, .slice none 0 0]) ?_ 2 _ rfl; (with_reducible repeat (first | refine blk_drewN ?_ _ | refine blk_drew ?_ | refine blk_alloc ?_ _)); exact BK208.out⟩, ⟨by exact IsS79.up HI0.out⟩, ⟨by exact keep_y HK.out⟩, ⟨by exact below_y HB.out⟩⟩
         ·
          rw [if_neg c97] at H
          exact absurd H (by simp)
        ·
         rw [if_neg c95] at H
         exact absurd H (by simp)
       ·
        rw [if_neg c94] at H
        exact absurd H (by simp)
      ·
       rw [if_neg c92] at H
       have c92b0 : decide (0 < x15_2) = false := decide_eq_false c92
       clear c92
       replace H := Option.bind_eq_some_iff.mp H
       obtain ⟨t259, A1090, H⟩ := H
       try dsimp only at H
       have A109 := Aside0.mk A1090
       clear A1090
       obtain ⟨y260, hy260⟩ : ∃ y_ : List Int, y_ = (([0, 0, 1] : List Int)) := ⟨_, rfl⟩
       replace H : ((swarfkit_Feed_Either.f x1000_2 y260).bind fun bt263 => (swarfkit_CarOf.l3 k2 x9_1 0 bt263.2 x209000_1 t247 x209002_2 (mn 12 (wrap64 (t259 + bt263.1))) ([] : List Int))) = some (r1, r2, r3, r4, r5, r6, r7) := by first | (rw [hy260]; with_reducible exact H) | (have H2_ := (Option.bind_some _ _).symm.trans H; rw [hy260]; with_reducible exact H2_) | (have H2_ := (Option.bind_some _ _).symm.trans H; with_reducible exact H2_) | with_reducible exact H | (rw [hy260]; exact H) | exact H
       have Ny260 := Aside0.mk hy260
       clear hy260
       replace H := Option.bind_eq_some_iff.mp H
       obtain ⟨⟨t263, t264⟩, A1100, H⟩ := H
       try dsimp only at H
       have A110 := Aside0.mk A1100
       clear A1100
       obtain ⟨ji111, hji111⟩ : ∃ j_ : Int, (mn 12 (wrap64 (t259 + t263))) = j_ := ⟨_, rfl⟩
       replace H : (swarfkit_CarOf.l3 k2 x9_1 0 t264 x209000_1 t247 x209002_2 ji111 ([] : List Int)) = some (r1, r2, r3, r4, r5, r6, r7) := by first | (rw [hji111] at H; exact H) | (simp only [hji111] at H ⊢; exact H)
       (try rw [hji111] at A109)
       (try rw [hji111] at A110)
       (try (have hji111h : ji111 ≤ 12 := by (rw [← hji111]; unfold mn; (repeat' split) <;> omega)))
       (try (have hji111g : ji111 ≤ 64 := by omega))
       have hji111_ : (if (wrap64 (t259 + t263)) < 12 then (wrap64 (t259 + t263)) else 12) = ji111 := hji111
       have H' := Aside0.mk H
       clear H
       have hnb112 := NB208_207.out
       have hnc112 := NB207_208.out
       have hnb113 := NB208_0.out
       have hnc113 := NB0_208.out
       obtain ⟨_, _, _, _, _⟩ := cz5 BK208
       have hfz114_0 := blk_frozen BK208.out
       obtain ⟨Ao115, co115, eo115⟩ := Kd.S_slice HO_209000.out
       subst eo115
       obtain ⟨Ao116, co116, eo116⟩ := Kd.R_slice HO_209002.out
       subst eo116
       obtain ⟨Ao117, co117, eo117⟩ := Kd.R_slice HO_9.out
       subst eo117
       go_wp2_with (first | ((with_reducible refine gate_callee (f := 28) rfl ?_); refine goesL_ (some 109) rfl rfl Try.func28 (by kernel_rfl) rfl #[.agg #[.slice Ao115 x209000_1.length co115, .int .i64 t247, .slice Ao116 x209002_2.length co116, .int .i64 0, .slice none 0 0], .slice Ao117 x9_1.length co117] rfl (by (try simp only [List.map_toArray, List.map_cons, List.map_nil]); first | done | rfl | (simp only [List.length_drop, List.length_take]; rfl)) ?_; (refine (swarfref04_Wrongs.calls k2 _ _ x209000_1 t247 _ _ x209002_2 0 _ _ ([] : List Int) _ _ x9_1 t259 _ ?side1 ?side2 ?side3 ?side4 ?side5 ?side6 ?side7 ?side8 A109.out).mono ?_); (case side1 => exact Kd.C_y (Kd.S_reads' HO_209000.out).2.2); (case side2 => exact (Kd.S_reads' HO_209000.out).2.1); (case side3 => exact Kd.C_y (Kd.R_reads' HO_209002.out).2.2); (case side4 => exact (Kd.R_reads' HO_209002.out).2.1); (case side5 => exact Kd.C_nil _ _); (case side6 => exact Nat.le_refl _); (case side7 => exact Kd.C_y (Kd.R_reads' HO_9.out).2.2); (case side8 => exact (Kd.R_reads' HO_9.out).2.1); rintro e w118 ⟨rfl, hb⟩; refine ⟨_, rfl, ?_⟩; replace HO_9 := Aside0.mk (Kd.R_below (Kd.R_x HO_9.out) hb); replace HO_209000 := Aside0.mk (Kd.S_below (Kd.S_x HO_209000.out) hb); replace HO_209002 := Aside0.mk (Kd.R_below (Kd.R_x HO_209002.out) hb); replace BK207 := Aside0.mk (blk_below (blk_x BK207.out) hb); replace BK208 := Aside0.mk (blk_below (blk_x BK208.out) hb); replace HI0 := Aside0.mk (IsS79.below (by exact IsS79.up HI0.out) hb); replace HK := Aside0.mk (KeepBut.trans (by exact keep_y HK.out) (KeepBut.of_below hb g none) (.inl rfl)); replace HB := bl_x HB hb; (try clear hb); (try clear hk); (try clear hi)) | ((with_reducible refine gate_dst (N := 111) rfl ?_); (try (refine gate_guard (by rfl) ?_; dsimp only)); refine Kd.R_lit (Kd.int .i64) _ 3 ?hg (N := 111) ?hd (xs := ([0, 0, 1] : List Int)) (inner := [.int .i64 0, .int .i64 0, .int .i64 1]) (ok := fun _ => True) (okp := fun _ => True) ?hr ?hp (fun _ hk => hk) trivial (Below.refl _ _) (Nat.le_refl _) (by simp) ?_; (case hd => rfl); (case hg => rfl); (case hr => first | (go_simp; done) | (go_simp; rfl)); (case hp => exact (Reps.one (show Kd.M (Kd.int .i64) _ _ _ 0 [.int .i64 0] from rfl) (Reps.one (show Kd.M (Kd.int .i64) _ _ _ 0 [.int .i64 0] from rfl) (Reps.one (show Kd.M (Kd.int .i64) _ _ _ 1 [.int .i64 1] from rfl) (Reps.none _ _))))); intro v261 w119 ho120 hb hg_ hnew_; clear hg_ hnew_; (first | rw [← Ny260.out] at ho120 | (simp only [Int.reduceToNat] at ho120; rw [← Ny260.out] at ho120)); replace HO_9 := Aside0.mk (Kd.R_below (Kd.R_x HO_9.out) hb); replace HO_209000 := Aside0.mk (Kd.S_elder' (Kd.S_x HO_209000.out) (Kd.R_base ho120) hb); replace HO_209002 := Aside0.mk (Kd.R_below (Kd.R_x HO_209002.out) hb); have HO262 := Aside0.mk (Kd.R_lower ho120 (keep_size (w := w) (g := g) (row := none) (by exact keep_y HK.out))); replace BK207 := Aside0.mk (blk_below (blk_x BK207.out) hb); replace BK208 := Aside0.mk (blk_below (blk_x BK208.out) hb); replace HI0 := Aside0.mk (IsS79.below (by exact IsS79.up HI0.out) hb); replace HK := Aside0.mk (KeepBut.trans (by exact keep_y HK.out) (KeepBut.of_below hb g none) (.inl rfl)); replace HB := bl_x HB hb; clear hb ho120; obtain ⟨Ao121, co121, eo121⟩ := Kd.R_slice HO262.out; subst eo121) | ((with_reducible refine gate_callee (f := 24) rfl ?_); refine goesL_ (some 112) rfl rfl Try.func24 (by kernel_rfl) rfl #[.pointer (some ⟨g, 0, none⟩), .slice Ao121 y260.length co121] rfl (by (try simp only [List.map_toArray, List.map_cons, List.map_nil]); first | done | rfl | (simp only [List.length_drop, List.length_take]; rfl)) ?_; (with_reducible refine (swarfkit_Feed_Either.calls g x1000_2 _ _ y260 t263 t264 w0 _ ?side1 ?side2 ?side3 ?side4 ?side5 A110.out).mono ?_); (case side1 => exact IsS79.up HI0.out); (case side2 => exact below_y HB.out); (case side3 => exact Kd.C_y (Kd.R_reads' HO262.out).2.2); (case side4 => exact (Kd.R_reads' HO262.out).2.1); (case side5 => exact far_slice (IsS79.own_ne HI0.out HO262.out (by decide))); rintro e w122 ⟨rfl, hi, hb, hk⟩; refine ⟨_, rfl, ?_⟩; replace HO_9 := Aside0.mk (Kd.R_mono (Kd.R_keep (IsS79.apart (show IsS79 w0 _ g x1000_2 from by exact IsS79.up HI0.out) (Kd.R_x HO_9.out) (by decide)) hk (fun _ h => h.2)) (fun _ h => h.1)); replace HO_209000 := Aside0.mk (Kd.S_mono (Kd.S_keep (IsS79.apartS (show IsS79 w0 _ g x1000_2 from by exact IsS79.up HI0.out) (Kd.S_x HO_209000.out) (by decide)) hk (fun _ h => h.2)) (fun _ h => h.1)); replace HO_209002 := Aside0.mk (Kd.R_mono (Kd.R_keep (IsS79.apart (show IsS79 w0 _ g x1000_2 from by exact IsS79.up HI0.out) (Kd.R_x HO_209002.out) (by decide)) hk (fun _ h => h.2)) (fun _ h => h.1)); replace BK207 := Aside0.mk (KeepBut.blk hk (blk_x BK207.out) NB207_0.out (by simp)); replace BK208 := Aside0.mk (KeepBut.blk hk (blk_x BK208.out) NB208_0.out (by simp)); replace HO262 := Aside0.mk (Kd.R_mono (Kd.R_keep (IsS79.apart (show IsS79 w0 _ g x1000_2 from by exact IsS79.up HI0.out) (Kd.R_x HO262.out) (by decide)) hk (fun _ h => h.2)) (fun _ h => h.1)); replace HK := Aside0.mk (KeepBut.trans (by exact keep_y HK.out) hk (.inl rfl)); replace HB := Aside0.mk (hb); replace HI0 := Aside0.mk (hi); (try clear hb); (try clear hk); (try clear hi); obtain ⟨_, _, _, _, _⟩ := cz5 BK208; have hfz123_0 := blk_frozen BK208.out))
       go_loopg [17] k2 (fun kq v17 w' => ∃ (x17_3 : Int) (x1000_3 : Int) (x209004_3 : List Int) (u209004 : Value), v17 = .int .i64 x17_3 ∧ Aside0 (swarfkit_CarOf.l3 kq x9_1 x17_3 x1000_3 x209000_1 t247 x209002_2 ji111 x209004_3 = some (r1, r2, r3, r4, r5, r6, r7)) ∧ Aside0 (kq ≤ k2) ∧ Aside0 (Kd.R Kd.bool 4 w' w.heap.size (fun _ => True) (.slice Ao117 x9_1.length co117) x9_1) ∧ Aside0 (Kd.S k50 50 w' w.heap.size (fun k_ => some k_ ≠ (u209004 : Value).ownBlock) (.slice Ao115 x209000_1.length co115) x209000_1) ∧ Aside0 (Kd.R k61 61 w' w.heap.size (fun _ => True) (.slice Ao116 x209002_2.length co116) x209002_2) ∧ Aside0 (Kd.R (Kd.int .i64) 3 w' w.heap.size (fun _ => True) u209004 x209004_3) ∧ Aside0 (w'.heap[gb207]? = some (.cells #[(.slice none 0 0), .int .i64 0, (.slice none 0 0), .int .i64 0, (.slice none 0 0)] 26 (0, 0))) ∧ Aside0 (w'.heap[gb208]? = some (.cells #[(.slice Ao115 x209000_1.length co115), .int .i64 t247, (.slice Ao116 x209002_2.length co116), .int .i64 ji111, u209004] 26 (0, 0))) ∧ Aside0 (IsS79 w0 w' g x1000_3) ∧ Aside0 (KeepBut w w' g none) ∧ Aside0 (Below w0.heap.size w0 w'))
       case atStart => exact ⟨(0), (t264), (([] : List Int)), (.slice none 0 0), (by first | rfl | (simp; done) | (simp [*]; done)), H', ⟨Nat.le_refl _⟩, ⟨by (with_reducible repeat (first | apply Kd.R_alloc | apply Kd.R_drewN | apply Kd.R_drew)); exact Kd.R_mono (Kd.R_far (p := ⟨gb208, 3, none⟩) (Kd.R_types HO_9.out BK208.out (by decide)) (fun _ hk => hk.2) (.int .i64 ji111)) (fun _ hk => trivial)⟩, ⟨by (with_reducible repeat (first | apply Kd.S_alloc | apply Kd.S_drewN | apply Kd.S_drew)); exact Kd.S_mono (Kd.S_far (p := ⟨gb208, 3, none⟩) (Kd.S_types HO_209000.out BK208.out (by decide)) (fun _ hk => hk.2) (.int .i64 ji111)) (fun _ hk => (by simp [Value.ownBlock]))⟩, ⟨by (with_reducible repeat (first | apply Kd.R_alloc | apply Kd.R_drewN | apply Kd.R_drew)); exact Kd.R_mono (Kd.R_far (p := ⟨gb208, 3, none⟩) (Kd.R_types HO_209002.out BK208.out (by decide)) (fun _ hk => hk.2) (.int .i64 ji111)) (fun _ hk => trivial)⟩, ⟨by first | exact Kd.R_nil _ _ _ _ _ | exact Kd.N_nil _ _ _ _ _ | exact Kd.V_nil _ _ _ _ _ | exact Kd.Q_nil _ _ _ _ _ | exact Kd.S_nil _ _ _ _ _⟩, ⟨blk_w BK207.out⟩, ⟨by (with_reducible repeat (first | refine blk_drewN ?_ _ | refine blk_drew ?_ | refine blk_alloc ?_ _)); refine blk_put (cs := #[.slice Ao115 x209000_1.length co115, .int .i64 t247, .slice Ao116 x209002_2.length co116, .int .i64 0, .slice none 0 0]) ?_ 3 _ rfl; (with_reducible repeat (first | refine blk_drewN ?_ _ | refine blk_drew ?_ | refine blk_alloc ?_ _)); exact BK208.out⟩, ⟨by exact IsS79.up HI0.out⟩, ⟨by exact keep_y HK.out⟩, ⟨by exact below_y HB.out⟩⟩
       case round =>
        clear H'
        obtain ⟨x17_3, x1000_3, x209004_3, u209004, rfl, HA, HK3, HO_9, HO_209000, HO_209002, HO_209004, BK207, BK208, HI0, HK, HB⟩ := hrel
        cases gk with
        | zero => exact absurd HA.out (by simp [swarfkit_CarOf.l3])
        | succ k3 =>
         have H := HA.out
         clear HA
         simp only [swarfkit_CarOf.l3] at H
         have HC124 := Aside0.mk H
         clear H
         go_upto_region 23 with (fail)
         go_cut [123] (fun v123 wc => ∃ (kq : Nat) (x123_123 : Bool), v123 = .bool x123_123 ∧ Aside0 (swarfkit_CarOf.j4 kq x9_1 x17_3 x123_123 x1000_3 x209000_1 t247 x209002_2 ji111 x209004_3 = some (r1, r2, r3, r4, r5, r6, r7)) ∧ Aside0 (kq ≤ k3) ∧ Aside0 (Kd.R Kd.bool 4 wc w.heap.size (fun _ => True) (.slice Ao117 x9_1.length co117) x9_1) ∧ Aside0 (Kd.S k50 50 wc w.heap.size (fun k_ => some k_ ≠ (u209004 : Value).ownBlock) (.slice Ao115 x209000_1.length co115) x209000_1) ∧ Aside0 (Kd.R k61 61 wc w.heap.size (fun _ => True) (.slice Ao116 x209002_2.length co116) x209002_2) ∧ Aside0 (Kd.R (Kd.int .i64) 3 wc w.heap.size (fun _ => True) u209004 x209004_3) ∧ Aside0 (wc.heap[gb207]? = some (.cells #[(.slice none 0 0), .int .i64 0, (.slice none 0 0), .int .i64 0, (.slice none 0 0)] 26 (0, 0))) ∧ Aside0 (wc.heap[gb208]? = some (.cells #[(.slice Ao115 x209000_1.length co115), .int .i64 t247, (.slice Ao116 x209002_2.length co116), .int .i64 ji111, u209004] 26 (0, 0))) ∧ Aside0 (IsS79 w0 wc g x1000_3) ∧ Aside0 (KeepBut w wc g none) ∧ Aside0 (Below w0.heap.size w0 wc))
         case first =>
          have H := HC124.out
          clear HC124
          by_cases c125 : x17_3 ≤ 8
          ·
           rw [if_pos c125] at H
           have c125b0 : decide (x17_3 ≤ 8) = true := decide_eq_true c125
           clear c125
           (first | rw [c125b0] | (simp only [i64_w, i32_w]; rw [c125b0]) | skip)
           have H' := Aside0.mk H
           clear H
           have hnb126 := NB208_207.out
           have hnc126 := NB207_208.out
           have hnb127 := NB208_0.out
           have hnc127 := NB0_208.out
           obtain ⟨_, _, _, _, _⟩ := cz5 BK208
           have hfz128_0 := blk_frozen BK208.out
           obtain ⟨Ao129, co129, eo129⟩ := Kd.R_slice HO_209004.out
           subst eo129
           go_wp2
           go_meet
           case rel => exact ⟨_, (decide ((x209004_3.length : Int) < 3)), (by first | rfl | (simp; done) | (simp [*]; done)), H', ⟨by have := HK1.out; have := HK2.out; have := HK3.out; first | omega | exact Nat.le_refl _⟩, ⟨by (with_reducible repeat (first | apply Kd.R_alloc | apply Kd.R_drewN | apply Kd.R_drew)); exact HO_9.out⟩, ⟨by (with_reducible repeat (first | apply Kd.S_alloc | apply Kd.S_drewN | apply Kd.S_drew)); exact HO_209000.out⟩, ⟨by (with_reducible repeat (first | apply Kd.R_alloc | apply Kd.R_drewN | apply Kd.R_drew)); exact HO_209002.out⟩, ⟨by (with_reducible repeat (first | apply Kd.R_alloc | apply Kd.R_drewN | apply Kd.R_drew)); exact HO_209004.out⟩, ⟨blk_x BK207.out⟩, ⟨blk_x BK208.out⟩, ⟨by exact IsS79.up HI0.out⟩, ⟨by exact keep_y HK.out⟩, ⟨by exact below_y HB.out⟩⟩
          ·
           rw [if_neg c125] at H
           have c125b0 : decide (x17_3 ≤ 8) = false := decide_eq_false c125
           clear c125
           (first | rw [c125b0] | (simp only [i64_w, i32_w]; rw [c125b0]) | skip)
           have H' := Aside0.mk H
           clear H
           go_wp2
           go_meet
           case rel => exact ⟨_, (false), (by first | rfl | (simp; done) | (simp [*]; done)), H', ⟨by have := HK1.out; have := HK2.out; have := HK3.out; first | omega | exact Nat.le_refl _⟩, ⟨by (with_reducible repeat (first | apply Kd.R_alloc | apply Kd.R_drewN | apply Kd.R_drew)); exact HO_9.out⟩, ⟨by (with_reducible repeat (first | apply Kd.S_alloc | apply Kd.S_drewN | apply Kd.S_drew)); exact HO_209000.out⟩, ⟨by (with_reducible repeat (first | apply Kd.R_alloc | apply Kd.R_drewN | apply Kd.R_drew)); exact HO_209002.out⟩, ⟨by (with_reducible repeat (first | apply Kd.R_alloc | apply Kd.R_drewN | apply Kd.R_drew)); exact HO_209004.out⟩, ⟨blk_x BK207.out⟩, ⟨blk_x BK208.out⟩, ⟨by exact IsS79.up HI0.out⟩, ⟨by exact keep_y HK.out⟩, ⟨by exact below_y HB.out⟩⟩
         case rest =>
          clear HC124
          obtain ⟨kq, x123_123, rfl, HA, HJ123, HO_9, HO_209000, HO_209002, HO_209004, BK207, BK208, HI0, HK, HB⟩ := hcut
          cases kq with
          | zero => exact absurd HA.out (by simp [swarfkit_CarOf.j4])
          | succ kj123 =>
           have H := HA.out
           clear HA
           simp only [swarfkit_CarOf.j4] at H
           by_cases c130 : x123_123 = true
           ·
            subst c130
            have H1 : ((swarfkit_Feed_Often.f x1000_3 1 5).bind fun bt265 => (if bt265.1 = true then (if x209004_3.length < 17592186044416 then (swarfkit_CarOf.l3 kj123 x9_1 (wrap64 (x17_3 + 1)) bt265.2 x209000_1 t247 x209002_2 ji111 (x209004_3 ++ [x17_3])) else (none)) else (swarfkit_CarOf.l3 kj123 x9_1 (wrap64 (x17_3 + 1)) bt265.2 x209000_1 t247 x209002_2 ji111 x209004_3))) = some (r1, r2, r3, r4, r5, r6, r7) := by rw [if_pos rfl] at H; exact H
            clear H
            have H := H1
            clear H1
            replace H := Option.bind_eq_some_iff.mp H
            obtain ⟨⟨t265, t266⟩, A1310, H⟩ := H
            try dsimp only at H
            have A131 := Aside0.mk A1310
            clear A1310
            by_cases c132 : t265 = true
            ·
             subst c132
             have H1 : (if x209004_3.length < 17592186044416 then (swarfkit_CarOf.l3 kj123 x9_1 (wrap64 (x17_3 + 1)) t266 x209000_1 t247 x209002_2 ji111 (x209004_3 ++ [x17_3])) else (none)) = some (r1, r2, r3, r4, r5, r6, r7) := by rw [if_pos rfl] at H; exact H
             clear H
             have H := H1
             clear H1
             by_cases c133 : x209004_3.length < 17592186044416
             ·
              rw [if_pos c133] at H
              have LMc133 := Aside0.mk c133
              clear c133
              obtain ⟨y267, hy267⟩ : ∃ y_ : List Int, y_ = (x209004_3 ++ [x17_3]) := ⟨_, rfl⟩
              replace H : (swarfkit_CarOf.l3 kj123 x9_1 (wrap64 (x17_3 + 1)) t266 x209000_1 t247 x209002_2 ji111 y267) = some (r1, r2, r3, r4, r5, r6, r7) := by first | (rw [hy267]; with_reducible exact H) | (have H2_ := (Option.bind_some _ _).symm.trans H; rw [hy267]; with_reducible exact H2_) | (have H2_ := (Option.bind_some _ _).symm.trans H; with_reducible exact H2_) | with_reducible exact H | (rw [hy267]; exact H) | exact H
              have Ny267 := Aside0.mk hy267
              clear hy267
              have H' := Aside0.mk H
              clear H
              go_wp2_with (first | ((with_reducible refine gate_callee (f := 35) rfl ?_); refine goesL_ (some 127) rfl rfl Try.func35 (by kernel_rfl) rfl #[.pointer (some ⟨g, 0, none⟩), .int .i64 1, .int .i64 5] rfl (by (try simp only [List.map_toArray, List.map_cons, List.map_nil]); first | done | rfl | (simp only [List.length_drop, List.length_take]; rfl)) ?_; (with_reducible refine (swarfkit_Feed_Often.calls g x1000_3 1 5 true t266 w0 _ ?side1 ?side2 A131.out).mono ?_); (case side1 => exact IsS79.up HI0.out); (case side2 => exact below_y HB.out); rintro e w134 ⟨rfl, hi, hb, hk⟩; refine ⟨_, rfl, ?_⟩; replace HO_9 := Aside0.mk (Kd.R_mono (Kd.R_keep (IsS79.apart (show IsS79 w0 _ g x1000_3 from by exact IsS79.up HI0.out) (Kd.R_x HO_9.out) (by decide)) hk (fun _ h => h.2)) (fun _ h => h.1)); replace HO_209000 := Aside0.mk (Kd.S_mono (Kd.S_keep (IsS79.apartS (show IsS79 w0 _ g x1000_3 from by exact IsS79.up HI0.out) (Kd.S_x HO_209000.out) (by decide)) hk (fun _ h => h.2)) (fun _ h => h.1)); replace HO_209002 := Aside0.mk (Kd.R_mono (Kd.R_keep (IsS79.apart (show IsS79 w0 _ g x1000_3 from by exact IsS79.up HI0.out) (Kd.R_x HO_209002.out) (by decide)) hk (fun _ h => h.2)) (fun _ h => h.1)); replace HO_209004 := Aside0.mk (Kd.R_mono (Kd.R_keep (IsS79.apart (show IsS79 w0 _ g x1000_3 from by exact IsS79.up HI0.out) (Kd.R_x HO_209004.out) (by decide)) hk (fun _ h => h.2)) (fun _ h => h.1)); replace BK207 := Aside0.mk (KeepBut.blk hk (blk_x BK207.out) NB207_0.out (by simp)); replace BK208 := Aside0.mk (KeepBut.blk hk (blk_x BK208.out) NB208_0.out (by simp)); replace HK := Aside0.mk (KeepBut.trans (by exact keep_y HK.out) hk (.inl rfl)); replace HB := Aside0.mk (hb); replace HI0 := Aside0.mk (hi); (try clear hb); (try clear hk); (try clear hi); have hnb135 := NB208_207.out; have hnc135 := NB207_208.out; have hnb136 := NB208_0.out; have hnc136 := NB0_208.out; obtain ⟨_, _, _, _, _⟩ := cz5 BK208; have hfz137_0 := blk_frozen BK208.out) | ((with_reducible refine gate_builtin (b := .append) (xs := #[.tmp 129, .tmp 131]) rfl ?_); (try (refine gate_guard (by rfl) ?_; dsimp only)); at_builtin; refine Kd.R_append (Kd.int .i64) w.heap.size rfl (.tmp 129) (.tmp 131) 24 3 (.int .i64 0) 8 rfl Try.underlying24 info3 rfl (by decide) (by omega) u209004 x209004_3 x17_3 [.int .i64 x17_3] (fun _ => True) (fun _ => False) rfl rfl ?aP (fun _ hk => hk.elim) ?aF ?aO (Below.refl _ _) ?aS ?aL ?_; (case aP => exact rfl); (case aF => exact (fun _ _ => trivial)); (case aO => exact (Kd.R_x HO_209004.out)); (case aS => exact (keep_size (w := w) (g := g) (row := none) (by exact keep_y HK.out))); (case aL => have := LMc133.out; omega); intro v268 w138 ho hb hg hat; rw [← Ny267.out] at ho; replace HO_9 := Aside0.mk (Kd.R_over' (Kd.R_x HO_9.out) (Kd.R_typed (Kd.R_x HO_209004.out)) (by decide) hg); replace HO_209000 := Aside0.mk (Kd.S_after (ok := (fun _ => True)) (by (with_reducible repeat (first | apply Kd.S_alloc | apply Kd.S_drewN | apply Kd.S_drew)); exact Kd.S_mono HO_209000.out (fun _ hk => ⟨trivial, hk⟩)) hg hat); replace HO_209002 := Aside0.mk (Kd.R_over' (Kd.R_x HO_209002.out) (Kd.R_typed (Kd.R_x HO_209004.out)) (by decide) hg); replace BK207 := Aside0.mk (blk_grown (blk_x BK207.out) hg (Kd.R_ne HO_209004.out BK207.out (by decide))); replace BK208 := Aside0.mk (blk_grown (blk_x BK208.out) hg (Kd.R_ne HO_209004.out BK208.out (by decide))); replace HI0 := Aside0.mk (IsS79.grown (by exact IsS79.up HI0.out) hg (IsS79.own_ne HI0.out HO_209004.out (by decide))); replace HB := Aside0.mk (below_weaken (by exact below_y HB.out) HL.out hb); replace HK := Aside0.mk (KeepBut.trans (by exact keep_y HK.out) (KeepBut.of_grown hg g) (Kd.R_base2 HO_209004.out)); have HO269 := Aside0.mk (ho); clear HO_209004; clear ho hb hg hat; obtain ⟨Ao139, co139, eo139⟩ := Kd.R_slice HO269.out; subst eo139; obtain ⟨_, _, _, _, _⟩ := cz5 BK208; have hfz140_0 := blk_frozen BK208.out))
              go_roundg kj123
              case measure => have := HK1.out; have := HK2.out; have := HK3.out; have := HJ123.out; omega
              case rel => exact ⟨(wrap64 (x17_3 + 1)), (t266), (y267), (.slice Ao139 y267.length co139), (by first | rfl | (simp; done) | (simp [*]; done)), H', ⟨by have := HK1.out; have := HK2.out; have := HK3.out; have := HJ123.out; omega⟩, ⟨by (with_reducible repeat (first | apply Kd.R_alloc | apply Kd.R_drewN | apply Kd.R_drew)); exact Kd.R_mono (Kd.R_far (p := ⟨gb208, 4, none⟩) (Kd.R_types HO_9.out BK208.out (by decide)) (fun _ hk => hk.2) (.slice Ao139 y267.length co139)) (fun _ hk => trivial)⟩, ⟨by (with_reducible repeat (first | apply Kd.S_alloc | apply Kd.S_drewN | apply Kd.S_drew)); exact Kd.S_mono (Kd.S_far (p := ⟨gb208, 4, none⟩) (Kd.S_types HO_209000.out BK208.out (by decide)) (fun _ hk => hk.2) (.slice Ao139 y267.length co139)) (fun _ hk => hk.1.2)⟩, ⟨by (with_reducible repeat (first | apply Kd.R_alloc | apply Kd.R_drewN | apply Kd.R_drew)); exact Kd.R_mono (Kd.R_far (p := ⟨gb208, 4, none⟩) (Kd.R_types HO_209002.out BK208.out (by decide)) (fun _ hk => hk.2) (.slice Ao139 y267.length co139)) (fun _ hk => trivial)⟩, ⟨by (with_reducible repeat (first | apply Kd.R_alloc | apply Kd.R_drewN | apply Kd.R_drew)); exact Kd.R_mono (Kd.R_far (p := ⟨gb208, 4, none⟩) (Kd.R_types HO269.out BK208.out (by decide)) (fun _ hk => hk.2) (.slice Ao139 y267.length co139)) (fun _ hk => trivial)⟩, ⟨blk_w BK207.out⟩, ⟨by (with_reducible repeat (first | refine blk_drewN ?_ _ | refine blk_drew ?_ | refine blk_alloc ?_ _)); refine blk_put (cs := #[.slice Ao115 x209000_1.length co115, .int .i64 t247, .slice Ao116 x209002_2.length co116, .int .i64 ji111, u209004]) ?_ 4 _ rfl; (with_reducible repeat (first | refine blk_drewN ?_ _ | refine blk_drew ?_ | refine blk_alloc ?_ _)); exact BK208.out⟩, ⟨by exact IsS79.up HI0.out⟩, ⟨by exact keep_y HK.out⟩, ⟨by exact below_y HB.out⟩⟩
             ·
              rw [if_neg c133] at H
              exact absurd H (by simp)
            ·
             replace c132 := Bool.eq_false_iff.mpr c132
             subst c132
             have H1 : (swarfkit_CarOf.l3 kj123 x9_1 (wrap64 (x17_3 + 1)) t266 x209000_1 t247 x209002_2 ji111 x209004_3) = some (r1, r2, r3, r4, r5, r6, r7) := by rw [if_neg (show ¬ (false = true) by decide)] at H; exact H
             clear H
             have H := H1
             clear H1
             have H' := Aside0.mk H
             clear H
             go_wp2_with (first | ((with_reducible refine gate_callee (f := 35) rfl ?_); refine goesL_ (some 127) rfl rfl Try.func35 (by kernel_rfl) rfl #[.pointer (some ⟨g, 0, none⟩), .int .i64 1, .int .i64 5] rfl (by (try simp only [List.map_toArray, List.map_cons, List.map_nil]); first | done | rfl | (simp only [List.length_drop, List.length_take]; rfl)) ?_; (with_reducible refine (swarfkit_Feed_Often.calls g x1000_3 1 5 false t266 w0 _ ?side1 ?side2 A131.out).mono ?_); (case side1 => exact IsS79.up HI0.out); (case side2 => exact below_y HB.out); rintro e w141 ⟨rfl, hi, hb, hk⟩; refine ⟨_, rfl, ?_⟩; replace HO_9 := Aside0.mk (Kd.R_mono (Kd.R_keep (IsS79.apart (show IsS79 w0 _ g x1000_3 from by exact IsS79.up HI0.out) (Kd.R_x HO_9.out) (by decide)) hk (fun _ h => h.2)) (fun _ h => h.1)); replace HO_209000 := Aside0.mk (Kd.S_mono (Kd.S_keep (IsS79.apartS (show IsS79 w0 _ g x1000_3 from by exact IsS79.up HI0.out) (Kd.S_x HO_209000.out) (by decide)) hk (fun _ h => h.2)) (fun _ h => h.1)); replace HO_209002 := Aside0.mk (Kd.R_mono (Kd.R_keep (IsS79.apart (show IsS79 w0 _ g x1000_3 from by exact IsS79.up HI0.out) (Kd.R_x HO_209002.out) (by decide)) hk (fun _ h => h.2)) (fun _ h => h.1)); replace HO_209004 := Aside0.mk (Kd.R_mono (Kd.R_keep (IsS79.apart (show IsS79 w0 _ g x1000_3 from by exact IsS79.up HI0.out) (Kd.R_x HO_209004.out) (by decide)) hk (fun _ h => h.2)) (fun _ h => h.1)); replace BK207 := Aside0.mk (KeepBut.blk hk (blk_x BK207.out) NB207_0.out (by simp)); replace BK208 := Aside0.mk (KeepBut.blk hk (blk_x BK208.out) NB208_0.out (by simp)); replace HK := Aside0.mk (KeepBut.trans (by exact keep_y HK.out) hk (.inl rfl)); replace HB := Aside0.mk (hb); replace HI0 := Aside0.mk (hi); (try clear hb); (try clear hk); (try clear hi)))
             go_roundg kj123
             case measure => have := HK1.out; have := HK2.out; have := HK3.out; have := HJ123.out; omega
             case rel => exact ⟨(wrap64 (x17_3 + 1)), (t266), (x209004_3), (u209004), (by first | rfl | (simp; done) | (simp [*]; done)), H', ⟨by have := HK1.out; have := HK2.out; have := HK3.out; have := HJ123.out; omega⟩, ⟨by (with_reducible repeat (first | apply Kd.R_alloc | apply Kd.R_drewN | apply Kd.R_drew)); exact HO_9.out⟩, ⟨by (with_reducible repeat (first | apply Kd.S_alloc | apply Kd.S_drewN | apply Kd.S_drew)); exact HO_209000.out⟩, ⟨by (with_reducible repeat (first | apply Kd.R_alloc | apply Kd.R_drewN | apply Kd.R_drew)); exact HO_209002.out⟩, ⟨by (with_reducible repeat (first | apply Kd.R_alloc | apply Kd.R_drewN | apply Kd.R_drew)); exact HO_209004.out⟩, ⟨blk_x BK207.out⟩, ⟨blk_x BK208.out⟩, ⟨by exact IsS79.up HI0.out⟩, ⟨by exact keep_y HK.out⟩, ⟨by exact below_y HB.out⟩⟩
           ·
            replace c130 := Bool.eq_false_iff.mpr c130
            subst c130
            have H1 : (some (x209000_1, t247, x209002_2, ji111, x209004_3, x9_1, x1000_3)) = some (r1, r2, r3, r4, r5, r6, r7) := by rw [if_neg (show ¬ (false = true) by decide)] at H; exact H
            clear H
            have H := H1
            clear H1
            simp only [Option.some.injEq, Prod.mk.injEq] at H
            obtain ⟨rfl, rfl, rfl, rfl, rfl, rfl, rfl⟩ := H
            have hnb142 := NB208_207.out
            have hnc142 := NB207_208.out
            have hnb143 := NB208_0.out
            have hnc143 := NB0_208.out
            obtain ⟨_, _, _, _, _⟩ := cz5 BK208
            have hfz144_0 := blk_frozen BK208.out
            have hnb145 := NB207_0.out
            have hnc145 := NB0_207.out
            obtain ⟨_, _, _, _, _⟩ := cz5 BK207
            have hfz146_0 := blk_frozen BK207.out
            obtain ⟨Ao147, co147, eo147⟩ := Kd.R_slice HO_209004.out
            subst eo147
            go_wp2
            refine bodyPost_ret (results_ct rfl _ _ gb207 26 #[.slice Ao115 x209000_1.length co115, .int .i64 t247, .slice Ao116 x209002_2.length co116, .int .i64 ji111, .slice Ao147 x209004_3.length co147] (0, 0) _ rfl (by (with_reducible repeat (first | refine blk_drewN ?_ _ | refine blk_drew ?_ | refine blk_alloc ?_ _)); refine blk_put (cs := #[.slice Ao115 x209000_1.length co115, .int .i64 t247, .slice Ao116 x209002_2.length co116, .int .i64 ji111, .slice none 0 0]) ?_ 4 _ rfl; (with_reducible repeat (first | refine blk_drewN ?_ _ | refine blk_drew ?_ | refine blk_alloc ?_ _)); refine blk_put (cs := #[.slice Ao115 x209000_1.length co115, .int .i64 t247, .slice Ao116 x209002_2.length co116, .int .i64 0, .slice none 0 0]) ?_ 3 _ rfl; (with_reducible repeat (first | refine blk_drewN ?_ _ | refine blk_drew ?_ | refine blk_alloc ?_ _)); refine blk_put (cs := #[.slice Ao115 x209000_1.length co115, .int .i64 t247, .slice none 0 0, .int .i64 0, .slice none 0 0]) ?_ 2 _ rfl; (with_reducible repeat (first | refine blk_drewN ?_ _ | refine blk_drew ?_ | refine blk_alloc ?_ _)); refine blk_put (cs := #[.slice Ao115 x209000_1.length co115, .int .i64 0, .slice none 0 0, .int .i64 0, .slice none 0 0]) ?_ 1 _ rfl; (with_reducible repeat (first | refine blk_drewN ?_ _ | refine blk_drew ?_ | refine blk_alloc ?_ _)); refine blk_put (cs := #[.slice none 0 0, .int .i64 0, .slice none 0 0, .int .i64 0, .slice none 0 0]) ?_ 0 _ rfl; (with_reducible repeat (first | refine blk_drewN ?_ _ | refine blk_drew ?_ | refine blk_alloc ?_ _)); exact BK207.out) Try.underlying26 rfl (by kernel_rfl)) rfl ?_
            exact ⟨_, _, _, _, by first | rfl | (simp [errW_none, errW_some] <;> rfl) | (simp only [← hji111]; first | rfl | (simp [errW_none, errW_some] <;> rfl)) | (simp [*, errW_none, errW_some] <;> rfl), by (with_reducible repeat (first | apply Kd.S_alloc | apply Kd.S_drewN | apply Kd.S_drew)); exact Kd.S_mono (Kd.S_far (p := ⟨gb207, 4, none⟩) (Kd.S_far (p := ⟨gb207, 3, none⟩) (Kd.S_far (p := ⟨gb207, 2, none⟩) (Kd.S_far (p := ⟨gb207, 1, none⟩) (Kd.S_far (p := ⟨gb207, 0, none⟩) (Kd.S_types HO_209000.out BK207.out (by decide)) (fun _ hk => hk.2) (.slice Ao115 x209000_1.length co115)) (fun _ hk => hk.2) (.int .i64 t247)) (fun _ hk => hk.2) (.slice Ao116 x209002_2.length co116)) (fun _ hk => hk.2) (.int .i64 ji111)) (fun _ hk => hk.2) (.slice Ao147 x209004_3.length co147)) (fun _ hk => hk.1), by (with_reducible repeat (first | apply Kd.R_alloc | apply Kd.R_drewN | apply Kd.R_drew)); exact Kd.R_mono (Kd.R_far (p := ⟨gb207, 4, none⟩) (Kd.R_far (p := ⟨gb207, 3, none⟩) (Kd.R_far (p := ⟨gb207, 2, none⟩) (Kd.R_far (p := ⟨gb207, 1, none⟩) (Kd.R_far (p := ⟨gb207, 0, none⟩) (Kd.R_types HO_209002.out BK207.out (by decide)) (fun _ hk => hk.2) (.slice Ao115 x209000_1.length co115)) (fun _ hk => hk.2) (.int .i64 t247)) (fun _ hk => hk.2) (.slice Ao116 x209002_2.length co116)) (fun _ hk => hk.2) (.int .i64 ji111)) (fun _ hk => hk.2) (.slice Ao147 x209004_3.length co147)) (fun _ hk => trivial), by (with_reducible repeat (first | apply Kd.R_alloc | apply Kd.R_drewN | apply Kd.R_drew)); exact Kd.R_mono (Kd.R_far (p := ⟨gb207, 4, none⟩) (Kd.R_far (p := ⟨gb207, 3, none⟩) (Kd.R_far (p := ⟨gb207, 2, none⟩) (Kd.R_far (p := ⟨gb207, 1, none⟩) (Kd.R_far (p := ⟨gb207, 0, none⟩) (Kd.R_types HO_209004.out BK207.out (by decide)) (fun _ hk => hk.2) (.slice Ao115 x209000_1.length co115)) (fun _ hk => hk.2) (.int .i64 t247)) (fun _ hk => hk.2) (.slice Ao116 x209002_2.length co116)) (fun _ hk => hk.2) (.int .i64 ji111)) (fun _ hk => hk.2) (.slice Ao147 x209004_3.length co147)) (fun _ hk => trivial), by (with_reducible repeat (first | apply Kd.R_alloc | apply Kd.R_drewN | apply Kd.R_drew)); exact Kd.R_mono (Kd.R_far (p := ⟨gb207, 4, none⟩) (Kd.R_far (p := ⟨gb207, 3, none⟩) (Kd.R_far (p := ⟨gb207, 2, none⟩) (Kd.R_far (p := ⟨gb207, 1, none⟩) (Kd.R_far (p := ⟨gb207, 0, none⟩) (Kd.R_types HO_9.out BK207.out (by decide)) (fun _ hk => hk.2) (.slice Ao115 x209000_1.length co115)) (fun _ hk => hk.2) (.int .i64 t247)) (fun _ hk => hk.2) (.slice Ao116 x209002_2.length co116)) (fun _ hk => hk.2) (.int .i64 ji111)) (fun _ hk => hk.2) (.slice Ao147 x209004_3.length co147)) (fun _ hk => trivial), by exact IsS79.up HI0.out, by exact below_y HB.out, by exact keep_y HK.out⟩
end Go.Proofs.Ytkkmfcdikkiodaa.PC4
namespace Go.Proofs.Ytkkmfcdikkiodaa.PC4
set_option linter.unusedVariables false
open Go.RowKit Go.Proofs.YtkkmfcdikkiodaaW.PrintWords Go.Proofs.YtkkmfcdikkiodaaW.PrintLast Go.Proofs.YtkkmfcdikkiodaaW.PrintMore
theorem u64_bd (n : Int) : 0 ≤ IntKind.u64.wrap n ∧ IntKind.u64.wrap n < 18446744073709551616 := by
  have : IntKind.u64.wrap n = n % 18446744073709551616 := by simp [IntKind.wrap, IntKind.bits, IntKind.signed]
  omega
theorem u64_id {n : Int} (h0 : 0 ≤ n) (h : n < 18446744073709551616) : IntKind.u64.wrap n = n := by
  have : IntKind.u64.wrap n = n % 18446744073709551616 := by simp [IntKind.wrap, IntKind.bits, IntKind.signed]
  omega
theorem below_ok (s n : Int) (h1 : 1 ≤ n) (h : n ≤ 1000000000) : ∃ r s', swarfkit_Feed_Below.f s n = some (r, s') ∧ 0 ≤ r ∧ r < n := by
  unfold swarfkit_Feed_Below.f
  by_cases h2 : n < 2
  · rw [if_pos h2]
    exact ⟨0, s, rfl, by omega, by omega⟩
  · rw [if_neg h2]
    unfold swarfkit_Feed_next.f
    simp only [Option.bind_some]
    rw [u64_id (by omega) (by omega), if_neg (by omega)]
    refine ⟨_, _, rfl, ?_⟩
    obtain ⟨ha, hb⟩ := u64_bd (feedN s * 2685821657736338717)
    have hm : feedM (feedN s) = IntKind.u64.wrap (feedN s * 2685821657736338717) := rfl
    rw [hm]
    generalize IntKind.u64.wrap (feedN s * 2685821657736338717) = x at *
    have hx : 0 ≤ x / 256 := by omega
    rw [Int.tmod_eq_emod_of_nonneg hx]
    have h3 := Int.emod_nonneg (x / 256) (show n ≠ 0 by omega)
    have h4 := Int.emod_lt_of_pos (x / 256) (show 0 < n by omega)
    rw [wrap64_id (by omega) (by omega)]
    exact ⟨h3, h4⟩
theorem often_ok (s n m : Int) (h1 : 1 ≤ m) (h : m ≤ 1000000000) : ∃ b s', swarfkit_Feed_Often.f s n m = some (b, s') := by
  obtain ⟨r, s', h2, _⟩ := below_ok s m h1 h
  exact ⟨_, _, by unfold swarfkit_Feed_Often.f; rw [h2]; rfl⟩
theorem between_ok (s lo hi : Int) (h : lo ≤ hi) (h0 : 0 ≤ lo) (h1 : hi ≤ 1000000) : ∃ r s', swarfkit_Feed_Between.f s lo hi = some (r, s') ∧ lo ≤ r ∧ r ≤ hi := by
  obtain ⟨r, s', h2, h3, h4⟩ := below_ok s (hi - lo + 1) (by omega) (by omega)
  refine ⟨lo + r, s', ?_, by omega, by omega⟩
  unfold swarfkit_Feed_Between.f
  rw [wrap64_id (n := hi - lo) (by omega) (by omega), wrap64_id (by omega) (by omega), h2]
  simp only [Option.bind_some]
  rw [wrap64_id (by omega) (by omega)]
theorem either_ok (s : Int) (l : List Int) (h0 : l ≠ []) (h : l.length ≤ 1000) : ∃ r s', swarfkit_Feed_Either.f s l = some (r, s') ∧ r ∈ l := by
  have hl : 0 < l.length := List.length_pos_iff.2 h0
  obtain ⟨r, s', h2, h3, h4⟩ := below_ok s l.length (by omega) (by omega)
  refine ⟨rd l r, s', ?_, ?_⟩
  · unfold swarfkit_Feed_Either.f
    rw [if_neg (by omega), h2]
    simp only [Option.bind_some]
    rw [if_pos h3, if_pos h4]
  · obtain ⟨k, rfl⟩ : ∃ k : Nat, r = k := ⟨r.toNat, by omega⟩
    have hk : k < l.length := by omega
    rw [rd_getD, List.getD, List.getElem?_eq_getElem hk]
    exact List.getElem_mem hk
def Res {α : Type} (g : Nat → Option α) (P : α → Prop) : Prop := ∃ r, Ev g r ∧ P r
theorem Res.step {α : Type} {g f : Nat → Option α} {P : α → Prop} (h : ∀ k, g (k + 1) = f k) (k : Res f P) : Res g P := by
  obtain ⟨r, h1, h2⟩ := k
  exact ⟨r, Ev.step h h1, h2⟩
theorem Res.bind {α β : Type} {g : Nat → Option α} {f : Nat → α → Option β} {P : β → Prop} {a : α} (h : Ev g a) (k : Res (fun n => f n a) P) : Res (fun n => (g n).bind (f n)) P := by
  obtain ⟨r, h1, h2⟩ := k
  exact ⟨r, Ev.bind h h1, h2⟩
theorem inB_of {n low high : Int} (h : low ≤ n ∧ n ≤ high) : inB n low high = true := inB_true.2 h
theorem rise_snoc (most beyond x : Int) : ∀ (l : List Int) (p : Option Int), rise most beyond p l = 0 → (∀ y, y ∈ l → y < x) → (∀ q, p = some q → q < x) → 0 ≤ x → x ≤ most → rise most beyond p (l ++ [x]) = 0 := by
  intro l
  induction l with
  | nil =>
    intro p _ _ hp h0 h1
    show rise most beyond p [x] = 0
    rw [rise_cons, if_pos (inB_of ⟨h0, h1⟩)]
    cases p with
    | none => simp [rise]
    | some q =>
      have := hp q rfl
      rw [if_neg (by simpa using this)]
      simp [rise]
  | cons y l ih =>
    intro p h hl hp h0 h1
    rw [List.cons_append, rise_cons]
    rw [rise_cons] at h
    have hy := hl y List.mem_cons_self
    by_cases hb : inB y 0 most = true
    · rw [if_pos hb] at h ⊢
      have hn := fun h => ih (some y) h (fun z hz => hl z (List.mem_cons_of_mem _ hz)) (fun q e => by injection e with e; omega) h0 h1
      cases p with
      | none =>
        rw [if_neg (by simp)] at h ⊢
        exact hn h
      | some q =>
        by_cases hq : y ≤ q
        · rw [if_pos (by simpa using hq)] at h
          cases h
        · rw [if_neg (by simpa using hq)] at h ⊢
          exact hn h
    · rw [if_neg hb] at h ⊢
      exact h
theorem riseE_snoc {most beyond x : Int} {l : List Int} (h : riseE most beyond l = 0) (hl : ∀ y, y ∈ l → y < x) (h0 : 0 ≤ x) (h1 : x ≤ most) : riseE most beyond (l ++ [x]) = 0 :=
  rise_snoc most beyond x l none h hl (fun q e => by cases e) h0 h1
structure PartOK (i : Nat) (p : S50) : Prop where
  ris : riseE ((i : Int) - 1) 3 p.f0 = 0
  lt : ∀ x, x ∈ p.f0 → 0 ≤ x ∧ x < i
  len : p.f0.length ≤ i
  tool : 1 ≤ p.f2 ∧ p.f2 ≤ 4
  min : 0 ≤ p.f3 ∧ p.f3 ≤ 1000
structure PartsOK (parts : List S50) (st : List Bool) : Prop where
  len : st.length = parts.length
  ok : ∀ i, i < parts.length → PartOK i (parts.getD i z50)
  st : ∀ i, i < parts.length → st.getD i false = true → ∀ x, x ∈ (parts.getD i z50).f0 → st.getD x.toNat false = true
theorem getD_snoc_lt {α : Type} (l : List α) (x d : α) {i : Nat} (h : i < l.length) : (l ++ [x]).getD i d = l.getD i d := by
  rw [List.getD, List.getD, List.getElem?_append_left h]
theorem getD_snoc_eq {α : Type} (l : List α) (x d : α) : (l ++ [x]).getD l.length d = x := by
  rw [List.getD, List.getElem?_append_right (Nat.le_refl _)]; simp
theorem PartsOK.snoc {parts : List S50} {st : List Bool} (h : PartsOK parts st) {p : S50} {b : Bool} (hp : PartOK parts.length p) (hb : b = true → ∀ x, x ∈ p.f0 → st.getD x.toNat false = true) : PartsOK (parts ++ [p]) (st ++ [b]) := by
  refine ⟨by simp [h.len], fun i hi => ?_, fun i hi hs x hx => ?_⟩
  · rw [List.length_append, List.length_singleton] at hi
    by_cases e : i = parts.length
    · subst e; rw [getD_snoc_eq]; exact hp
    · rw [getD_snoc_lt _ _ _ (by omega)]; exact h.ok i (by omega)
  · rw [List.length_append, List.length_singleton] at hi
    by_cases e : i = parts.length
    · subst e
      rw [getD_snoc_eq] at hx
      rw [← h.len, getD_snoc_eq] at hs
      have hlt := hp.lt x hx
      rw [getD_snoc_lt _ _ _ (by rw [h.len]; omega)]
      exact hb hs x hx
    · rw [getD_snoc_lt _ _ _ (by omega)] at hx
      rw [getD_snoc_lt _ _ _ (by rw [h.len]; omega)] at hs
      have hlt := (h.ok i (by omega)).lt x hx
      rw [getD_snoc_lt _ _ _ (by rw [h.len]; omega)]
      exact h.st i (by omega) hs x hx
def wrongB (st : List Bool) : List S61 → Nat
  | [] => 0
  | l :: t => (if st.getD l.f0.toNat false != l.f1 then 1 else 0) + wrongB st t
theorem wrongB_le (st : List Bool) (l : List S61) : wrongB st l ≤ l.length := by
  induction l with
  | nil => simp [wrongB]
  | cons y l ih => simp only [wrongB, List.length_cons]; split <;> omega
theorem wrongs_l0 (parts : List S50) (swap : Int) (looks : List S61) (wrong : Int) (needs : List Int) (st : List Bool) (hl : looks.length ≤ 1000) (h : ∀ l, l ∈ looks → 0 ≤ l.f0 ∧ l.f0 < st.length) (d : Nat) :
    ∀ (i n : Nat), i + d = looks.length → n ≤ i → Ev (fun K => swarfref04_Wrongs.l0 K st (n : Int) (i : Int) parts swap looks wrong needs) ((n + wrongB st (looks.drop i) : Nat) : Int) := by
  induction d with
  | zero =>
    intro i n hi hn
    refine Ev.step (f := fun _ => some (n : Int)) (fun K => ?_) ?_
    · simp only [swarfref04_Wrongs.l0]
      rw [if_neg (by omega)]
    · rw [List.drop_of_length_le (by omega)]
      exact Ev.now _
  | succ d ih =>
    intro i n hi hn
    have hlt : i < looks.length := by omega
    have hrd : rd_T61 looks (i : Int) = looks.getD i z61 := by simp [rd_T61]
    have hm : looks.getD i z61 ∈ looks := by rw [List.getD, List.getElem?_eq_getElem hlt]; exact List.getElem_mem hlt
    have hb := h _ hm
    have hw : wrap64 ((i : Int) + 1) = ((i + 1 : Nat) : Int) := by rw [wrap64_id (by omega) (by omega)]; omega
    have hw2 : wrap64 ((n : Int) + 1) = ((n + 1 : Nat) : Int) := by rw [wrap64_id (by omega) (by omega)]; omega
    rw [drop_cons_rd looks i hlt z61]
    generalize looks.getD i z61 = x at *
    have hx : rdOf false st x.f0 = st.getD x.f0.toNat false := rfl
    refine Ev.step (f := fun K => if (st.getD x.f0.toNat false != x.f1) = true then swarfref04_Wrongs.l0 K st ((n + 1 : Nat) : Int) ((i + 1 : Nat) : Int) parts swap looks wrong needs else swarfref04_Wrongs.l0 K st (n : Int) ((i + 1 : Nat) : Int) parts swap looks wrong needs) (fun K => ?_) ?_
    · simp only [swarfref04_Wrongs.l0]
      rw [if_pos (by omega), if_pos (by omega), hrd, if_pos (by omega), if_pos (by omega), hw, hw2, hx]
    · simp only [wrongB]
      by_cases hc : (st.getD x.f0.toNat false != x.f1) = true
      · simp only [hc, if_true]
        have := ih (i + 1) (n + 1) (by omega) (by omega)
        rwa [Nat.add_assoc] at this
      · simp only [hc, Bool.false_eq_true, if_false, Nat.zero_add]
        exact ih (i + 1) n (by omega) (by omega)
theorem wrongs_ev (parts : List S50) (swap : Int) (looks : List S61) (wrong : Int) (needs : List Int) (st : List Bool) (hl : looks.length ≤ 1000) (h : ∀ l, l ∈ looks → 0 ≤ l.f0 ∧ l.f0 < st.length) :
    Ev (fun K => swarfref04_Wrongs.f K parts swap looks wrong needs st) ((wrongB st looks : Nat) : Int) := by
  have := wrongs_l0 parts swap looks wrong needs st hl h looks.length 0 0 (by omega) (by omega)
  simpa [swarfref04_Wrongs.f] using this
structure CarGood (a1 a2 : Int) (parts : List S50) (swap : Int) (looks : List S61) (wrong : Int) (needs : List Int) (st : List Bool) : Prop where
  p : PartsOK parts st
  one : 1 ≤ parts.length
  few : (parts.length : Int) ≤ a1
  sw : 0 ≤ swap ∧ swap ≤ 8
  lk : ∀ l, l ∈ looks → 0 ≤ l.f0 ∧ l.f0 < parts.length
  ll : (looks.length : Int) ≤ a2
  wr : 0 ≤ wrong ∧ wrong ≤ 12 ∧ (wrongB st looks : Int) ≤ wrong
  nd : riseE 8 1 needs = 0
  nl : needs.length ≤ 3
abbrev CarT := List S50 × Int × List S61 × Int × List Int × List Bool × Int
def CarGoodT (a1 a2 : Int) (r : CarT) : Prop := CarGood a1 a2 r.1 r.2.1 r.2.2.1 r.2.2.2.1 r.2.2.2.2.1 r.2.2.2.2.2.1
theorem carOf_l3 {a1 a2 : Int} {parts : List S50} {swap : Int} {looks : List S61} {wrong : Int} {st : List Bool} (hg : CarGood a1 a2 parts swap looks wrong [] st) (d : Nat) :
    ∀ (i : Nat) (s : Int) (needs : List Int), i + d = 9 → riseE 8 1 needs = 0 → (∀ x, x ∈ needs → x < i) → needs.length ≤ 3 → Res (fun K => swarfkit_CarOf.l3 K st (i : Int) s parts swap looks wrong needs) (CarGoodT a1 a2) := by
  induction d with
  | zero =>
    intro i s needs hi hr hlt hlen
    refine Res.step (f := fun K => swarfkit_CarOf.j4 K st (i : Int) false s parts swap looks wrong needs) (fun K => ?_) ?_
    · simp only [swarfkit_CarOf.l3]
      rw [if_neg (by omega)]
    · refine Res.step (f := fun K => some (parts, swap, looks, wrong, needs, st, s)) (fun K => ?_) ?_
      · simp only [swarfkit_CarOf.j4]
        rw [if_neg (by decide)]
      · exact ⟨_, Ev.now _, ⟨hg.p, hg.one, hg.few, hg.sw, hg.lk, hg.ll, hg.wr, hr, hlen⟩⟩
  | succ d ih =>
    intro i s needs hi hr hlt hlen
    refine Res.step (f := fun K => swarfkit_CarOf.j4 K st (i : Int) (decide ((needs.length : Int) < 3)) s parts swap looks wrong needs) (fun K => ?_) ?_
    · simp only [swarfkit_CarOf.l3]
      rw [if_pos (by omega)]
    by_cases h3 : (needs.length : Int) < 3
    · obtain ⟨b, s', hb⟩ := often_ok s 1 5 (by decide) (by decide)
      have hw : wrap64 ((i : Int) + 1) = ((i + 1 : Nat) : Int) := by rw [wrap64_id (by omega) (by omega)]; omega
      refine Res.step (f := fun K => if b = true then swarfkit_CarOf.l3 K st ((i + 1 : Nat) : Int) s' parts swap looks wrong (needs ++ [(i : Int)]) else swarfkit_CarOf.l3 K st ((i + 1 : Nat) : Int) s' parts swap looks wrong needs) (fun K => ?_) ?_
      · have hl2 : needs.length < 17592186044416 := by omega
        simp only [swarfkit_CarOf.j4, decide_eq_true h3, if_true, hb, Option.bind_some, hl2, hw]
      · cases b with
        | true =>
          simp only [if_true]
          refine ih (i + 1) s' _ (by omega) (riseE_snoc hr hlt (by omega) (by omega)) (fun x hx => ?_) (by simp; omega)
          rcases List.mem_append.1 hx with hx | hx
          · have := hlt x hx; omega
          · have := List.mem_singleton.1 hx; omega
        | false =>
          simp only [Bool.false_eq_true, if_false]
          exact ih (i + 1) s' _ (by omega) hr (fun x hx => by have := hlt x hx; omega) hlen
    · refine Res.step (f := fun K => some (parts, swap, looks, wrong, needs, st, s)) (fun K => ?_) ?_
      · simp only [swarfkit_CarOf.j4]
        rw [if_neg (by simpa using h3)]
      · exact ⟨_, Ev.now _, ⟨hg.p, hg.one, hg.few, hg.sw, hg.lk, hg.ll, hg.wr, hr, hlen⟩⟩
theorem carOf_l2 {a1 a2 : Int} {parts : List S50} {swap : Int} {st : List Bool} (hp : PartsOK parts st) (h1 : 1 ≤ parts.length) (h2 : (parts.length : Int) ≤ a1) (h9 : a1 ≤ 9) (hsw : 0 ≤ swap ∧ swap ≤ 8) (h12 : a2 ≤ 12) (d : Nat) :
    ∀ (s : Int) (looks : List S61), (looks.length : Int) + d ≤ a2 → (∀ l, l ∈ looks → 0 ≤ l.f0 ∧ l.f0 < parts.length) → Res (fun K => swarfkit_CarOf.l2 K st (d : Int) s parts swap looks 0) (CarGoodT a1 a2) := by
  induction d with
  | zero =>
    intro s looks hd hl
    have hlen := hp.len
    have hle := wrongB_le st looks
    have hw := wrongs_ev parts swap looks 0 [] st (by omega) (fun l h => by have := hl l h; rw [hlen]; exact this)
    obtain ⟨r, s', he, hr⟩ := either_ok s [0, 0, 1] (by simp) (by simp)
    have hr01 : 0 ≤ r ∧ r ≤ 1 := by simp at hr; omega
    refine Res.step (f := fun K => (swarfref04_Wrongs.f K parts swap looks 0 ([] : List Int) st).bind fun t259 => swarfkit_CarOf.l3 K st ((0 : Nat) : Int) s' parts swap looks (mn 12 (wrap64 (t259 + r))) ([] : List Int)) (fun K => ?_) ?_
    · simp only [swarfkit_CarOf.l2]
      rw [if_neg (by omega), he]
      rfl
    · refine Res.bind hw ?_
      rw [wrap64_id (by omega) (by omega)]
      have hm : 0 ≤ mn 12 ((wrongB st looks : Int) + r) ∧ mn 12 ((wrongB st looks : Int) + r) ≤ 12 ∧ (wrongB st looks : Int) ≤ mn 12 ((wrongB st looks : Int) + r) := by
        unfold mn
        split <;> omega
      exact carOf_l3 (a1 := a1) (a2 := a2) ⟨hp, h1, h2, hsw, hl, by omega, hm, rfl, by simp⟩ 9 0 s' [] rfl rfl (fun x hx => by cases hx) (by simp)
  | succ d ih =>
    intro s looks hd hl
    have hlen := hp.len
    obtain ⟨q, s1, hb, hq0, hq1⟩ := below_ok s parts.length (by omega) (by omega)
    obtain ⟨b, s2, ho⟩ := often_ok s1 1 6 (by decide) (by decide)
    have hw : wrap64 (((d + 1 : Nat) : Int) - 1) = (d : Int) := by rw [wrap64_id (by omega) (by omega)]; omega
    refine Res.step (f := fun K => swarfkit_CarOf.l2 K st (d : Int) s2 parts swap (looks ++ [(⟨q, (rdOf false st q) != b⟩ : S61)]) 0) (fun K => ?_) ?_
    · simp only [swarfkit_CarOf.l2]
      rw [if_pos (by omega), hb]
      simp only [Option.bind_some]
      rw [if_pos hq0, if_pos (by omega), ho]
      simp only [Option.bind_some]
      rw [if_pos (by omega), hw]
    · refine ih s2 _ (by simp; omega) (fun l h => ?_)
      rcases List.mem_append.1 h with h | h
      · exact hl l h
      · rw [List.mem_singleton.1 h]
        exact ⟨hq0, hq1⟩
theorem bind_of {α β : Type} {o : Option α} {a : α} {f : α → Option β} {r : Option β} (h : o = some a) (h2 : f a = r) : o.bind f = r := by rw [h]; exact h2
theorem carOf_l1 {a1 a2 : Int} {parts : List S50} {st : List Bool} (hp : PartsOK parts st) (h9 : parts.length < 9) (x10 : Int) (bad : Bool) (tool min : Int) (ht : 1 ≤ tool ∧ tool ≤ 3) (hm : 0 ≤ min ∧ min ≤ 1000)
    (hT : ∀ (p : S50) (b : Bool) (s : Int), PartOK parts.length p → (b = true → ∀ x, x ∈ p.f0 → st.getD x.toNat false = true) → Res (fun K => swarfkit_CarOf.l0 K a2 (st ++ [b]) (wrap64 (x10 - 1)) s (parts ++ [p]) 0 0) (CarGoodT a1 a2)) (d : Nat) :
    ∀ (k : Nat) (s : Int) (may : Bool) (bef : List Int), k + d = parts.length → riseE ((parts.length : Int) - 1) 3 bef = 0 → (∀ x, x ∈ bef → 0 ≤ x ∧ x < k) → bef.length ≤ k → (may = true → ∀ x, x ∈ bef → st.getD x.toNat false = true) →
      Res (fun K => swarfkit_CarOf.l1 K a2 st x10 (parts.length : Int) may (k : Int) s parts 0 0 bef bad tool min) (CarGoodT a1 a2) := by
  induction d with
  | zero =>
    intro k s may bef hk hr hlt hlen hmay
    have hsl := hp.len
    have hP : PartOK parts.length ⟨bef, bad, tool, min⟩ := ⟨hr, fun x hx => by have := hlt x hx; omega, by show bef.length ≤ _; omega, ⟨ht.1, by have := ht.2; show tool ≤ 4; omega⟩, hm⟩
    have hl1 : parts.length < 2932031007402 := by omega
    have hl2 : st.length < 140737488355328 := by omega
    cases may with
    | true =>
      obtain ⟨b, s1, ho⟩ := often_ok s 3 5 (by decide) (by decide)
      refine Res.step (f := fun K => swarfkit_CarOf.l0 K a2 (st ++ [b]) (wrap64 (x10 - 1)) s1 (parts ++ [(⟨bef, bad, tool, min⟩ : S50)]) 0 0) (fun K => ?_) (hT _ b s1 hP (fun _ => hmay rfl))
      simp only [swarfkit_CarOf.l1]
      rw [if_neg (by omega)]
      simp only [hl1, hl2, if_true, Option.bind_some, ho]
    | false =>
      refine Res.step (f := fun K => swarfkit_CarOf.l0 K a2 (st ++ [false]) (wrap64 (x10 - 1)) s (parts ++ [(⟨bef, bad, tool, min⟩ : S50)]) 0 0) (fun K => ?_) (hT _ false s hP (fun h => by cases h))
      simp only [swarfkit_CarOf.l1]
      rw [if_neg (by omega)]
      simp only [hl1, hl2, if_true, Option.bind_some, Bool.false_eq_true, if_false]
  | succ d ih =>
    intro k s may bef hk hr hlt hlen hmay
    have hsl := hp.len
    obtain ⟨b, s1, ho⟩ := often_ok s 1 4 (by decide) (by decide)
    have hw : wrap64 ((k : Int) + 1) = ((k + 1 : Nat) : Int) := by rw [wrap64_id (by omega) (by omega)]; omega
    have hlt2 : (k : Int) < (parts.length : Int) := by omega
    have hlt3 : (k : Int) < (st.length : Int) := by omega
    have hk0 : 0 ≤ (k : Int) := by omega
    have hbl : bef.length < 17592186044416 := by omega
    have hlt4 : ∀ x, x ∈ bef → 0 ≤ x ∧ x < ((k + 1 : Nat) : Int) := fun x hx => by have := hlt x hx; omega
    have hlt5 : ∀ x, x ∈ bef ++ [(k : Int)] → 0 ≤ x ∧ x < ((k + 1 : Nat) : Int) := fun x hx => by
      rcases List.mem_append.1 hx with hx | hx
      · exact hlt4 x hx
      · rw [List.mem_singleton.1 hx]; omega
    have hr5 : riseE ((parts.length : Int) - 1) 3 (bef ++ [(k : Int)]) = 0 := riseE_snoc hr (fun y hy => (hlt y hy).2) hk0 (by omega)
    cases b with
    | false =>
      refine Res.step (f := fun K => swarfkit_CarOf.l1 K a2 st x10 (parts.length : Int) may ((k + 1 : Nat) : Int) s1 parts 0 0 bef bad tool min) (fun K => ?_) (ih (k + 1) s1 may bef (by omega) hr hlt4 (by omega) hmay)
      simp only [swarfkit_CarOf.l1, hlt2, if_true, ho, Option.bind_some, Bool.false_eq_true, if_false, hw]
    | true =>
      cases may with
      | false =>
        refine Res.step (f := fun K => swarfkit_CarOf.l1 K a2 st x10 (parts.length : Int) false ((k + 1 : Nat) : Int) s1 parts 0 0 (bef ++ [(k : Int)]) bad tool min) (fun K => ?_) (ih (k + 1) s1 false _ (by omega) hr5 hlt5 (by simp; omega) (fun h => by cases h))
        simp only [swarfkit_CarOf.l1, hlt2, if_true, ho, Option.bind_some, Bool.false_eq_true, if_false, hw, hbl]
      | true =>
        refine Res.step (f := fun K => swarfkit_CarOf.l1 K a2 st x10 (parts.length : Int) (rdOf false st (k : Int)) ((k + 1 : Nat) : Int) s1 parts 0 0 (bef ++ [(k : Int)]) bad tool min) (fun K => ?_) (ih (k + 1) s1 _ _ (by omega) hr5 hlt5 (by simp; omega) (fun h x hx => ?_))
        · simp only [swarfkit_CarOf.l1, hlt2, hlt3, hk0, if_true, ho, Option.bind_some, hw, hbl]
        · rcases List.mem_append.1 hx with hx | hx
          · exact hmay rfl x hx
          · rw [List.mem_singleton.1 hx]
            exact h
theorem carOf_l0 {a1 a2 : Int} (h9 : a1 ≤ 9) (h12 : a2 ≤ 12) (h0 : 0 ≤ a2) (d : Nat) :
    ∀ (parts : List S50) (st : List Bool) (s : Int), PartsOK parts st → (parts.length : Int) + d ≤ a1 → 1 ≤ parts.length + d → Res (fun K => swarfkit_CarOf.l0 K a2 st (d : Int) s parts 0 0) (CarGoodT a1 a2) := by
  induction d with
  | zero =>
    intro parts st s hp hd h1
    obtain ⟨r1, s1, hb1, hr1, hr1'⟩ := below_ok s 9 (by decide) (by decide)
    obtain ⟨r2, s2, hb2, hr2⟩ := either_ok s1 [0, r1] (by simp) (by simp)
    obtain ⟨r3, s3, hb3, hr3, hr3'⟩ := below_ok s2 (a2 + 1) (by omega) (by omega)
    have hsw : 0 ≤ r2 ∧ r2 ≤ 8 := by simp at hr2; omega
    have hw : wrap64 (a2 + 1) = a2 + 1 := wrap64_id (by omega) (by omega)
    obtain ⟨n, rfl⟩ : ∃ n : Nat, r3 = n := ⟨r3.toNat, by omega⟩
    refine Res.step (f := fun K => swarfkit_CarOf.l2 K st (n : Int) s3 parts r2 ([] : List S61) 0) (fun K => ?_) (carOf_l2 hp (by omega) (by omega) h9 hsw h12 n s3 [] (by simp; omega) (fun l h => by cases h))
    have hgt : ¬ (((0 : Nat) : Int) > 0) := by omega
    rw [swarfkit_CarOf.l0, if_neg hgt]
    refine bind_of hb1 ?_
    refine bind_of hb2 ?_
    refine bind_of (a := (((n : Nat) : Int), s3)) ?_ rfl
    rw [hw]
    exact hb3
  | succ d ih =>
    intro parts st s hp hd h1
    obtain ⟨b, s1, ho⟩ := often_ok s 1 2 (by decide) (by decide)
    obtain ⟨tool, s2, hbt, ht0, ht1⟩ := between_ok s1 1 3 (by decide) (by decide) (by decide)
    obtain ⟨m1, s3, hm1, hm10, hm11⟩ := below_ok s2 30 (by decide) (by decide)
    obtain ⟨m2, s4, hm2, hm20, hm21⟩ := below_ok s3 30 (by decide) (by decide)
    obtain ⟨m, s5, he, hm⟩ := either_ok s4 [0, m1, m2] (by simp) (by simp)
    have hmm : 0 ≤ m ∧ m ≤ 1000 := by simp at hm; omega
    have hw : wrap64 (((d + 1 : Nat) : Int) - 1) = (d : Int) := by rw [wrap64_id (by omega) (by omega)]; omega
    refine Res.step (f := fun K => swarfkit_CarOf.l1 K a2 st ((d + 1 : Nat) : Int) (parts.length : Int) true ((0 : Nat) : Int) s5 parts 0 0 ([] : List Int) b tool m) (fun K => ?_)
      (carOf_l1 hp (by omega) _ b tool m ⟨ht0, ht1⟩ hmm (fun p b s hP hst => ?_) parts.length 0 s5 true [] (by omega) (by simp [riseE, rise]) (fun x h => by cases h) (Nat.le_refl _) (fun _ x h => by cases h))
    · have hz : ((0 : Nat) : Int) = 0 := rfl
      have hgt : ((d + 1 : Nat) : Int) > 0 := by omega
      rw [swarfkit_CarOf.l0, if_pos hgt, hz]
      refine bind_of ho ?_
      refine bind_of hbt ?_
      refine bind_of hm1 ?_
      refine bind_of hm2 ?_
      exact bind_of he rfl
    · rw [hw]
      exact ih _ _ s (hp.snoc hP hst) (by simp; omega) (by rw [List.length_append, List.length_singleton]; omega)
theorem carOf_ev (s a1 a2 : Int) (h1 : 1 ≤ a1) (h9 : a1 ≤ 9) (h0 : 0 ≤ a2) (h12 : a2 ≤ 12) : Res (fun K => swarfkit_CarOf.f K s a1 a2) (CarGoodT a1 a2) := by
  obtain ⟨n, s1, hb, hn0, hn1⟩ := between_ok s 1 a1 h1 (by decide) (by omega)
  obtain ⟨m, rfl⟩ : ∃ m : Nat, n = m := ⟨n.toNat, by omega⟩
  have h := carOf_l0 (a1 := a1) h9 h12 h0 m [] [] s1 ⟨rfl, fun i h => by simp at h, fun i h => by simp at h⟩ (by simp; omega) (by simp; omega)
  obtain ⟨r, h2, h3⟩ := h
  refine ⟨r, ?_, h3⟩
  obtain ⟨K, h2⟩ := h2
  refine ⟨K, fun k hk => ?_⟩
  unfold swarfkit_CarOf.f
  rw [hb]
  exact h2 k hk
theorem rawAll_eq (s o : Nat) (hs : s < 65536) (ho : o < 65536) : rawAll (o : Int) (s : Int) = subM o s := u16_andNot o s ho hs
theorem verdict_cases (T : List Nat) (p : Int → Bool) (q : Nat → Bool) (hq : ∀ s, s ∈ T → p (s : Int) = q s) :
    (verdictS (setsI T) p = 1 ∧ ∀ s, s ∈ T → q s = true) ∨ (verdictS (setsI T) p = 2 ∧ T ≠ [] ∧ ∀ s, s ∈ T → q s = false) ∨ (verdictS (setsI T) p = 3 ∧ (∃ s, s ∈ T ∧ q s = true) ∧ ∃ s, s ∈ T ∧ q s = false) := by
  unfold verdictS
  by_cases h1 : (setsI T).any (fun x => !p x) = true
  · rw [if_pos h1]
    obtain ⟨x, hx, h1⟩ := List.any_eq_true.1 h1
    obtain ⟨s, hs, rfl⟩ := List.mem_map.1 hx
    have hs2 : q s = false := by rw [← hq s hs]; simpa using h1
    by_cases h2 : (setsI T).any p = true
    · rw [if_pos h2]
      obtain ⟨y, hy, h2⟩ := List.any_eq_true.1 h2
      obtain ⟨t, ht, rfl⟩ := List.mem_map.1 hy
      exact .inr (.inr ⟨rfl, ⟨t, ht, by rw [← hq t ht]; exact h2⟩, s, hs, hs2⟩)
    · rw [if_neg h2]
      refine .inr (.inl ⟨rfl, fun e => (by rw [e] at hs; cases hs), fun t ht => ?_⟩)
      cases hb : q t with
      | false => rfl
      | true => exact absurd (List.any_eq_true.2 ⟨(t : Int), List.mem_map.2 ⟨t, ht, rfl⟩, by rw [hq t ht]; exact hb⟩) h2
  · rw [if_neg h1]
    refine .inl ⟨rfl, fun t ht => ?_⟩
    cases hb : q t with
    | true => rfl
    | false => exact absurd (List.any_eq_true.2 ⟨(t : Int), List.mem_map.2 ⟨t, ht, rfl⟩, by rw [hq t ht, hb]; rfl⟩) h1
theorem okGo_iff (s : Nat) (l : List S50) : ∀ i, okGo s i l = true ↔ ∀ k (h : k < l.length), s.testBit (i + k) = true → subM (maskOf (l[k]).f0) s = true := by
  induction l with
  | nil => intro i; simp [okGo]
  | cons p l ih =>
    intro i
    rw [okGo_cons]
    by_cases hc : (s.testBit i && !subM (maskOf p.f0) s) = true
    · rw [if_pos hc]
      rw [Bool.and_eq_true, Bool.not_eq_true'] at hc
      refine ⟨fun h => (by cases h), fun h => ?_⟩
      have := h 0 (by simp) (by simpa using hc.1)
      rw [List.getElem_cons_zero, hc.2] at this
      cases this
    · rw [if_neg hc, ih]
      constructor
      · intro h k hk hb
        cases k with
        | zero =>
          rw [List.getElem_cons_zero]
          cases hs : subM (maskOf p.f0) s with
          | true => rfl
          | false => exact absurd (by rw [hs]; simpa using hb) hc
        | succ k =>
          rw [List.getElem_cons_succ]
          exact h k (by simpa using hk) (by rwa [show i + 1 + k = i + (k + 1) by omega])
      · intro h k hk hb
        have := h (k + 1) (by simpa using hk) (by rwa [show i + (k + 1) = i + 1 + k by omega])
        rwa [List.getElem_cons_succ] at this
theorem okM_iff {parts : List S50} (h : ∀ i, i < parts.length → PartOK i (parts.getD i z50)) (s : Nat) : okM parts s = true ↔ ∀ i, i < parts.length → s.testBit i = true → ∀ x, x ∈ (parts.getD i z50).f0 → s.testBit x.toNat = true := by
  unfold okM
  rw [okGo_iff]
  have hg : ∀ i (hi : i < parts.length), parts.getD i z50 = parts[i] := fun i hi => by rw [List.getD, List.getElem?_eq_getElem hi]; rfl
  constructor
  · intro h1 i hi hb x hx
    have h2 := h1 i hi (by rwa [Nat.zero_add])
    have hp := h i hi
    rw [hg i hi] at hx hp
    refine (subM_iff _ _).1 h2 _ ?_
    exact (maskOf_bit _ (fun y hy => (hp.lt y hy).1) _).2 (by have := (hp.lt x hx).1; rwa [Int.toNat_of_nonneg this])
  · intro h1 i hi hb
    rw [Nat.zero_add] at hb
    have hp := h i hi
    have h2 := h1 i hi hb
    rw [hg i hi] at h2 hp
    refine (subM_iff _ _).2 (fun k hk => ?_)
    have := h2 (k : Int) ((maskOf_bit _ (fun y hy => (hp.lt y hy).1) _).1 hk)
    rwa [Int.toNat_natCast] at this
theorem mem_truths {parts : List S50} {looks : List S61} {wrong : Int} (s : Nat) : s ∈ truthsL parts looks wrong ↔ s < 2 ^ parts.length ∧ okM parts s = true ∧ (wrongM s looks : Int) ≤ wrong := by
  unfold truthsL truthsOf statesL statesTo
  simp only [List.mem_map, List.mem_filter, List.mem_range, decide_eq_true_eq]
  constructor
  · rintro ⟨x, ⟨⟨t, ⟨h1, h2⟩, rfl⟩, h3⟩, rfl⟩
    exact ⟨h1, h2, h3⟩
  · rintro ⟨h1, h2, h3⟩
    exact ⟨(s, wrongM s looks), ⟨⟨s, ⟨h1, h2⟩, rfl⟩, h3⟩, rfl⟩
def stM : List Bool → Nat
  | [] => 0
  | b :: l => (if b then 1 else 0) + 2 * stM l
theorem stM_lt (l : List Bool) : stM l < 2 ^ l.length := by
  induction l with
  | nil => simp [stM]
  | cons b l ih => simp only [stM, List.length_cons, Nat.pow_succ]; split <;> omega
theorem stM_bit (l : List Bool) : ∀ i, (stM l).testBit i = l.getD i false := by
  induction l with
  | nil => intro i; simp [stM]
  | cons b l ih =>
    intro i
    cases i with
    | zero =>
      rw [Nat.testBit_zero]
      cases b <;> simp [stM] <;> omega
    | succ i =>
      rw [Nat.testBit_succ]
      have : stM (b :: l) / 2 = stM l := by simp only [stM]; split <;> omega
      rw [this, ih]
      simp
theorem wrongM_st (st : List Bool) (looks : List S61) : wrongM (stM st) looks = wrongB st looks := by
  induction looks with
  | nil => rfl
  | cons l t ih => simp only [wrongM, wrongB, stM_bit, ih]
theorem CarGood.truth {a1 a2 : Int} {parts : List S50} {swap : Int} {looks : List S61} {wrong : Int} {needs : List Int} {st : List Bool} (h : CarGood a1 a2 parts swap looks wrong needs st) : stM st ∈ truthsL parts looks wrong := by
  refine (mem_truths _).2 ⟨?_, (okM_iff h.p.ok _).2 (fun i hi hb x hx => ?_), by rw [wrongM_st]; exact h.wr.2.2⟩
  · rw [← h.p.len]; exact stM_lt st
  · rw [stM_bit] at hb ⊢
    exact h.p.st i hi hb x hx
theorem partsE_of (l : List S50) : ∀ i : Int, (∀ k (h : k < l.length), riseE (i + k - 1) 3 (l[k]).f0 = 0 ∧ inB (l[k]).f2 1 4 = true ∧ inB (l[k]).f3 0 1000 = true) → partsE i l = 0 := by
  induction l with
  | nil => intro i _; rfl
  | cons p l ih =>
    intro i h
    obtain ⟨h1, h2, h3⟩ := h 0 (by simp)
    rw [List.getElem_cons_zero] at h1 h2 h3
    rw [partsE_cons, if_pos (by simpa using h1), if_pos (by rw [h2, h3]; rfl)]
    refine ih (i + 1) (fun k hk => ?_)
    have := h (k + 1) (by simpa using hk)
    rw [List.getElem_cons_succ] at this
    rw [show i + 1 + (k : Int) - 1 = i + ((k + 1 : Nat) : Int) - 1 by omega]
    exact this
theorem CarGood.check {a1 a2 : Int} {parts : List S50} {swap : Int} {looks : List S61} {wrong : Int} {needs : List Int} {st : List Bool} (h : CarGood a1 a2 parts swap looks wrong needs st) (h9 : a1 ≤ 9) (h12 : a2 ≤ 12) : checkE parts swap looks wrong needs = 0 := by
  have hp := h.one
  have hf := h.few
  have hl := h.ll
  unfold checkE
  rw [if_neg (by omega), if_neg (by omega), if_pos ?_]
  · unfold checkT
    rw [if_pos (inB_of (by have := h.sw; omega)), if_neg (by omega), if_neg ?_, if_pos (inB_of ⟨h.wr.1, h.wr.2.1⟩), if_neg (by have := h.nl; omega), h.nd]
    intro e
    obtain ⟨l, hl, hb⟩ := List.any_eq_true.1 e
    have := h.lk l hl
    unfold lookBad at hb
    simp only [Bool.not_eq_true', Bool.and_eq_false_iff, decide_eq_false_iff_not] at hb
    omega
  · refine partsE_of _ _ (fun k hk => ?_)
    have hk2 := h.p.ok k hk
    have hg : parts.getD k z50 = parts[k] := by rw [List.getD, List.getElem?_eq_getElem hk]; rfl
    rw [hg] at hk2
    exact ⟨by rw [Int.zero_add]; exact hk2.ris, inB_of (by have := hk2.tool; omega), inB_of hk2.min⟩
theorem CarGood.fits {a1 a2 : Int} {parts : List S50} {swap : Int} {looks : List S61} {wrong : Int} {needs : List Int} {st : List Bool} (h : CarGood a1 a2 parts swap looks wrong needs st) (h9 : a1 ≤ 9) (h12 : a2 ≤ 12) : carFits parts looks needs := by
  have hf := h.few
  have hl := h.ll
  have hn := h.nl
  refine ⟨by omega, by omega, by omega, fun p hp => ?_⟩
  obtain ⟨i, hi, rfl⟩ := List.getElem_of_mem hp
  have hk2 := h.p.ok i hi
  rw [List.getD, List.getElem?_eq_getElem hi] at hk2
  have : (parts[i]).f0.length ≤ i := hk2.len
  omega
def carP : List S50 := [⟨[], true, 1, 10⟩, ⟨[0], true, 2, 20⟩, ⟨[1], true, 1, 15⟩, ⟨[], false, 3, 30⟩, ⟨[0, 3], true, 3, 5⟩]
def carL : List S61 := [⟨0, true⟩, ⟨1, true⟩, ⟨2, false⟩, ⟨4, false⟩]
set_option maxRecDepth 100000 in
theorem car_fits : carFits carP carL [2, 5] := by decide
theorem car_out : outE carP 2 carL 1 [2, 5] = ([1, 3, 3, 3, 3], 0) := by decide +kernel
theorem car_clean : cleanE carP 2 carL 1 [2, 5] = (2, 0) := by decide +kernel
theorem car_work : workE carP 2 carL 1 [2, 5] = ([1, 2, 3, 4], 74, 0) := by decide +kernel
theorem awake_eq (k : Nat) : swarflaw04_awake.f k = ((swarfkit_EqualInts.f k [1, 3, 3, 3, 3] [1, 3, 3, 3, 3]).bind fun t189 => (if t189 = true then ((swarfkit_EqualInts.f k [1, 2, 3, 4] [1, 2, 3, 4]).bind fun t193 => (some t193)) else (some false))) := by
  have hcar : swarflaw04_car.f = some (carP, 2, carL, 1, [2, 5]) := rfl
  have h1 : strip_Out.f carP 2 carL 1 [2, 5] = some ([1, 3, 3, 3, 3], 0) := by unfold strip_Out.f; rw [if_pos car_fits, car_out]
  have h2 : strip_Clean.f carP 2 carL 1 [2, 5] = some (2, 0) := by unfold strip_Clean.f; rw [if_pos car_fits, car_clean]
  have h3 : strip_Work.f carP 2 carL 1 [2, 5] = some ([1, 2, 3, 4], 74, 0) := by unfold strip_Work.f; rw [if_pos car_fits, car_work]
  unfold swarflaw04_awake.f
  refine bind_of hcar ?_
  refine bind_of h1 ?_
  refine bind_of hcar ?_
  refine bind_of h2 ?_
  refine bind_of hcar ?_
  exact bind_of h3 rfl
theorem equal_l0 (a b : List Int) (hl : a.length = b.length) (hs : a.length ≤ 1000000000) (d : Nat) : ∀ i : Nat, i + d = a.length → Ev (fun K => swarfkit_EqualInts.l0 K a b true (i : Int)) (decide (a.drop i = b.drop i)) := by
  induction d with
  | zero =>
    intro i hi
    have hc : ¬ (i : Int) < (a.length : Int) := by omega
    refine Ev.step (f := fun _ => some true) (fun K => ?_) ?_
    · simp only [swarfkit_EqualInts.l0, hc, if_true, if_false]
    · rw [List.drop_of_length_le (by omega), List.drop_of_length_le (by omega)]
      exact Ev.now _
  | succ d ih =>
    intro i hi
    have hc : (i : Int) < (a.length : Int) := by omega
    have hc2 : (i : Int) < (b.length : Int) := by omega
    have hc0 : 0 ≤ (i : Int) := by omega
    have hw : wrap64 ((i : Int) + 1) = ((i + 1 : Nat) : Int) := by rw [wrap64_id (by omega) (by omega)]; omega
    refine Ev.step (f := fun K => swarfkit_EqualInts.l0 K a b (a.getD i 0 == b.getD i 0) ((i + 1 : Nat) : Int)) (fun K => ?_) ?_
    · simp only [swarfkit_EqualInts.l0, hc, hc2, hc0, if_true, hw, rd_getD]
    · rw [drop_cons_rd a i (by omega) 0, drop_cons_rd b i (by omega) 0]
      by_cases he : a.getD i 0 = b.getD i 0
      · rw [he, beq_self_eq_true]
        have := ih (i + 1) (by omega)
        simpa using this
      · rw [beq_eq_false_iff_ne.2 he]
        refine Ev.step (f := fun _ => some false) (fun K => ?_) ?_
        · simp only [swarfkit_EqualInts.l0, Bool.false_eq_true, if_false]
        · have : decide (a.getD i 0 :: a.drop (i + 1) = b.getD i 0 :: b.drop (i + 1)) = false := decide_eq_false (fun e => he (by injection e))
          rw [this]
          exact Ev.now _
theorem equal_ev (a b : List Int) (hs : a.length ≤ 1000000000) (hs2 : b.length ≤ 1000000000) : Ev (fun K => swarfkit_EqualInts.f K a b) (decide (a = b)) := by
  unfold swarfkit_EqualInts.f
  by_cases hl : a.length = b.length
  · have : ((a.length : Int) == (b.length : Int)) = true := beq_iff_eq.2 (by omega)
    rw [this]
    have := equal_l0 a b hl hs a.length 0 (by omega)
    simpa using this
  · have h1 : ((a.length : Int) == (b.length : Int)) = false := beq_eq_false_iff_ne.2 (by omega)
    rw [h1, decide_eq_false (fun e => hl (by rw [e]))]
    refine Ev.step (f := fun _ => some false) (fun K => ?_) (Ev.now _)
    simp only [swarfkit_EqualInts.l0, Bool.false_eq_true, if_false]
theorem awake_ev : Ev (fun K => swarflaw04_awake.f K) true := by
  refine Ev.congr awake_eq ?_
  refine Ev.bind (equal_ev _ _ (by decide) (by decide)) ?_
  simp only [decide_true, if_true]
  refine Ev.bind (equal_ev _ _ (by decide) (by decide)) ?_
  simp only [decide_true]
  exact Ev.now _
theorem awake_true {k : Nat} {r : Bool} (h : swarflaw04_awake.f k = some r) : r = true := by
  obtain ⟨K, hK⟩ := awake_ev
  have h1 := at_rounds (g := fun k => swarflaw04_awake.f k) swarflaw04_awake.mono (Nat.le_max_left k K) h
  have h2 := hK (max k K) (Nat.le_max_right k K)
  exact Option.some.inj (h1.symm.trans h2)
end Go.Proofs.Ytkkmfcdikkiodaa.PC4
namespace Go.Proofs.Ytkkmfcdikkiodaa.PC4
open Go.RowKit Go.Proofs.YtkkmfcdikkiodaaW.PrintWords Go.Proofs.YtkkmfcdikkiodaaW.PrintLast Go.Proofs.YtkkmfcdikkiodaaW.PrintMore
attribute [local go_sem] max2_int min2_int max_two min_two max_three min_three max_four min_four
set_option linter.unusedVariables false
set_option linter.unusedSimpArgs false
set_option maxHeartbeats 8000000 in
set_option maxRecDepth 100000 in
theorem swarflaw04_awake.calls (k : Nat)  (r : Bool) (w : World) (h : swarflaw04_awake.f k  = some r) :
  Calls Try.prog 16 #[] w fun e w' => e = .returned (.bool r) ∧ Below w.heap.size w w' := by
 have hrt := Aside0.mk (awake_true h)
 have HB := Aside0.mk (Below.refl w.heap.size w)
 have H : ((swarflaw04_car.f).bind fun bt142 => ((strip_Out.f bt142.1 bt142.2.1 bt142.2.2.1 bt142.2.2.2.1 bt142.2.2.2.2).bind fun bt153 => ((swarflaw04_car.f).bind fun bt157 => ((strip_Clean.f bt157.1 bt157.2.1 bt157.2.2.1 bt157.2.2.2.1 bt157.2.2.2.2).bind fun bt168 => ((swarflaw04_car.f).bind fun bt170 => ((strip_Work.f bt170.1 bt170.2.1 bt170.2.2.1 bt170.2.2.2.1 bt170.2.2.2.2).bind fun bt181 => (if bt153.2 = 0 then (if bt168.2 = 0 then (if bt181.2.2 = 0 then (if bt168.1 = 2 then (if bt181.2.1 = 74 then ((swarfkit_EqualInts.f k bt153.1 (([1, 3, 3, 3, 3] : List Int))).bind fun t189 => (if t189 = true then ((swarfkit_EqualInts.f k bt181.1 (([1, 2, 3, 4] : List Int))).bind fun t193 => (some t193)) else (some false))) else (some false)) else (some false)) else (some false)) else (some false)) else (some false)))))))) = some r := h
 clear h
 replace H := Option.bind_eq_some_iff.mp H
 obtain ⟨⟨t142, t145, t146, t149, t150⟩, A10, H⟩ := H
 try dsimp only at H
 have A1 := Aside0.mk A10
 clear A10
 replace H := Option.bind_eq_some_iff.mp H
 obtain ⟨⟨t153, t156⟩, A20, H⟩ := H
 try dsimp only at H
 have A2 := Aside0.mk A20
 clear A20
 replace H := Option.bind_eq_some_iff.mp H
 obtain ⟨⟨t157, t160, t161, t164, t165⟩, A30, H⟩ := H
 try dsimp only at H
 have A3 := Aside0.mk A30
 clear A30
 replace H := Option.bind_eq_some_iff.mp H
 obtain ⟨⟨t168, t169⟩, A40, H⟩ := H
 try dsimp only at H
 have A4 := Aside0.mk A40
 clear A40
 replace H := Option.bind_eq_some_iff.mp H
 obtain ⟨⟨t170, t173, t174, t177, t178⟩, A50, H⟩ := H
 try dsimp only at H
 have A5 := Aside0.mk A50
 clear A50
 replace H := Option.bind_eq_some_iff.mp H
 obtain ⟨⟨t181, t184, t185⟩, A60, H⟩ := H
 try dsimp only at H
 have A6 := Aside0.mk A60
 clear A60
 by_cases c7 : t156 = 0
 ·
  rw [if_pos c7] at H
  have c7b0 : (t156 == 0) = true := beq_iff_eq.mpr c7
  have c7b1 : (t156 != 0) = false := bne_eq_false_iff_eq.mpr c7
  clear c7
  by_cases c8 : t169 = 0
  ·
   rw [if_pos c8] at H
   have c8b0 : (t169 == 0) = true := beq_iff_eq.mpr c8
   have c8b1 : (t169 != 0) = false := bne_eq_false_iff_eq.mpr c8
   clear c8
   by_cases c9 : t185 = 0
   ·
    rw [if_pos c9] at H
    have c9b0 : (t185 == 0) = true := beq_iff_eq.mpr c9
    have c9b1 : (t185 != 0) = false := bne_eq_false_iff_eq.mpr c9
    clear c9
    by_cases c10 : t168 = 2
    ·
     rw [if_pos c10] at H
     have c10b0 : (t168 == 2) = true := beq_iff_eq.mpr c10
     have c10b1 : (t168 != 2) = false := bne_eq_false_iff_eq.mpr c10
     clear c10
     by_cases c11 : t184 = 74
     ·
      rw [if_pos c11] at H
      have c11b0 : (t184 == 74) = true := beq_iff_eq.mpr c11
      have c11b1 : (t184 != 74) = false := bne_eq_false_iff_eq.mpr c11
      clear c11
      obtain ⟨y186, hy186⟩ : ∃ y_ : List Int, y_ = (([1, 3, 3, 3, 3] : List Int)) := ⟨_, rfl⟩
      replace H : ((swarfkit_EqualInts.f k t153 y186).bind fun t189 => (if t189 = true then ((swarfkit_EqualInts.f k t181 (([1, 2, 3, 4] : List Int))).bind fun t193 => (some t193)) else (some false))) = some r := by first | (rw [hy186]; with_reducible exact H) | (have H2_ := (Option.bind_some _ _).symm.trans H; rw [hy186]; with_reducible exact H2_) | (have H2_ := (Option.bind_some _ _).symm.trans H; with_reducible exact H2_) | with_reducible exact H | (rw [hy186]; exact H) | exact H
      have Ny186 := Aside0.mk hy186
      clear hy186
      replace H := Option.bind_eq_some_iff.mp H
      obtain ⟨t189, A120, H⟩ := H
      try dsimp only at H
      have A12 := Aside0.mk A120
      clear A120
      by_cases c13 : t189 = true
      ·
       subst c13
       have H1 : ((swarfkit_EqualInts.f k t181 (([1, 2, 3, 4] : List Int))).bind fun t193 => (some t193)) = some r := by rw [if_pos rfl] at H; exact H
       clear H
       have H := H1
       clear H1
       obtain ⟨y190, hy190⟩ : ∃ y_ : List Int, y_ = (([1, 2, 3, 4] : List Int)) := ⟨_, rfl⟩
       replace H : ((swarfkit_EqualInts.f k t181 y190).bind fun t193 => (some t193)) = some r := by first | (rw [hy190]; with_reducible exact H) | (have H2_ := (Option.bind_some _ _).symm.trans H; rw [hy190]; with_reducible exact H2_) | (have H2_ := (Option.bind_some _ _).symm.trans H; with_reducible exact H2_) | with_reducible exact H | (rw [hy190]; exact H) | exact H
       have Ny190 := Aside0.mk hy190
       clear hy190
       replace H := Option.bind_eq_some_iff.mp H
       obtain ⟨t193, A140, H⟩ := H
       replace H : (some t193) = some r := H
       have A14 := Aside0.mk A140
       clear A140
       obtain rfl := Option.some.inj H
       go_enter Try.func16, Try.ntmps16
       go_wp2_with (first | ((with_reducible refine gate_callee (f := 55) rfl ?_); refine goesL_ (some 10) rfl rfl Try.func55 (by kernel_rfl) rfl #[] rfl (by (try simp only [List.map_toArray, List.map_cons, List.map_nil]); first | done | rfl | (simp only [List.length_drop, List.length_take]; rfl)) ?_; (with_reducible refine (swarflaw04_car.calls  t142 t145 t146 t149 t150 _ A1.out).mono ?_); rintro e w15 ⟨v143, v147, v151, rfl, ho0, ho1, ho2, hb⟩; refine ⟨_, rfl, ?_⟩; have HO144 := Aside0.mk (Kd.N_lower (Kd.N_mono (ok' := fun k_ => some k_ ≠ (v147 : Value).ownBlock ∧ some k_ ≠ (v151 : Value).ownBlock) ho0 (fun k_ hk_ => ⟨hk_.2.1, hk_.2.2⟩)) (below_size (below_x HB.out))); have HO148 := Aside0.mk (Kd.R_lower (Kd.R_mono (ok' := fun k_ => True) ho1 (fun _ hk_ => trivial)) (below_size (below_x HB.out))); have HO152 := Aside0.mk (Kd.R_lower (Kd.R_mono (ok' := fun k_ => True) ho2 (fun _ hk_ => trivial)) (below_size (below_x HB.out))); replace HB := Aside0.mk (below_step (below_x HB.out) hb); (try clear hb); (try clear hk); (try clear hi); (try clear ho0); (try clear ho1); (try clear ho2); obtain ⟨Ao16, co16, eo16⟩ := Kd.N_slice HO144.out; subst eo16; obtain ⟨Ao17, co17, eo17⟩ := Kd.R_slice HO148.out; subst eo17; obtain ⟨Ao18, co18, eo18⟩ := Kd.R_slice HO152.out; subst eo18) | ((with_reducible refine gate_callee (f := 26) rfl ?_); refine goesL_ (some 11) rfl rfl Try.func26 (by kernel_rfl) rfl #[.agg #[.slice Ao16 t142.length co16, .int .i64 t145, .slice Ao17 t146.length co17, .int .i64 t149, .slice Ao18 t150.length co18]] rfl (by (try simp only [List.map_toArray, List.map_cons, List.map_nil]); first | done | rfl | (simp only [List.length_drop, List.length_take]; rfl)) ?_; (with_reducible refine (strip_Out.calls _ _ t142 t145 _ _ t146 t149 _ _ t150 t153 t156 _ ?side1 ?side2 ?side3 ?side4 ?side5 ?side6 A2.out).mono ?_); (case side1 => exact Kd.C_y (Kd.N_reads' HO144.out).2.2); (case side2 => exact (Kd.N_reads' HO144.out).2.1); (case side3 => exact Kd.C_y (Kd.R_reads' HO148.out).2.2); (case side4 => exact (Kd.R_reads' HO148.out).2.1); (case side5 => exact Kd.C_y (Kd.R_reads' HO152.out).2.2); (case side6 => exact (Kd.R_reads' HO152.out).2.1); rintro e w19 ⟨v154, rfl, ho0, hb⟩; refine ⟨_, rfl, ?_⟩; replace HO144 := Aside0.mk (Kd.N_elder' (Kd.N_x HO144.out) (Kd.R_base ho0) hb); replace HO148 := Aside0.mk (Kd.R_below (Kd.R_x HO148.out) hb); have HO155 := Aside0.mk (Kd.R_lower (Kd.R_new' ho0 (Kd.R_lt (Kd.R_x HO152.out))) (below_size (below_x HB.out))); replace HO152 := Aside0.mk (Kd.R_elder' (Kd.R_x HO152.out) (Kd.R_base ho0) hb); replace HB := Aside0.mk (below_step (below_x HB.out) hb); (try clear hb); (try clear hk); (try clear hi); (try clear ho0)) | ((with_reducible refine gate_callee (f := 55) rfl ?_); refine goesL_ (some 15) rfl rfl Try.func55 (by kernel_rfl) rfl #[] rfl (by (try simp only [List.map_toArray, List.map_cons, List.map_nil]); first | done | rfl | (simp only [List.length_drop, List.length_take]; rfl)) ?_; (with_reducible refine (swarflaw04_car.calls  t157 t160 t161 t164 t165 _ A3.out).mono ?_); rintro e w20 ⟨v158, v162, v166, rfl, ho0, ho1, ho2, hb⟩; refine ⟨_, rfl, ?_⟩; have HO159 := Aside0.mk (Kd.N_lower (Kd.N_mono (ok' := fun k_ => some k_ ≠ (v162 : Value).ownBlock ∧ some k_ ≠ (v166 : Value).ownBlock ∧ some k_ ≠ (.slice Ao16 t142.length co16 : Value).ownBlock ∧ some k_ ≠ (.slice Ao17 t146.length co17 : Value).ownBlock ∧ some k_ ≠ (.slice Ao18 t150.length co18 : Value).ownBlock ∧ some k_ ≠ (v154 : Value).ownBlock) ho0 (fun k_ hk_ => ⟨hk_.2.1, hk_.2.2, (Kd.fresh' (Kd.N_lt (Kd.N_x HO144.out)) k_ hk_.1), (Kd.fresh' (Kd.R_lt (Kd.R_x HO148.out)) k_ hk_.1), (Kd.fresh' (Kd.R_lt (Kd.R_x HO152.out)) k_ hk_.1), (Kd.fresh' (Kd.R_lt (Kd.R_x HO155.out)) k_ hk_.1)⟩)) (below_size (below_x HB.out))); replace HO144 := Aside0.mk (Kd.N_mono (Kd.N_told (Kd.N_told (Kd.N_told (Kd.N_old (Kd.N_x HO144.out) hb) (Kd.N_base ho0)) (Kd.R_base ho1)) (Kd.R_base ho2)) (fun _ h_ => h_.1)); have HO163 := Aside0.mk (Kd.R_lower (Kd.R_new' (Kd.R_mono (ok' := fun k_ => True) ho1 (fun _ hk_ => trivial)) (Kd.R_lt (Kd.R_x HO148.out))) (below_size (below_x HB.out))); replace HO148 := Aside0.mk (Kd.R_elder' (Kd.R_x HO148.out) (Kd.R_base ho1) hb); have HO167 := Aside0.mk (Kd.R_lower (Kd.R_new' (Kd.R_new' (Kd.R_mono (ok' := fun k_ => True) ho2 (fun _ hk_ => trivial)) (Kd.R_lt (Kd.R_x HO152.out))) (Kd.R_lt (Kd.R_x HO155.out))) (below_size (below_x HB.out))); replace HO152 := Aside0.mk (Kd.R_elder' (Kd.R_x HO152.out) (Kd.R_base ho2) hb); replace HO155 := Aside0.mk (Kd.R_elder' (Kd.R_x HO155.out) (Kd.R_base ho2) hb); replace HB := Aside0.mk (below_step (below_x HB.out) hb); (try clear hb); (try clear hk); (try clear hi); (try clear ho0); (try clear ho1); (try clear ho2); obtain ⟨Ao21, co21, eo21⟩ := Kd.N_slice HO159.out; subst eo21; obtain ⟨Ao22, co22, eo22⟩ := Kd.R_slice HO163.out; subst eo22; obtain ⟨Ao23, co23, eo23⟩ := Kd.R_slice HO167.out; subst eo23) | ((with_reducible refine gate_callee (f := 27) rfl ?_); refine goesL_ (some 16) rfl rfl Try.func27 (by kernel_rfl) rfl #[.agg #[.slice Ao21 t157.length co21, .int .i64 t160, .slice Ao22 t161.length co22, .int .i64 t164, .slice Ao23 t165.length co23]] rfl (by (try simp only [List.map_toArray, List.map_cons, List.map_nil]); first | done | rfl | (simp only [List.length_drop, List.length_take]; rfl)) ?_; (with_reducible refine (strip_Clean.calls _ _ t157 t160 _ _ t161 t164 _ _ t165 t168 t169 _ ?side1 ?side2 ?side3 ?side4 ?side5 ?side6 A4.out).mono ?_); (case side1 => exact Kd.C_y (Kd.N_reads' HO159.out).2.2); (case side2 => exact (Kd.N_reads' HO159.out).2.1); (case side3 => exact Kd.C_y (Kd.R_reads' HO163.out).2.2); (case side4 => exact (Kd.R_reads' HO163.out).2.1); (case side5 => exact Kd.C_y (Kd.R_reads' HO167.out).2.2); (case side6 => exact (Kd.R_reads' HO167.out).2.1); rintro e w24 ⟨rfl, hb⟩; refine ⟨_, rfl, ?_⟩; replace HO144 := Aside0.mk (Kd.N_below (Kd.N_x HO144.out) hb); replace HO148 := Aside0.mk (Kd.R_below (Kd.R_x HO148.out) hb); replace HO152 := Aside0.mk (Kd.R_below (Kd.R_x HO152.out) hb); replace HO155 := Aside0.mk (Kd.R_below (Kd.R_x HO155.out) hb); replace HO159 := Aside0.mk (Kd.N_below (Kd.N_x HO159.out) hb); replace HO163 := Aside0.mk (Kd.R_below (Kd.R_x HO163.out) hb); replace HO167 := Aside0.mk (Kd.R_below (Kd.R_x HO167.out) hb); replace HB := Aside0.mk (below_step (below_x HB.out) hb); (try clear hb); (try clear hk); (try clear hi)) | ((with_reducible refine gate_callee (f := 55) rfl ?_); refine goesL_ (some 20) rfl rfl Try.func55 (by kernel_rfl) rfl #[] rfl (by (try simp only [List.map_toArray, List.map_cons, List.map_nil]); first | done | rfl | (simp only [List.length_drop, List.length_take]; rfl)) ?_; (with_reducible refine (swarflaw04_car.calls  t170 t173 t174 t177 t178 _ A5.out).mono ?_); rintro e w25 ⟨v171, v175, v179, rfl, ho0, ho1, ho2, hb⟩; refine ⟨_, rfl, ?_⟩; have HO172 := Aside0.mk (Kd.N_lower (Kd.N_mono (ok' := fun k_ => some k_ ≠ (v175 : Value).ownBlock ∧ some k_ ≠ (v179 : Value).ownBlock ∧ some k_ ≠ (.slice Ao16 t142.length co16 : Value).ownBlock ∧ some k_ ≠ (.slice Ao17 t146.length co17 : Value).ownBlock ∧ some k_ ≠ (.slice Ao18 t150.length co18 : Value).ownBlock ∧ some k_ ≠ (v154 : Value).ownBlock ∧ some k_ ≠ (.slice Ao21 t157.length co21 : Value).ownBlock ∧ some k_ ≠ (.slice Ao22 t161.length co22 : Value).ownBlock ∧ some k_ ≠ (.slice Ao23 t165.length co23 : Value).ownBlock) ho0 (fun k_ hk_ => ⟨hk_.2.1, hk_.2.2, (Kd.fresh' (Kd.N_lt (Kd.N_x HO144.out)) k_ hk_.1), (Kd.fresh' (Kd.R_lt (Kd.R_x HO148.out)) k_ hk_.1), (Kd.fresh' (Kd.R_lt (Kd.R_x HO152.out)) k_ hk_.1), (Kd.fresh' (Kd.R_lt (Kd.R_x HO155.out)) k_ hk_.1), (Kd.fresh' (Kd.N_lt (Kd.N_x HO159.out)) k_ hk_.1), (Kd.fresh' (Kd.R_lt (Kd.R_x HO163.out)) k_ hk_.1), (Kd.fresh' (Kd.R_lt (Kd.R_x HO167.out)) k_ hk_.1)⟩)) (below_size (below_x HB.out))); replace HO144 := Aside0.mk (Kd.N_mono (Kd.N_told (Kd.N_told (Kd.N_told (Kd.N_old (Kd.N_x HO144.out) hb) (Kd.N_base ho0)) (Kd.R_base ho1)) (Kd.R_base ho2)) (fun _ h_ => h_.1)); replace HO159 := Aside0.mk (Kd.N_mono (Kd.N_told (Kd.N_told (Kd.N_told (Kd.N_old (Kd.N_x HO159.out) hb) (Kd.N_base ho0)) (Kd.R_base ho1)) (Kd.R_base ho2)) (fun _ h_ => h_.1)); have HO176 := Aside0.mk (Kd.R_lower (Kd.R_new' (Kd.R_new' (Kd.R_mono (ok' := fun k_ => True) ho1 (fun _ hk_ => trivial)) (Kd.R_lt (Kd.R_x HO148.out))) (Kd.R_lt (Kd.R_x HO163.out))) (below_size (below_x HB.out))); replace HO148 := Aside0.mk (Kd.R_elder' (Kd.R_x HO148.out) (Kd.R_base ho1) hb); replace HO163 := Aside0.mk (Kd.R_elder' (Kd.R_x HO163.out) (Kd.R_base ho1) hb); have HO180 := Aside0.mk (Kd.R_lower (Kd.R_new' (Kd.R_new' (Kd.R_new' (Kd.R_mono (ok' := fun k_ => True) ho2 (fun _ hk_ => trivial)) (Kd.R_lt (Kd.R_x HO152.out))) (Kd.R_lt (Kd.R_x HO155.out))) (Kd.R_lt (Kd.R_x HO167.out))) (below_size (below_x HB.out))); replace HO152 := Aside0.mk (Kd.R_elder' (Kd.R_x HO152.out) (Kd.R_base ho2) hb); replace HO155 := Aside0.mk (Kd.R_elder' (Kd.R_x HO155.out) (Kd.R_base ho2) hb); replace HO167 := Aside0.mk (Kd.R_elder' (Kd.R_x HO167.out) (Kd.R_base ho2) hb); replace HB := Aside0.mk (below_step (below_x HB.out) hb); (try clear hb); (try clear hk); (try clear hi); (try clear ho0); (try clear ho1); (try clear ho2); obtain ⟨Ao26, co26, eo26⟩ := Kd.N_slice HO172.out; subst eo26; obtain ⟨Ao27, co27, eo27⟩ := Kd.R_slice HO176.out; subst eo27; obtain ⟨Ao28, co28, eo28⟩ := Kd.R_slice HO180.out; subst eo28) | ((with_reducible refine gate_callee (f := 20) rfl ?_); refine goesL_ (some 21) rfl rfl Try.func20 (by kernel_rfl) rfl #[.agg #[.slice Ao26 t170.length co26, .int .i64 t173, .slice Ao27 t174.length co27, .int .i64 t177, .slice Ao28 t178.length co28]] rfl (by (try simp only [List.map_toArray, List.map_cons, List.map_nil]); first | done | rfl | (simp only [List.length_drop, List.length_take]; rfl)) ?_; (with_reducible refine (strip_Work.calls _ _ t170 t173 _ _ t174 t177 _ _ t178 t181 t184 t185 _ ?side1 ?side2 ?side3 ?side4 ?side5 ?side6 A6.out).mono ?_); (case side1 => exact Kd.C_y (Kd.N_reads' HO172.out).2.2); (case side2 => exact (Kd.N_reads' HO172.out).2.1); (case side3 => exact Kd.C_y (Kd.R_reads' HO176.out).2.2); (case side4 => exact (Kd.R_reads' HO176.out).2.1); (case side5 => exact Kd.C_y (Kd.R_reads' HO180.out).2.2); (case side6 => exact (Kd.R_reads' HO180.out).2.1); rintro e w29 ⟨v182, rfl, ho0, hb⟩; refine ⟨_, rfl, ?_⟩; replace HO144 := Aside0.mk (Kd.N_elder' (Kd.N_x HO144.out) (Kd.R_base ho0) hb); replace HO148 := Aside0.mk (Kd.R_below (Kd.R_x HO148.out) hb); replace HO159 := Aside0.mk (Kd.N_elder' (Kd.N_x HO159.out) (Kd.R_base ho0) hb); replace HO163 := Aside0.mk (Kd.R_below (Kd.R_x HO163.out) hb); replace HO172 := Aside0.mk (Kd.N_elder' (Kd.N_x HO172.out) (Kd.R_base ho0) hb); replace HO176 := Aside0.mk (Kd.R_below (Kd.R_x HO176.out) hb); have HO183 := Aside0.mk (Kd.R_lower (Kd.R_new' (Kd.R_new' (Kd.R_new' (Kd.R_new' ho0 (Kd.R_lt (Kd.R_x HO152.out))) (Kd.R_lt (Kd.R_x HO155.out))) (Kd.R_lt (Kd.R_x HO167.out))) (Kd.R_lt (Kd.R_x HO180.out))) (below_size (below_x HB.out))); replace HO152 := Aside0.mk (Kd.R_elder' (Kd.R_x HO152.out) (Kd.R_base ho0) hb); replace HO155 := Aside0.mk (Kd.R_elder' (Kd.R_x HO155.out) (Kd.R_base ho0) hb); replace HO167 := Aside0.mk (Kd.R_elder' (Kd.R_x HO167.out) (Kd.R_base ho0) hb); replace HO180 := Aside0.mk (Kd.R_elder' (Kd.R_x HO180.out) (Kd.R_base ho0) hb); replace HB := Aside0.mk (below_step (below_x HB.out) hb); (try clear hb); (try clear hk); (try clear hi); (try clear ho0)) | ((with_reducible refine gate_dst (N := 49) rfl ?_); (try (refine gate_guard (by rfl) ?_; dsimp only)); refine Kd.R_lit (Kd.int .i64) _ 3 ?hg (N := 49) ?hd (xs := ([1, 3, 3, 3, 3] : List Int)) (inner := [.int .i64 1, .int .i64 3, .int .i64 3, .int .i64 3, .int .i64 3]) (ok := fun _ => True) (okp := fun _ => True) ?hr ?hp (fun _ hk => hk) trivial (Below.refl _ _) (Nat.le_refl _) (by simp) ?_; (case hd => rfl); (case hg => rfl); (case hr => first | (go_simp; done) | (go_simp; rfl)); (case hp => exact (Reps.one (show Kd.M (Kd.int .i64) _ _ _ 1 [.int .i64 1] from rfl) (Reps.one (show Kd.M (Kd.int .i64) _ _ _ 3 [.int .i64 3] from rfl) (Reps.one (show Kd.M (Kd.int .i64) _ _ _ 3 [.int .i64 3] from rfl) (Reps.one (show Kd.M (Kd.int .i64) _ _ _ 3 [.int .i64 3] from rfl) (Reps.one (show Kd.M (Kd.int .i64) _ _ _ 3 [.int .i64 3] from rfl) (Reps.none _ _))))))); intro v187 w30 ho31 hb hg_ hnew_; clear hg_ hnew_; (first | rw [← Ny186.out] at ho31 | (simp only [Int.reduceToNat] at ho31; rw [← Ny186.out] at ho31)); replace HO144 := Aside0.mk (Kd.N_elder' (Kd.N_x HO144.out) (Kd.R_base ho31) hb); replace HO148 := Aside0.mk (Kd.R_below (Kd.R_x HO148.out) hb); replace HO159 := Aside0.mk (Kd.N_elder' (Kd.N_x HO159.out) (Kd.R_base ho31) hb); replace HO163 := Aside0.mk (Kd.R_below (Kd.R_x HO163.out) hb); replace HO172 := Aside0.mk (Kd.N_elder' (Kd.N_x HO172.out) (Kd.R_base ho31) hb); replace HO176 := Aside0.mk (Kd.R_below (Kd.R_x HO176.out) hb); have HO188 := Aside0.mk (Kd.R_lower (Kd.R_new' (Kd.R_new' (Kd.R_new' (Kd.R_new' (Kd.R_new' ho31 (Kd.R_lt (Kd.R_x HO152.out))) (Kd.R_lt (Kd.R_x HO155.out))) (Kd.R_lt (Kd.R_x HO167.out))) (Kd.R_lt (Kd.R_x HO180.out))) (Kd.R_lt (Kd.R_x HO183.out))) (below_size (below_x HB.out))); replace HO152 := Aside0.mk (Kd.R_elder' (Kd.R_x HO152.out) (Kd.R_base ho31) hb); replace HO155 := Aside0.mk (Kd.R_elder' (Kd.R_x HO155.out) (Kd.R_base ho31) hb); replace HO167 := Aside0.mk (Kd.R_elder' (Kd.R_x HO167.out) (Kd.R_base ho31) hb); replace HO180 := Aside0.mk (Kd.R_elder' (Kd.R_x HO180.out) (Kd.R_base ho31) hb); replace HO183 := Aside0.mk (Kd.R_elder' (Kd.R_x HO183.out) (Kd.R_base ho31) hb); replace HB := Aside0.mk (below_step (below_x HB.out) hb); clear hb ho31; obtain ⟨Ao32, co32, eo32⟩ := Kd.R_slice HO155.out; subst eo32; obtain ⟨Ao33, co33, eo33⟩ := Kd.R_slice HO188.out; subst eo33) | (go_at_call 22; (with_reducible refine (swarfkit_EqualInts.calls k _ _ t153 _ _ y186 true _ ?side1 ?side2 ?side3 ?side4 A12.out).mono ?_); (case side1 => exact Kd.C_y (Kd.R_reads' HO155.out).2.2); (case side2 => exact (Kd.R_reads' HO155.out).2.1); (case side3 => exact Kd.C_y (Kd.R_reads' HO188.out).2.2); (case side4 => exact (Kd.R_reads' HO188.out).2.1); rintro e w' ⟨rfl, ⟨nd, rfl⟩⟩) | ((with_reducible refine gate_dst (N := 54) rfl ?_); (try (refine gate_guard (by rfl) ?_; dsimp only)); refine Kd.R_lit (Kd.int .i64) _ 3 ?hg (N := 54) ?hd (xs := ([1, 2, 3, 4] : List Int)) (inner := [.int .i64 1, .int .i64 2, .int .i64 3, .int .i64 4]) (ok := fun _ => True) (okp := fun _ => True) ?hr ?hp (fun _ hk => hk) trivial (Below.refl _ _) (Nat.le_refl _) (by simp) ?_; (case hd => rfl); (case hg => rfl); (case hr => first | (go_simp; done) | (go_simp; rfl)); (case hp => exact (Reps.one (show Kd.M (Kd.int .i64) _ _ _ 1 [.int .i64 1] from rfl) (Reps.one (show Kd.M (Kd.int .i64) _ _ _ 2 [.int .i64 2] from rfl) (Reps.one (show Kd.M (Kd.int .i64) _ _ _ 3 [.int .i64 3] from rfl) (Reps.one (show Kd.M (Kd.int .i64) _ _ _ 4 [.int .i64 4] from rfl) (Reps.none _ _)))))); intro v191 w34 ho35 hb hg_ hnew_; clear hg_ hnew_; (first | rw [← Ny190.out] at ho35 | (simp only [Int.reduceToNat] at ho35; rw [← Ny190.out] at ho35)); replace HO144 := Aside0.mk (Kd.N_elder' (Kd.N_x HO144.out) (Kd.R_base ho35) hb); replace HO148 := Aside0.mk (Kd.R_below (Kd.R_x HO148.out) hb); replace HO159 := Aside0.mk (Kd.N_elder' (Kd.N_x HO159.out) (Kd.R_base ho35) hb); replace HO163 := Aside0.mk (Kd.R_below (Kd.R_x HO163.out) hb); replace HO172 := Aside0.mk (Kd.N_elder' (Kd.N_x HO172.out) (Kd.R_base ho35) hb); replace HO176 := Aside0.mk (Kd.R_below (Kd.R_x HO176.out) hb); have HO192 := Aside0.mk (Kd.R_lower (Kd.R_new' (Kd.R_new' (Kd.R_new' (Kd.R_new' (Kd.R_new' (Kd.R_new' ho35 (Kd.R_lt (Kd.R_x HO152.out))) (Kd.R_lt (Kd.R_x HO155.out))) (Kd.R_lt (Kd.R_x HO167.out))) (Kd.R_lt (Kd.R_x HO180.out))) (Kd.R_lt (Kd.R_x HO183.out))) (Kd.R_lt (Kd.R_x HO188.out))) (below_size (below_x HB.out))); replace HO152 := Aside0.mk (Kd.R_elder' (Kd.R_x HO152.out) (Kd.R_base ho35) hb); replace HO155 := Aside0.mk (Kd.R_elder' (Kd.R_x HO155.out) (Kd.R_base ho35) hb); replace HO167 := Aside0.mk (Kd.R_elder' (Kd.R_x HO167.out) (Kd.R_base ho35) hb); replace HO180 := Aside0.mk (Kd.R_elder' (Kd.R_x HO180.out) (Kd.R_base ho35) hb); replace HO183 := Aside0.mk (Kd.R_elder' (Kd.R_x HO183.out) (Kd.R_base ho35) hb); replace HO188 := Aside0.mk (Kd.R_elder' (Kd.R_x HO188.out) (Kd.R_base ho35) hb); replace HB := Aside0.mk (below_step (below_x HB.out) hb); clear hb ho35; obtain ⟨Ao36, co36, eo36⟩ := Kd.R_slice HO183.out; subst eo36; obtain ⟨Ao37, co37, eo37⟩ := Kd.R_slice HO192.out; subst eo37) | (go_at_call 22; (with_reducible refine (swarfkit_EqualInts.calls k _ _ t181 _ _ y190 t193 _ ?side1 ?side2 ?side3 ?side4 A14.out).mono ?_); (case side1 => exact Kd.C_y (Kd.R_reads' HO183.out).2.2); (case side2 => exact (Kd.R_reads' HO183.out).2.1); (case side3 => exact Kd.C_y (Kd.R_reads' HO192.out).2.2); (case side4 => exact (Kd.R_reads' HO192.out).2.1); rintro e w' ⟨rfl, ⟨nd, rfl⟩⟩))
       go_ret
       exact ⟨by first | rfl | (simp [errW_none, errW_some] <;> rfl) | (simp [*, errW_none, errW_some] <;> rfl), by exact below_y HB.out⟩
      ·
       replace c13 := Bool.eq_false_iff.mpr c13
       subst c13
       have H1 : (some false) = some r := by rw [if_neg (show ¬ (false = true) by decide)] at H; exact H
       clear H
       have H := H1
       clear H1
       exact absurd ((Option.some.inj H).trans hrt.out) (by decide)
     ·
      rw [if_neg c11] at H
      have c11b0 : (t184 == 74) = false := beq_eq_false_iff_ne.mpr c11
      have c11b1 : (t184 != 74) = true := bne_iff_ne.mpr c11
      exact absurd ((Option.some.inj H).trans hrt.out) (by decide)
    ·
     rw [if_neg c10] at H
     have c10b0 : (t168 == 2) = false := beq_eq_false_iff_ne.mpr c10
     have c10b1 : (t168 != 2) = true := bne_iff_ne.mpr c10
     exact absurd ((Option.some.inj H).trans hrt.out) (by decide)
   ·
    rw [if_neg c9] at H
    have c9b0 : (t185 == 0) = false := beq_eq_false_iff_ne.mpr c9
    have c9b1 : (t185 != 0) = true := bne_iff_ne.mpr c9
    exact absurd ((Option.some.inj H).trans hrt.out) (by decide)
  ·
   rw [if_neg c8] at H
   have c8b0 : (t169 == 0) = false := beq_eq_false_iff_ne.mpr c8
   have c8b1 : (t169 != 0) = true := bne_iff_ne.mpr c8
   exact absurd ((Option.some.inj H).trans hrt.out) (by decide)
 ·
  rw [if_neg c7] at H
  have c7b0 : (t156 == 0) = false := beq_eq_false_iff_ne.mpr c7
  have c7b1 : (t156 != 0) = true := bne_iff_ne.mpr c7
  exact absurd ((Option.some.inj H).trans hrt.out) (by decide)
def swarfkit_Ints.f (l0 : List Int) : Option (List Int) := (some (([] : List Int) : List Int)).bind fun y463 => (if y463.length + l0.length < 17592186044416 then (some (y463 ++ l0)) else (none))
set_option maxHeartbeats 8000000 in
set_option maxRecDepth 100000 in
theorem swarfkit_Ints.calls (A0 : Option Addr) (c0 : Nat) (l0 : List Int) (r : List Int) (w : World) (hr0 : Kd.C (Kd.int .i64) w A0 l0.length l0) (hc0 : l0.length ≤ c0) (h : swarfkit_Ints.f l0 = some r) :
  Calls Try.prog 43 #[.slice A0 l0.length c0] w fun e w' => ∃ v0_ : Value, e = .returned (v0_) ∧ Kd.R (Kd.int .i64) 3 w' w.heap.size (fun _ => True) v0_ r ∧ Below w.heap.size w w' := by
 have HR0 := Aside0.mk hr0
 have HC0 := Aside0.mk hc0
 clear hr0 hc0
 have HB := Aside0.mk (Below.refl w.heap.size w)
 have H : ((some (([] : List Int) : List Int)).bind fun y463 => (if y463.length + l0.length < 17592186044416 then (some (y463 ++ l0)) else (none))) = some r := h
 clear h
 obtain ⟨y463, hy463⟩ : ∃ y_ : List Int, y_ = (([] : List Int)) := ⟨_, rfl⟩
 replace H : (if y463.length + l0.length < 17592186044416 then (some (y463 ++ l0)) else (none)) = some r := by first | (rw [hy463]; with_reducible exact H) | (have H2_ := (Option.bind_some _ _).symm.trans H; rw [hy463]; with_reducible exact H2_) | (have H2_ := (Option.bind_some _ _).symm.trans H; with_reducible exact H2_) | with_reducible exact H | (rw [hy463]; exact H) | exact H
 have Ny463 := Aside0.mk hy463
 clear hy463
 by_cases c2 : y463.length + l0.length < 17592186044416
 ·
  rw [if_pos c2] at H
  have LMc2 := Aside0.mk c2
  clear c2
  obtain ⟨y466, hy466⟩ : ∃ y_ : List Int, y_ = (y463 ++ l0) := ⟨_, rfl⟩
  replace H : (some y466) = some r := by first | (rw [hy466]; with_reducible exact H) | (have H2_ := (Option.bind_some _ _).symm.trans H; rw [hy466]; with_reducible exact H2_) | (have H2_ := (Option.bind_some _ _).symm.trans H; with_reducible exact H2_) | with_reducible exact H | (rw [hy466]; exact H) | exact H
  have Ny466 := Aside0.mk hy466
  clear hy466
  obtain rfl := Option.some.inj H
  go_enter Try.func43, Try.ntmps43
  go_wp2_with (first | ((with_reducible refine gate_dst (N := 3) rfl ?_); refine Kd.R_lit (Kd.int .i64) _ 3 ?hg (N := 3) ?hd (xs := ([] : List Int)) (inner := []) (ok := fun _ => True) (okp := fun _ => True) ?hr ?hp (fun _ hk => hk) trivial (Below.refl _ _) (Nat.le_refl _) (by simp) ?_; (case hd => rfl); (case hg => rfl); (case hr => first | (go_simp; done) | (go_simp; rfl)); (case hp => exact (Reps.none _ _)); intro v464 w3 ho4 hb hg_ hnew_; clear hg_ hnew_; (first | rw [← Ny463.out] at ho4 | (simp only [Int.reduceToNat] at ho4; rw [← Ny463.out] at ho4)); have HO465 := Aside0.mk (Kd.R_lower ho4 (below_size (below_x HB.out))); replace HB := Aside0.mk (below_step (below_x HB.out) hb); clear hb ho4) | ((with_reducible refine gate_builtin (b := .append) (xs := #[.tmp 3, .tmp 4]) rfl ?_); at_builtin; refine Kd.R_append_rows (Kd.int .i64) (w0 := w) w.heap.size rfl (.tmp 3) (.tmp 4) 24 3 (.int .i64 0) 8 rfl Try.underlying24 info3 rfl (by decide) (by omega) v464 y463 l0 _ _ _ (fun _ => True) (fun _ => False) rfl rfl ?aO ?aR (fun _ _ h => h) (fun _ h => h.elim) ?aF ?aB ?aS ?aL ?_; (case aR => exact Kd.C_x HR0.out HB.out); (case aB => exact (below_x HB.out)); (case aF => exact (fun _ _ => trivial)); (case aO => exact (Kd.R_x HO465.out)); (case aS => exact (below_size (below_x HB.out))); (case aL => have := LMc2.out; omega); intro v467 w5 ho hb hg hat; rw [← Ny466.out] at ho; replace HB := Aside0.mk (hb); have HO468 := Aside0.mk (ho); clear HO465; clear ho hb hg hat))
  go_ret
  exact ⟨_, by first | rfl | (simp [errW_none, errW_some] <;> rfl) | (simp [*, errW_none, errW_some] <;> rfl), by (with_reducible repeat (first | apply Kd.R_alloc | apply Kd.R_drewN | apply Kd.R_drew)); exact HO468.out, by exact below_y HB.out⟩
 ·
  rw [if_neg c2] at H
  exact absurd H (by simp)
def swarfkit_CopyCar.l0 : Nat → Int → List (S50) → Int → List (S61) → Int → List Int → List (S50) → Int → List (S61) → Int → List Int → Option ((List (S50)) × Int × (List (S61)) × Int × List Int)
 | 0, _, _, _, _, _, _, _, _, _, _, _ => none
 | k + 1, x4, x470000, x470001, x470002, x470003, x470004, x472000, x472001, x472002, x472003, x472004 => if x4 < (x470000.length : Int) then (if 0 ≤ x4 then ((swarfkit_Ints.f ((rd_T50 x470000 x4).f0)).bind fun t483 => (if x472000.length < 2932031007402 then (swarfkit_CopyCar.l0 k (wrap64 (x4 + 1)) x470000 x470001 x470002 x470003 x470004 (x472000 ++ [(⟨t483, (rd_T50 x470000 x4).f1, (rd_T50 x470000 x4).f2, (rd_T50 x470000 x4).f3⟩ : S50)]) x472001 x472002 x472003 x472004) else (none))) else (none)) else (some (x472000, x472001, x472002, x472003, x472004))
def swarfkit_CopyCar.f (k : Nat) (l0_0 : List (S50)) (a0_1 : Int) (l0_2 : List (S61)) (a0_3 : Int) (l0_4 : List Int) : Option ((List (S50)) × Int × (List (S61)) × Int × List Int) := (some (([] : List (S61)) : List (S61))).bind fun y472 => (if y472.length + l0_2.length < 8796093022208 then ((swarfkit_Ints.f l0_4).bind fun t478 => (swarfkit_CopyCar.l0 k 0 l0_0 a0_1 l0_2 a0_3 l0_4 ([] : List (S50)) a0_1 (y472 ++ l0_2) a0_3 t478)) else (none))
def swarfkit_CopyCar.T2 : Bool × List (List Nat × List Nat) := (true, [([], []), ([], []), ([1], [1]), ([0, 2], [0, 2]), ([], []), ([4], [4]), ([5, 3], [5]), ([], []), ([7, 6], [7]), ([0, 1, 2, 3, 7, 8], []), ([9, 3, 8, 0, 1, 2, 3, 7, 8], [3, 9]), ([0, 1, 2, 3, 4, 5, 6, 7, 8, 9, 10], []), ([11, 6, 10, 0, 1, 2, 3, 4, 5, 6, 7, 8, 9, 10], [6, 11])])
def swarfkit_CopyCar.B2 : List Nat := [0, 0, 2, 7, 0, 16, 63, 0, 255, 511, 1023, 2047, 4095]
theorem swarfkit_CopyCar.tab2 : rtab .any (opsOf Try.f19 2) = swarfkit_CopyCar.T2 := by kernel_rfl
theorem swarfkit_CopyCar.bits2 : waitsOk swarfkit_CopyCar.T2.2 swarfkit_CopyCar.B2 = true := by kernel_rfl
set_option maxHeartbeats 8000000 in
set_option maxRecDepth 100000 in
theorem swarfkit_CopyCar.calls (k : Nat) (A0_0 : Option Addr) (c0_0 : Nat) (l0_0 : List (S50)) (a0_1 : Int) (A0_2 : Option Addr) (c0_2 : Nat) (l0_2 : List (S61)) (a0_3 : Int) (A0_4 : Option Addr) (c0_4 : Nat) (l0_4 : List Int) (r1 : List (S50)) (r2 : Int) (r3 : List (S61)) (r4 : Int) (r5 : List Int) (w : World) (hr0_0 : Kd.C k50 w A0_0 l0_0.length l0_0) (hc0_0 : l0_0.length ≤ c0_0) (hr0_2 : Kd.C k61 w A0_2 l0_2.length l0_2) (hc0_2 : l0_2.length ≤ c0_2) (hr0_4 : Kd.C (Kd.int .i64) w A0_4 l0_4.length l0_4) (hc0_4 : l0_4.length ≤ c0_4) (h : swarfkit_CopyCar.f k l0_0 a0_1 l0_2 a0_3 l0_4 = some (r1, r2, r3, r4, r5)) :
  Calls Try.prog 19 #[.agg #[.slice A0_0 l0_0.length c0_0, .int .i64 a0_1, .slice A0_2 l0_2.length c0_2, .int .i64 a0_3, .slice A0_4 l0_4.length c0_4]] w fun e w' => ∃ v0_ v2_ v4_ : Value, e = .returned (.agg #[v0_, .int .i64 r2, v2_, .int .i64 r4, v4_]) ∧ Kd.S k50 50 w' w.heap.size (fun k_ => some k_ ≠ (v4_ : Value).ownBlock) v0_ r1 ∧ Kd.R k61 61 w' w.heap.size (fun _ => True) v2_ r3 ∧ Kd.R (Kd.int .i64) 3 w' w.heap.size (fun _ => True) v4_ r5 ∧ Below w.heap.size w w' := by
 have hu26 := Try.underlying26
 have hu50 := Try.underlying50
 have HR0_0 := Aside0.mk hr0_0
 have HC0_0 := Aside0.mk hc0_0
 clear hr0_0 hc0_0
 have HR0_2 := Aside0.mk hr0_2
 have HC0_2 := Aside0.mk hc0_2
 clear hr0_2 hc0_2
 have HR0_4 := Aside0.mk hr0_4
 have HC0_4 := Aside0.mk hc0_4
 clear hr0_4 hc0_4
 have HB := Aside0.mk (Below.refl w.heap.size w)
 have H : ((some (([] : List (S61)) : List (S61))).bind fun y472 => (if y472.length + l0_2.length < 8796093022208 then ((swarfkit_Ints.f l0_4).bind fun t478 => (swarfkit_CopyCar.l0 k 0 l0_0 a0_1 l0_2 a0_3 l0_4 ([] : List (S50)) a0_1 (y472 ++ l0_2) a0_3 t478)) else (none))) = some (r1, r2, r3, r4, r5) := h
 clear h
 obtain ⟨y472, hy472⟩ : ∃ y_ : List (S61), y_ = (([] : List (S61))) := ⟨_, rfl⟩
 replace H : (if y472.length + l0_2.length < 8796093022208 then ((swarfkit_Ints.f l0_4).bind fun t478 => (swarfkit_CopyCar.l0 k 0 l0_0 a0_1 l0_2 a0_3 l0_4 ([] : List (S50)) a0_1 (y472 ++ l0_2) a0_3 t478)) else (none)) = some (r1, r2, r3, r4, r5) := by first | (rw [hy472]; with_reducible exact H) | (have H2_ := (Option.bind_some _ _).symm.trans H; rw [hy472]; with_reducible exact H2_) | (have H2_ := (Option.bind_some _ _).symm.trans H; with_reducible exact H2_) | with_reducible exact H | (rw [hy472]; exact H) | exact H
 have Ny472 := Aside0.mk hy472
 clear hy472
 by_cases c2 : y472.length + l0_2.length < 8796093022208
 ·
  rw [if_pos c2] at H
  have LMc2 := Aside0.mk c2
  clear c2
  obtain ⟨y475, hy475⟩ : ∃ y_ : List (S61), y_ = (y472 ++ l0_2) := ⟨_, rfl⟩
  replace H : ((swarfkit_Ints.f l0_4).bind fun t478 => (swarfkit_CopyCar.l0 k 0 l0_0 a0_1 l0_2 a0_3 l0_4 ([] : List (S50)) a0_1 y475 a0_3 t478)) = some (r1, r2, r3, r4, r5) := by first | (rw [hy475]; with_reducible exact H) | (have H2_ := (Option.bind_some _ _).symm.trans H; rw [hy475]; with_reducible exact H2_) | (have H2_ := (Option.bind_some _ _).symm.trans H; with_reducible exact H2_) | with_reducible exact H | (rw [hy475]; exact H) | exact H
  have Ny475 := Aside0.mk hy475
  clear hy475
  replace H := Option.bind_eq_some_iff.mp H
  obtain ⟨t478, A30, H⟩ := H
  try dsimp only at H
  have A3 := Aside0.mk A30
  clear A30
  have H' := Aside0.mk H
  clear H
  go_enter Try.func19, Try.ntmps19
  try go_wp2_with (first | ((with_reducible refine gate_dst (N := 1) rfl ?_); refine box_event ?hg (N := 1) ?hd (cs := #[.slice A0_0 l0_0.length c0_0, .int .i64 a0_1, .slice A0_2 l0_2.length c0_2, .int .i64 a0_3, .slice A0_4 l0_4.length c0_4]) (t := 26) ?hr ?_; (case hd => rfl); (case hg => rfl); (case hr => first | (go_simp; done) | (go_simp; rfl)); intro gb469 hg w4 hbox hb; have BK469 := Aside0.mk (hbox); have GW469 := Aside0.mk ((by rw [hg]; exact (below_size (below_x HB.out)) : w.heap.size ≤ gb469)); have GE469 := Aside0.mk ((by rw [hg]; exact (below_size (below_x HB.out)) : w.heap.size ≤ gb469)); replace HB := Aside0.mk (below_step (below_x HB.out) hb); clear hb hbox hg) | ((with_reducible refine gate_dst (N := 2) rfl ?_); refine box_event ?hg (N := 2) ?hd (cs := #[.slice none 0 0, .int .i64 0, .slice none 0 0, .int .i64 0, .slice none 0 0]) (t := 26) ?hr ?_; (case hd => rfl); (case hg => rfl); (case hr => first | (go_simp; done) | (go_simp; rfl)); intro gb470 hg w5 hbox hb; have BK470 := Aside0.mk (hbox); have GW470 := Aside0.mk ((by rw [hg]; exact (below_size (by exact below_y HB.out)) : w.heap.size ≤ gb470)); have GE470 := Aside0.mk ((by rw [hg]; exact (below_size (by exact below_y HB.out)) : w.heap.size ≤ gb470)); replace HB := bl_x HB hb; have NB469_470 := Aside0.mk ((by rw [hg]; exact Nat.ne_of_lt (blk_lt (g := gb469) (o := .cells #[.slice A0_0 l0_0.length c0_0, .int .i64 a0_1, .slice A0_2 l0_2.length c0_2, .int .i64 a0_3, .slice A0_4 l0_4.length c0_4] 26 (0, 0)) (blk_x BK469.out)) : gb469 ≠ gb470)); have NB470_469 := Aside0.mk ((by rw [hg]; exact Nat.ne_of_gt (blk_lt (g := gb469) (o := .cells #[.slice A0_0 l0_0.length c0_0, .int .i64 a0_1, .slice A0_2 l0_2.length c0_2, .int .i64 a0_3, .slice A0_4 l0_4.length c0_4] 26 (0, 0)) (blk_x BK469.out)) : gb470 ≠ gb469)); replace BK469 := Aside0.mk (blk_below (blk_x BK469.out) hb); clear hb hbox hg; have hnb6 := NB469_470.out; have hnc6 := NB470_469.out; obtain ⟨_, _, _, _, _⟩ := cz5 BK469; have hfz7_0 := blk_frozen BK469.out) | ((with_reducible refine gate_dst (N := 3) rfl ?_); refine box_event ?hg (N := 3) ?hd (cs := #[.slice none 0 0, .int .i64 0, .slice none 0 0, .int .i64 0, .slice none 0 0]) (t := 26) ?hr ?_; (case hd => rfl); (case hg => rfl); (case hr => first | (go_simp; done) | (go_simp; rfl)); intro gb471 hg w8 hbox hb; have BK471 := Aside0.mk (hbox); have GW471 := Aside0.mk ((by rw [hg]; exact (below_size (by exact below_y HB.out)) : w.heap.size ≤ gb471)); have GE471 := Aside0.mk ((by rw [hg]; exact (below_size (by exact below_y HB.out)) : w.heap.size ≤ gb471)); replace HB := bl_x HB hb; have NB469_471 := Aside0.mk ((by rw [hg]; exact Nat.ne_of_lt (blk_lt (g := gb469) (o := .cells #[.slice A0_0 l0_0.length c0_0, .int .i64 a0_1, .slice A0_2 l0_2.length c0_2, .int .i64 a0_3, .slice A0_4 l0_4.length c0_4] 26 (0, 0)) (blk_x BK469.out)) : gb469 ≠ gb471)); have NB471_469 := Aside0.mk ((by rw [hg]; exact Nat.ne_of_gt (blk_lt (g := gb469) (o := .cells #[.slice A0_0 l0_0.length c0_0, .int .i64 a0_1, .slice A0_2 l0_2.length c0_2, .int .i64 a0_3, .slice A0_4 l0_4.length c0_4] 26 (0, 0)) (blk_x BK469.out)) : gb471 ≠ gb469)); replace BK469 := Aside0.mk (blk_below (blk_x BK469.out) hb); have NB470_471 := Aside0.mk ((by rw [hg]; exact Nat.ne_of_lt (blk_lt (g := gb470) (o := .cells #[.slice none 0 0, .int .i64 0, .slice none 0 0, .int .i64 0, .slice none 0 0] 26 (0, 0)) (blk_x BK470.out)) : gb470 ≠ gb471)); have NB471_470 := Aside0.mk ((by rw [hg]; exact Nat.ne_of_gt (blk_lt (g := gb470) (o := .cells #[.slice none 0 0, .int .i64 0, .slice none 0 0, .int .i64 0, .slice none 0 0] 26 (0, 0)) (blk_x BK470.out)) : gb471 ≠ gb470)); replace BK470 := Aside0.mk (blk_below (blk_x BK470.out) hb); clear hb hbox hg; have hnb9 := NB471_469.out; have hnc9 := NB469_471.out; have hnb10 := NB471_470.out; have hnc10 := NB470_471.out; obtain ⟨_, _, _, _, _⟩ := cz5 BK471; have hfz11_0 := blk_frozen BK471.out))
  have n0_ : Aside0 ((((((w8.setCell ⟨gb471, 0, none⟩ (.slice A0_0 l0_0.length c0_0)).setCell ⟨gb471, 1, none⟩ (.int .i64 a0_1)).setCell ⟨gb471, 2, none⟩ (.slice A0_2 l0_2.length c0_2)).setCell ⟨gb471, 3, none⟩ (.int .i64 a0_3)).setCell ⟨gb471, 4, none⟩ (.slice A0_4 l0_4.length c0_4)).heap[gb469]? = some (.cells #[.slice A0_0 l0_0.length c0_0, .int .i64 a0_1, .slice A0_2 l0_2.length c0_2, .int .i64 a0_3, .slice A0_4 l0_4.length c0_4] 26 (0, 0))) := ⟨blk_w BK469.out⟩
  have n1_ : Aside0 ((((((w8.setCell ⟨gb471, 0, none⟩ (.slice A0_0 l0_0.length c0_0)).setCell ⟨gb471, 1, none⟩ (.int .i64 a0_1)).setCell ⟨gb471, 2, none⟩ (.slice A0_2 l0_2.length c0_2)).setCell ⟨gb471, 3, none⟩ (.int .i64 a0_3)).setCell ⟨gb471, 4, none⟩ (.slice A0_4 l0_4.length c0_4)).heap[gb470]? = some (.cells #[.slice none 0 0, .int .i64 0, .slice none 0 0, .int .i64 0, .slice none 0 0] 26 (0, 0))) := ⟨blk_w BK470.out⟩
  have n2_ : Aside0 ((((((w8.setCell ⟨gb471, 0, none⟩ (.slice A0_0 l0_0.length c0_0)).setCell ⟨gb471, 1, none⟩ (.int .i64 a0_1)).setCell ⟨gb471, 2, none⟩ (.slice A0_2 l0_2.length c0_2)).setCell ⟨gb471, 3, none⟩ (.int .i64 a0_3)).setCell ⟨gb471, 4, none⟩ (.slice A0_4 l0_4.length c0_4)).heap[gb471]? = some (.cells #[.slice A0_0 l0_0.length c0_0, .int .i64 a0_1, .slice A0_2 l0_2.length c0_2, .int .i64 a0_3, .slice A0_4 l0_4.length c0_4] 26 (0, 0))) := ⟨by (with_reducible repeat (first | refine blk_drewN ?_ _ | refine blk_drew ?_ | refine blk_alloc ?_ _)); refine blk_put (cs := #[.slice A0_0 l0_0.length c0_0, .int .i64 a0_1, .slice A0_2 l0_2.length c0_2, .int .i64 a0_3, .slice none 0 0]) ?_ 4 _ rfl; (with_reducible repeat (first | refine blk_drewN ?_ _ | refine blk_drew ?_ | refine blk_alloc ?_ _)); refine blk_put (cs := #[.slice A0_0 l0_0.length c0_0, .int .i64 a0_1, .slice A0_2 l0_2.length c0_2, .int .i64 0, .slice none 0 0]) ?_ 3 _ rfl; (with_reducible repeat (first | refine blk_drewN ?_ _ | refine blk_drew ?_ | refine blk_alloc ?_ _)); refine blk_put (cs := #[.slice A0_0 l0_0.length c0_0, .int .i64 a0_1, .slice none 0 0, .int .i64 0, .slice none 0 0]) ?_ 2 _ rfl; (with_reducible repeat (first | refine blk_drewN ?_ _ | refine blk_drew ?_ | refine blk_alloc ?_ _)); refine blk_put (cs := #[.slice A0_0 l0_0.length c0_0, .int .i64 0, .slice none 0 0, .int .i64 0, .slice none 0 0]) ?_ 1 _ rfl; (with_reducible repeat (first | refine blk_drewN ?_ _ | refine blk_drew ?_ | refine blk_alloc ?_ _)); refine blk_put (cs := #[.slice none 0 0, .int .i64 0, .slice none 0 0, .int .i64 0, .slice none 0 0]) ?_ 0 _ rfl; (with_reducible repeat (first | refine blk_drewN ?_ _ | refine blk_drew ?_ | refine blk_alloc ?_ _)); exact BK471.out⟩
  have n3_ : Aside0 (Below w.heap.size w (((((w8.setCell ⟨gb471, 0, none⟩ (.slice A0_0 l0_0.length c0_0)).setCell ⟨gb471, 1, none⟩ (.int .i64 a0_1)).setCell ⟨gb471, 2, none⟩ (.slice A0_2 l0_2.length c0_2)).setCell ⟨gb471, 3, none⟩ (.int .i64 a0_3)).setCell ⟨gb471, 4, none⟩ (.slice A0_4 l0_4.length c0_4))) := ⟨by exact below_y HB.out⟩
  (try clear BK469)
  (try clear BK470)
  (try clear BK471)
  (try clear HB)
  generalize (((((w8.setCell ⟨gb471, 0, none⟩ (.slice A0_0 l0_0.length c0_0)).setCell ⟨gb471, 1, none⟩ (.int .i64 a0_1)).setCell ⟨gb471, 2, none⟩ (.slice A0_2 l0_2.length c0_2)).setCell ⟨gb471, 3, none⟩ (.int .i64 a0_3)).setCell ⟨gb471, 4, none⟩ (.slice A0_4 l0_4.length c0_4)) = w12 at n0_ n1_ n2_ n3_ ⊢
  have BK469 := n0_
  have BK470 := n1_
  have BK471 := n2_
  have HB := n3_
  clear n0_ n1_ n2_ n3_
  replace BK469 := Aside0.mk (blk_drew BK469.out)
  replace BK470 := Aside0.mk (blk_drew BK470.out)
  replace BK471 := Aside0.mk (blk_drew BK471.out)
  replace HB := Aside0.mk (below_drew1 HB.out)
  refine start_ (n := 13) (S := fun w' => w'.cell? ⟨gb469, 0, none⟩ = some (.slice A0_0 l0_0.length c0_0) ∧ w'.cell? ⟨gb469, 1, none⟩ = some (.int .i64 a0_1) ∧ w'.cell? ⟨gb469, 2, none⟩ = some (.slice A0_2 l0_2.length c0_2) ∧ w'.cell? ⟨gb469, 3, none⟩ = some (.int .i64 a0_3) ∧ w'.cell? ⟨gb469, 4, none⟩ = some (.slice A0_4 l0_4.length c0_4)) (ds := []) #[false, false, false, false, false, false, false, false, false, false, false, false, false] (by kernel_rfl) rfl rfl ⟨(blk_cell BK469.out 0).trans rfl, (blk_cell BK469.out 1).trans rfl, (blk_cell BK469.out 2).trans rfl, (blk_cell BK469.out 3).trans rfl, (blk_cell BK469.out 4).trans rfl⟩ (fun hHeld => ?_); refine with_tabW swarfkit_CopyCar.tab2 swarfkit_CopyCar.bits2 (fun HT_ HW_ => ?_)
  generalize w12.drew = w13 at BK469 BK470 BK471 HB hHeld ⊢
  refine pure_ (i := 1) (N := some 8) (v := ?_) (a' := ?_) (bz 13 2) rfl rfl (any_of HT_.out (by kernel_rfl)) (fun _ _ _ h => h) (Or.inl ⟨by rfl, ?_⟩) ?_ ?_
  rotate_left
  ·
   intro w'
   go_simp
   with_reducible rfl
  rotate_left
  ·
   simp only [Act.put, put_x, i64_w, i32_w]
   rfl
  refine pure_ (i := 4) (N := some 11) (v := ?_) (a' := ?_) (bz 13 18) rfl rfl (any_of HT_.out (by kernel_rfl)) (fun _ _ _ h => h) (Or.inl ⟨by rfl, ?_⟩) ?_ ?_
  rotate_left
  ·
   intro w'
   go_simp
   with_reducible rfl
  rotate_left
  ·
   simp only [Act.put, put_x, i64_w, i32_w]
   rfl
  refine pure_ (i := 7) (N := some 14) (v := ?_) (a' := ?_) (bz 13 146) rfl rfl (any_of HT_.out (by kernel_rfl)) (fun _ _ _ h => h) (Or.inl ⟨by rfl, ?_⟩) ?_ ?_
  rotate_left
  ·
   intro w'
   go_simp
   with_reducible rfl
  rotate_left
  ·
   simp only [Act.put, put_x, i64_w, i32_w]
   rfl
  refine take_ (i := 2) (N := some 9) (v := ?_) (a' := ?_) (bz 13 150) rfl rfl (take_ofW HT_.out HW_.out (by kernel_rfl)) (fun _ _ _ h => h) (Or.inl ⟨by rfl, ?_⟩) hHeld ?_ ?_
  rotate_left
  ·
   rintro w' ⟨s0, s1, s2, s3, s4⟩
   go_simp
   with_reducible rfl
  rotate_left
  ·
   simp only [Act.put, put_x, i64_w, i32_w]
   rfl
  refine take_ (i := 5) (N := some 12) (v := ?_) (a' := ?_) (bz 13 182) rfl rfl (take_ofW HT_.out HW_.out (by kernel_rfl)) (fun _ _ _ h => h) (Or.inl ⟨by rfl, ?_⟩) hHeld ?_ ?_
  rotate_left
  ·
   rintro w' ⟨s0, s1, s2, s3, s4⟩
   go_simp
   with_reducible rfl
  rotate_left
  ·
   simp only [Act.put, put_x, i64_w, i32_w]
   rfl
  refine one_ (i := 0) (N := some 7) (bz 13 183) rfl rfl (one_of HT_.out (by kernel_rfl)) (by decide) (fun K hK => ?_)
  refine Kd.R_lit_step k61 _ 61 ?hg (N := 7) ?hd (xs := ([] : List (S61))) (inner := []) (ok := fun _ => True) (okp := fun _ => True) ?hr ?hp (fun _ hk => hk) trivial (Below.refl _ _) (Nat.le_refl _) (by simp) ?_; (case hd => rfl); (case hg => rfl); (case hr => first | (go_simp; done) | (go_simp; rfl)); (case hp => exact (Reps.none _ _))
  intro v473 w14 ho15 hb hg_ hnew_
  clear hg_ hnew_
  (first | rw [← Ny472.out] at ho15 | (simp only [Int.reduceToNat] at ho15; rw [← Ny472.out] at ho15))
  have HO474 := Aside0.mk (Kd.R_lower ho15 (below_size (by exact below_y HB.out)))
  replace BK469 := Aside0.mk (blk_below (blk_x BK469.out) hb)
  replace BK470 := Aside0.mk (blk_below (blk_x BK470.out) hb)
  replace BK471 := Aside0.mk (blk_below (blk_x BK471.out) hb)
  replace HB := bl_x HB hb
  clear hb ho15
  refine hK.out _ _ ⟨(blk_cell BK469.out 0).trans rfl, (blk_cell BK469.out 1).trans rfl, (blk_cell BK469.out 2).trans rfl, (blk_cell BK469.out 3).trans rfl, (blk_cell BK469.out 4).trans rfl⟩ (fun hHeld => ?_)
  clear hK K
  refine norm_ (a' := ?_) ?_ ?_
  rotate_left
  ·
   show Act.put _ (some 7) _ = _
   simp only [Act.put, put_x, i64_w, i32_w]
   rfl
  refine one_ (i := 3) (N := some 10) (bz 13 191) rfl rfl (one_of HT_.out (by kernel_rfl)) (by decide) (fun K hK => ?_)
  refine Kd.R_append_rows_step k61 (w0 := w) w.heap.size (by rfl) (.tmp 7) (.tmp 9) 23 61 (.agg #[(.int .i64 0), (.bool false)]) 16 rfl Try.underlying23 info61 rfl (by decide) (by omega) v473 y472 l0_2 _ _ _ (fun _ => True) (fun _ => False) rfl rfl ?aO ?aR (fun _ _ h => h) (fun _ h => h.elim) ?aF ?aB ?aS ?aL ?_
  (case aR => exact Kd.C_x HR0_2.out HB.out)
  (case aB => exact (by exact below_y HB.out))
  (case aF => exact (fun _ _ => trivial))
  (case aO => exact (Kd.R_x HO474.out))
  (case aS => exact (below_size (by exact below_y HB.out)))
  (case aL => have := LMc2.out; omega)
  intro v476 w16 ho hb hg hat
  rw [← Ny475.out] at ho
  replace BK469 := Aside0.mk (blk_grown (blk_x BK469.out) hg (Kd.R_ne HO474.out BK469.out (by decide)))
  replace BK470 := Aside0.mk (blk_grown (blk_x BK470.out) hg (Kd.R_ne HO474.out BK470.out (by decide)))
  replace BK471 := Aside0.mk (blk_grown (blk_x BK471.out) hg (Kd.R_ne HO474.out BK471.out (by decide)))
  replace HB := Aside0.mk (hb)
  have HO477 := Aside0.mk (ho)
  clear HO474 ho hb hg hat
  refine hK.out _ _ ⟨(blk_cell BK469.out 0).trans rfl, (blk_cell BK469.out 1).trans rfl, (blk_cell BK469.out 2).trans rfl, (blk_cell BK469.out 3).trans rfl, (blk_cell BK469.out 4).trans rfl⟩ (fun hHeld => ?_)
  clear hK K
  refine norm_ (a' := ?_) ?_ ?_
  rotate_left
  ·
   show Act.put _ (some 10) _ = _
   simp only [Act.put, put_x, i64_w, i32_w]
   rfl
  refine one_ (i := 6) (N := some 13) (bz 13 255) rfl rfl (one_of HT_.out (by kernel_rfl)) (by decide) (fun K hK => ?_)
  refine goes_ Try.func43 (by kernel_rfl) rfl #[.slice A0_4 l0_4.length c0_4] (by rfl) rfl rfl (by (try simp only [List.map_toArray, List.map_cons, List.map_nil]); first | done | rfl | (simp only [List.length_drop, List.length_take]; rfl)) ?_
  with_reducible refine (swarfkit_Ints.calls _ _ l0_4 t478 _ ?side1 ?side2 A3.out).mono ?_
  (case side1 => exact Kd.C_x HR0_4.out HB.out)
  (case side2 => exact HC0_4.out)
  rintro e w17 ⟨v479, rfl, ho0, hb⟩
  refine ⟨_, rfl, ?_⟩
  replace HO477 := Aside0.mk (Kd.R_below (Kd.R_x HO477.out) hb)
  have HO480 := Aside0.mk (Kd.R_lower ho0 (below_size (by exact below_y HB.out)))
  replace BK469 := Aside0.mk (blk_below (blk_x BK469.out) hb)
  replace BK470 := Aside0.mk (blk_below (blk_x BK470.out) hb)
  replace BK471 := Aside0.mk (blk_below (blk_x BK471.out) hb)
  replace HB := bl_x HB hb
  (try clear hb)
  (try clear hb2)
  (try clear hk)
  (try clear hi)
  (try clear ho0)
  obtain ⟨Ao19, co19, eo19⟩ := Kd.R_slice HO477.out
  (first | subst eo19 | (injection eo19 with f1_ f2_ f3_; have f4_ := f1_.symm; have f5_ := f3_.symm; clear f1_ f2_ f3_; subst f4_; subst f5_))
  obtain ⟨Ao21, co21, eo21⟩ := Kd.R_slice HO480.out
  (first | subst eo21 | (injection eo21 with f1_ f2_ f3_; have f4_ := f1_.symm; have f5_ := f3_.symm; clear f1_ f2_ f3_; subst f4_; subst f5_))
  refine hK.out _ _ ⟨(blk_cell BK469.out 0).trans rfl, (blk_cell BK469.out 1).trans rfl, (blk_cell BK469.out 2).trans rfl, (blk_cell BK469.out 3).trans rfl, (blk_cell BK469.out 4).trans rfl⟩ (fun hHeld => ?_)
  clear hK K
  refine norm_ (a' := ?_) ?_ ?_
  rotate_left
  ·
   show Act.put _ (some 13) _ = _
   simp only [Act.put, put_x, i64_w, i32_w]
   rfl
  refine one_ (i := 8) (N := none) (bz 13 511) rfl rfl (one_of HT_.out (by kernel_rfl)) (by decide) (fun K hK => ?_)
  have hs18 : w17.cell? ⟨gb471, 0, none⟩ = some (.slice A0_0 l0_0.length c0_0) := (blk_cell BK471.out 0).trans rfl
  have hfs18 := blk_frozen BK471.out 0
  have hns18_0 := NB469_471.out
  have hns18_1 := NB470_471.out
  have hms18_0 := NB471_469.out
  have hms18_1 := NB471_470.out
  refine skip_ (w1 := ?_) (by rfl) rfl ?_ ?_
  rotate_left
  ·
   go_simp
   rfl
  refine hK.out _ _ ⟨((cell_far (p := ⟨gb471, _, none⟩) NB469_471.out _).trans (hHeld.1)), ((cell_far (p := ⟨gb471, _, none⟩) NB469_471.out _).trans (hHeld.2.1)), ((cell_far (p := ⟨gb471, _, none⟩) NB469_471.out _).trans (hHeld.2.2.1)), ((cell_far (p := ⟨gb471, _, none⟩) NB469_471.out _).trans (hHeld.2.2.2.1)), ((cell_far (p := ⟨gb471, _, none⟩) NB469_471.out _).trans (hHeld.2.2.2.2))⟩ (fun hHeld => ?_)
  clear hK K
  refine pure_ (i := 9) (N := some 15) (v := ?_) (a' := ?_) (bz 13 1023) rfl rfl (any_of HT_.out (by kernel_rfl)) (fun _ _ _ h => h) (Or.inl ⟨by rfl, ?_⟩) ?_ ?_
  rotate_left
  ·
   intro w'
   go_simp
   with_reducible rfl
  rotate_left
  ·
   simp only [Act.put, put_x, i64_w, i32_w]
   rfl
  refine one_ (i := 10) (N := none) (bz 13 2047) rfl rfl (one_of HT_.out (by kernel_rfl)) (by decide) (fun K hK => ?_)
  have hs20 : w17.cell? ⟨gb471, 2, none⟩ = some (.slice A0_2 l0_2.length c0_2) := (blk_cell BK471.out 2).trans rfl
  have hfs20 := blk_frozen BK471.out 2
  have hns20_0 := NB469_471.out
  have hns20_1 := NB470_471.out
  have hms20_0 := NB471_469.out
  have hms20_1 := NB471_470.out
  refine skip_ (w1 := ?_) (by rfl) rfl ?_ ?_
  rotate_left
  ·
   go_simp
   rfl
  refine hK.out _ _ ⟨((cell_far (p := ⟨gb471, _, none⟩) NB469_471.out _).trans (hHeld.1)), ((cell_far (p := ⟨gb471, _, none⟩) NB469_471.out _).trans (hHeld.2.1)), ((cell_far (p := ⟨gb471, _, none⟩) NB469_471.out _).trans (hHeld.2.2.1)), ((cell_far (p := ⟨gb471, _, none⟩) NB469_471.out _).trans (hHeld.2.2.2.1)), ((cell_far (p := ⟨gb471, _, none⟩) NB469_471.out _).trans (hHeld.2.2.2.2))⟩ (fun hHeld => ?_)
  clear hK K
  refine pure_ (i := 11) (N := some 16) (v := ?_) (a' := ?_) (bz 13 4095) rfl rfl (any_of HT_.out (by kernel_rfl)) (fun _ _ _ h => h) (Or.inl ⟨by rfl, ?_⟩) ?_ ?_
  rotate_left
  ·
   intro w'
   go_simp
   with_reducible rfl
  rotate_left
  ·
   simp only [Act.put, put_x, i64_w, i32_w]
   rfl
  refine one_ (i := 12) (N := none) (bz 13 8191) rfl rfl (one_of HT_.out (by kernel_rfl)) (by decide) (fun K hK => ?_)
  have hs22 : w17.cell? ⟨gb471, 4, none⟩ = some (.slice A0_4 l0_4.length c0_4) := (blk_cell BK471.out 4).trans rfl
  have hfs22 := blk_frozen BK471.out 4
  have hns22_0 := NB469_471.out
  have hns22_1 := NB470_471.out
  have hms22_0 := NB471_469.out
  have hms22_1 := NB471_470.out
  refine skip_ (w1 := ?_) (by rfl) rfl ?_ ?_
  rotate_left
  ·
   go_simp
   rfl
  refine hK.out _ _ ⟨((cell_far (p := ⟨gb471, _, none⟩) NB469_471.out _).trans (hHeld.1)), ((cell_far (p := ⟨gb471, _, none⟩) NB469_471.out _).trans (hHeld.2.1)), ((cell_far (p := ⟨gb471, _, none⟩) NB469_471.out _).trans (hHeld.2.2.1)), ((cell_far (p := ⟨gb471, _, none⟩) NB469_471.out _).trans (hHeld.2.2.2.1)), ((cell_far (p := ⟨gb471, _, none⟩) NB469_471.out _).trans (hHeld.2.2.2.2))⟩ (fun hHeld => ?_)
  clear hK K
  refine done_ (done_of HT_.out (by kernel_rfl)) ?_
  try go_wp2
  go_loopg [4] k (fun kq v4 w' => ∃ (x4_1 : Int) (x472000_1 : List (S50)) (u472000 : Value), v4 = .int .i64 x4_1 ∧ Aside0 (swarfkit_CopyCar.l0 kq x4_1 l0_0 a0_1 l0_2 a0_3 l0_4 x472000_1 a0_1 y475 a0_3 t478 = some (r1, r2, r3, r4, r5)) ∧ Aside0 (kq ≤ k) ∧ Aside0 (Kd.S k50 50 w' w.heap.size (fun k_ => some k_ ≠ ((.slice Ao21 t478.length co21) : Value).ownBlock) u472000 x472000_1) ∧ Aside0 (Kd.R k61 61 w' w.heap.size (fun _ => True) (.slice Ao19 y475.length co19) y475) ∧ Aside0 (Kd.R (Kd.int .i64) 3 w' w.heap.size (fun _ => True) (.slice Ao21 t478.length co21) t478) ∧ Aside0 (w'.heap[gb469]? = some (.cells #[(.slice A0_0 l0_0.length c0_0), .int .i64 a0_1, (.slice A0_2 l0_2.length c0_2), .int .i64 a0_3, (.slice A0_4 l0_4.length c0_4)] 26 (0, 0))) ∧ Aside0 (w'.heap[gb470]? = some (.cells #[(.slice none 0 0), .int .i64 0, (.slice none 0 0), .int .i64 0, (.slice none 0 0)] 26 (0, 0))) ∧ Aside0 (w'.heap[gb471]? = some (.cells #[u472000, .int .i64 a0_1, (.slice Ao19 y475.length co19), .int .i64 a0_3, (.slice Ao21 t478.length co21)] 26 (0, 0))) ∧ Aside0 (Below w.heap.size w w'))
  case atStart => exact ⟨(0), (([] : List (S50))), (.slice none 0 0), (by first | rfl | (simp; done) | (simp [*]; done)), H', ⟨Nat.le_refl _⟩, ⟨by first | exact Kd.S_nil _ _ _ _ _ | exact Kd.N_nil _ _ _ _ _ | exact Kd.V_nil _ _ _ _ _ | exact Kd.Q_nil _ _ _ _ _ | exact Kd.R_nil _ _ _ _ _⟩, ⟨by (with_reducible repeat (first | apply Kd.R_alloc | apply Kd.R_drewN | apply Kd.R_drew)); exact Kd.R_mono (Kd.R_far (p := ⟨gb471, 4, none⟩) (Kd.R_far (p := ⟨gb471, 2, none⟩) (Kd.R_far (p := ⟨gb471, 0, none⟩) (Kd.R_types HO477.out BK471.out (by decide)) (fun _ hk => hk.2) (.slice none 0 0)) (fun _ hk => hk.2) (.slice Ao19 y475.length co19)) (fun _ hk => hk.2) (.slice Ao21 t478.length co21)) (fun _ hk => trivial)⟩, ⟨by (with_reducible repeat (first | apply Kd.R_alloc | apply Kd.R_drewN | apply Kd.R_drew)); exact Kd.R_mono (Kd.R_far (p := ⟨gb471, 4, none⟩) (Kd.R_far (p := ⟨gb471, 2, none⟩) (Kd.R_far (p := ⟨gb471, 0, none⟩) (Kd.R_types HO480.out BK471.out (by decide)) (fun _ hk => hk.2) (.slice none 0 0)) (fun _ hk => hk.2) (.slice Ao19 y475.length co19)) (fun _ hk => hk.2) (.slice Ao21 t478.length co21)) (fun _ hk => trivial)⟩, ⟨blk_w BK469.out⟩, ⟨blk_w BK470.out⟩, ⟨by (with_reducible repeat (first | refine blk_drewN ?_ _ | refine blk_drew ?_ | refine blk_alloc ?_ _)); refine blk_put (cs := #[.slice none 0 0, .int .i64 a0_1, .slice Ao19 y475.length co19, .int .i64 a0_3, .slice A0_4 l0_4.length c0_4]) ?_ 4 _ rfl; (with_reducible repeat (first | refine blk_drewN ?_ _ | refine blk_drew ?_ | refine blk_alloc ?_ _)); refine blk_put (cs := #[.slice none 0 0, .int .i64 a0_1, .slice A0_2 l0_2.length c0_2, .int .i64 a0_3, .slice A0_4 l0_4.length c0_4]) ?_ 2 _ rfl; (with_reducible repeat (first | refine blk_drewN ?_ _ | refine blk_drew ?_ | refine blk_alloc ?_ _)); refine blk_put (cs := #[.slice A0_0 l0_0.length c0_0, .int .i64 a0_1, .slice A0_2 l0_2.length c0_2, .int .i64 a0_3, .slice A0_4 l0_4.length c0_4]) ?_ 0 _ rfl; (with_reducible repeat (first | refine blk_drewN ?_ _ | refine blk_drew ?_ | refine blk_alloc ?_ _)); exact BK471.out⟩, ⟨by exact below_y HB.out⟩⟩
  case round =>
   clear H'
   try clear HO_472000
   try clear HO_472002
   try clear HO_472004
   try clear BK469
   try clear BK470
   try clear BK471
   try clear HB
   obtain ⟨x4_1, x472000_1, u472000, rfl, HA, HK1, HO_472000, HO_472002, HO_472004, BK469, BK470, BK471, HB⟩ := hrel
   cases gk with
   | zero => exact absurd HA.out (by simp [swarfkit_CopyCar.l0])
   | succ k1 =>
    have H := HA.out
    clear HA
    simp only [swarfkit_CopyCar.l0] at H
    by_cases c23 : x4_1 < (l0_0.length : Int)
    ·
     rw [if_pos c23] at H
     have c23b0 : decide (x4_1 < (l0_0.length : Int)) = true := decide_eq_true c23
     clear c23
     by_cases c24 : 0 ≤ x4_1
     ·
      rw [if_pos c24] at H
      have c24b0 : decide (0 ≤ x4_1) = true := decide_eq_true c24
      clear c24
      replace H := Option.bind_eq_some_iff.mp H
      obtain ⟨t483, A250, H⟩ := H
      try dsimp only at H
      have A25 := Aside0.mk A250
      clear A250
      by_cases c26 : x472000_1.length < 2932031007402
      ·
       rw [if_pos c26] at H
       have LMc26 := Aside0.mk c26
       clear c26
       obtain ⟨y486, hy486⟩ : ∃ y_ : List (S50), y_ = (x472000_1 ++ [(⟨t483, (rd_T50 l0_0 x4_1).f1, (rd_T50 l0_0 x4_1).f2, (rd_T50 l0_0 x4_1).f3⟩ : S50)]) := ⟨_, rfl⟩
       replace H : (swarfkit_CopyCar.l0 k1 (wrap64 (x4_1 + 1)) l0_0 a0_1 l0_2 a0_3 l0_4 y486 a0_1 y475 a0_3 t478) = some (r1, r2, r3, r4, r5) := by first | (rw [hy486]; with_reducible exact H) | (have H2_ := (Option.bind_some _ _).symm.trans H; rw [hy486]; with_reducible exact H2_) | (have H2_ := (Option.bind_some _ _).symm.trans H; with_reducible exact H2_) | with_reducible exact H | (rw [hy486]; exact H) | exact H
       have Ny486 := Aside0.mk hy486
       clear hy486
       have H' := Aside0.mk H
       clear H
       have hnb27 := NB469_470.out
       have hnc27 := NB470_469.out
       have hnb28 := NB469_471.out
       have hnc28 := NB471_469.out
       obtain ⟨_, _, _, _, _⟩ := cz5 BK469
       have hfz29_0 := blk_frozen BK469.out
       have p481 : 0 ≤ (x4_1 : Int) := of_x
       have q481 : x4_1 < (l0_0.length : Int) := of_x
       obtain ⟨ad481, A481_0, c481_0, e481, hx481_0, hx481_1, hx481_2, hx481_3, hl481_0, hi481_0⟩ := at_T50 HR0_0.out x4_1 p481 q481
       cases e481
       replace hx481_0 := cell_x HB hx481_0
       replace hx481_1 := cell_x HB hx481_1
       replace hx481_2 := cell_x HB hx481_2
       replace hx481_3 := cell_x HB hx481_3
       have HR481_0 := Aside0.mk hi481_0
       have HC481_0 := Aside0.mk hl481_0
       clear hi481_0 hl481_0
       replace p481 := eq_true p481
       replace q481 := eq_true q481
       go_wp2_with (first | ((with_reducible refine gate_dst (N := 5) rfl ?_); refine box_event ?hg (N := 5) ?hd (cs := #[.slice none 0 0, .bool false, .int .i64 0, .int .i64 0]) (t := 50) ?hr ?_; (case hd => rfl); (case hg => rfl); (case hr => first | (go_simp; done) | (go_simp; rfl)); intro gb482 hg w30 hbox hb; replace HO_472000 := Aside0.mk (Kd.S_below (Kd.S_elderB (Kd.S_x HO_472000.out) gb482 (Nat.le_of_eq hg.symm)) hb); replace HO_472002 := Aside0.mk (Kd.R_below (Kd.R_x HO_472002.out) hb); replace HO_472004 := Aside0.mk (Kd.R_below (Kd.R_x HO_472004.out) hb); have BK482 := Aside0.mk (hbox); have GW482 := Aside0.mk ((by rw [hg]; exact (below_size (by exact below_y HB.out)) : w.heap.size ≤ gb482)); have GE482 := Aside0.mk ((by rw [hg]; exact (below_size (by exact below_y HB.out)) : w.heap.size ≤ gb482)); replace HB := bl_x HB hb; have NB469_482 := Aside0.mk ((by rw [hg]; exact Nat.ne_of_lt (blk_lt (g := gb469) (o := .cells #[.slice (some ad481) l0_0.length c0_0, .int .i64 a0_1, .slice A0_2 l0_2.length c0_2, .int .i64 a0_3, .slice A0_4 l0_4.length c0_4] 26 (0, 0)) (blk_x BK469.out)) : gb469 ≠ gb482)); have NB482_469 := Aside0.mk ((by rw [hg]; exact Nat.ne_of_gt (blk_lt (g := gb469) (o := .cells #[.slice (some ad481) l0_0.length c0_0, .int .i64 a0_1, .slice A0_2 l0_2.length c0_2, .int .i64 a0_3, .slice A0_4 l0_4.length c0_4] 26 (0, 0)) (blk_x BK469.out)) : gb482 ≠ gb469)); replace BK469 := Aside0.mk (blk_below (blk_x BK469.out) hb); have NB470_482 := Aside0.mk ((by rw [hg]; exact Nat.ne_of_lt (blk_lt (g := gb470) (o := .cells #[.slice none 0 0, .int .i64 0, .slice none 0 0, .int .i64 0, .slice none 0 0] 26 (0, 0)) (blk_x BK470.out)) : gb470 ≠ gb482)); have NB482_470 := Aside0.mk ((by rw [hg]; exact Nat.ne_of_gt (blk_lt (g := gb470) (o := .cells #[.slice none 0 0, .int .i64 0, .slice none 0 0, .int .i64 0, .slice none 0 0] 26 (0, 0)) (blk_x BK470.out)) : gb482 ≠ gb470)); replace BK470 := Aside0.mk (blk_below (blk_x BK470.out) hb); have NB471_482 := Aside0.mk ((by rw [hg]; exact Nat.ne_of_lt (blk_lt (g := gb471) (o := .cells #[u472000, .int .i64 a0_1, .slice Ao19 y475.length co19, .int .i64 a0_3, .slice Ao21 t478.length co21] 26 (0, 0)) (blk_x BK471.out)) : gb471 ≠ gb482)); have NB482_471 := Aside0.mk ((by rw [hg]; exact Nat.ne_of_gt (blk_lt (g := gb471) (o := .cells #[u472000, .int .i64 a0_1, .slice Ao19 y475.length co19, .int .i64 a0_3, .slice Ao21 t478.length co21] 26 (0, 0)) (blk_x BK471.out)) : gb482 ≠ gb471)); replace BK471 := Aside0.mk (blk_below (blk_x BK471.out) hb); clear hb hbox hg; have hnb31 := NB482_469.out; have hnc31 := NB469_482.out; have hnb32 := NB482_470.out; have hnc32 := NB470_482.out; have hnb33 := NB482_471.out; have hnc33 := NB471_482.out; obtain ⟨_, _, _, _⟩ := cz4 BK482; have hfz34_0 := blk_frozen BK482.out) | ((with_reducible refine gate_callee (f := 43) rfl ?_); refine goesL_ (some 31) rfl rfl Try.func43 (by kernel_rfl) rfl #[.slice A481_0 ((rd_T50 l0_0 x4_1).f0).length c481_0] rfl (by (try simp only [List.map_toArray, List.map_cons, List.map_nil]); first | done | rfl | (simp only [List.length_drop, List.length_take]; rfl)) ?_; (with_reducible refine (swarfkit_Ints.calls _ _ ((rd_T50 l0_0 x4_1).f0) t483 _ ?side1 ?side2 A25.out).mono ?_); (case side1 => exact Kd.C_below HR481_0.out (by exact below_y HB.out)); (case side2 => exact HC481_0.out); rintro e w35 ⟨v484, rfl, ho0, hb⟩; refine ⟨_, rfl, ?_⟩; replace HO_472000 := Aside0.mk (Kd.S_elder' (by (with_reducible repeat (first | apply Kd.S_alloc | apply Kd.S_drewN | apply Kd.S_drew)); exact (Kd.S_mono (Kd.S_far (p := ⟨gb482, 3, none⟩) (Kd.S_far (p := ⟨gb482, 2, none⟩) (Kd.S_far (p := ⟨gb482, 1, none⟩) (Kd.S_far (p := ⟨gb482, 0, none⟩) (Kd.S_mono HO_472000.out (fun k_ hk => (⟨hk, hk.2⟩ : _ ∧ k_ ≠ gb482))) (fun _ hk => hk.2) (.slice A481_0 ((rd_T50 l0_0 x4_1).f0).length c481_0)) (fun _ hk => hk.2) (.bool ((rd_T50 l0_0 x4_1).f1))) (fun _ hk => hk.2) (.int .i64 ((rd_T50 l0_0 x4_1).f2))) (fun _ hk => hk.2) (.int .i64 ((rd_T50 l0_0 x4_1).f3))) (fun _ h_ => h_.1))) (Kd.R_base ho0) hb); replace HO_472002 := Aside0.mk (Kd.R_below (by (with_reducible repeat (first | apply Kd.R_alloc | apply Kd.R_drewN | apply Kd.R_drew)); exact (Kd.R_mono (Kd.R_far (p := ⟨gb482, 3, none⟩) (Kd.R_far (p := ⟨gb482, 2, none⟩) (Kd.R_far (p := ⟨gb482, 1, none⟩) (Kd.R_far (p := ⟨gb482, 0, none⟩) (Kd.R_types HO_472002.out BK482.out (by decide)) (fun _ hk => hk.2) (.slice A481_0 ((rd_T50 l0_0 x4_1).f0).length c481_0)) (fun _ hk => hk.2) (.bool ((rd_T50 l0_0 x4_1).f1))) (fun _ hk => hk.2) (.int .i64 ((rd_T50 l0_0 x4_1).f2))) (fun _ hk => hk.2) (.int .i64 ((rd_T50 l0_0 x4_1).f3))) (fun _ h_ => h_.1))) hb); have HO485 := Aside0.mk (Kd.R_lower (Kd.R_new' ho0 (Kd.R_lt (by (with_reducible repeat (first | apply Kd.R_alloc | apply Kd.R_drewN | apply Kd.R_drew)); exact (Kd.R_mono (Kd.R_far (p := ⟨gb482, 3, none⟩) (Kd.R_far (p := ⟨gb482, 2, none⟩) (Kd.R_far (p := ⟨gb482, 1, none⟩) (Kd.R_far (p := ⟨gb482, 0, none⟩) (Kd.R_types HO_472004.out BK482.out (by decide)) (fun _ hk => hk.2) (.slice A481_0 ((rd_T50 l0_0 x4_1).f0).length c481_0)) (fun _ hk => hk.2) (.bool ((rd_T50 l0_0 x4_1).f1))) (fun _ hk => hk.2) (.int .i64 ((rd_T50 l0_0 x4_1).f2))) (fun _ hk => hk.2) (.int .i64 ((rd_T50 l0_0 x4_1).f3))) (fun _ h_ => h_.1))))) (below_size (by exact below_y HB.out))); replace HO_472004 := Aside0.mk (Kd.R_elder' (by (with_reducible repeat (first | apply Kd.R_alloc | apply Kd.R_drewN | apply Kd.R_drew)); exact (Kd.R_mono (Kd.R_far (p := ⟨gb482, 3, none⟩) (Kd.R_far (p := ⟨gb482, 2, none⟩) (Kd.R_far (p := ⟨gb482, 1, none⟩) (Kd.R_far (p := ⟨gb482, 0, none⟩) (Kd.R_types HO_472004.out BK482.out (by decide)) (fun _ hk => hk.2) (.slice A481_0 ((rd_T50 l0_0 x4_1).f0).length c481_0)) (fun _ hk => hk.2) (.bool ((rd_T50 l0_0 x4_1).f1))) (fun _ hk => hk.2) (.int .i64 ((rd_T50 l0_0 x4_1).f2))) (fun _ hk => hk.2) (.int .i64 ((rd_T50 l0_0 x4_1).f3))) (fun _ h_ => h_.1))) (Kd.R_base ho0) hb); replace BK469 := Aside0.mk (blk_below (g := gb469) (o := .cells #[.slice (some ad481) l0_0.length c0_0, .int .i64 a0_1, .slice A0_2 l0_2.length c0_2, .int .i64 a0_3, .slice A0_4 l0_4.length c0_4] 26 (0, 0)) (blk_w BK469.out) hb); replace BK470 := Aside0.mk (blk_below (g := gb470) (o := .cells #[.slice none 0 0, .int .i64 0, .slice none 0 0, .int .i64 0, .slice none 0 0] 26 (0, 0)) (blk_w BK470.out) hb); replace BK471 := Aside0.mk (blk_below (g := gb471) (o := .cells #[u472000, .int .i64 a0_1, .slice Ao19 y475.length co19, .int .i64 a0_3, .slice Ao21 t478.length co21] 26 (0, 0)) (blk_w BK471.out) hb); replace BK482 := Aside0.mk (blk_below (g := gb482) (o := .cells #[.slice A481_0 ((rd_T50 l0_0 x4_1).f0).length c481_0, .bool ((rd_T50 l0_0 x4_1).f1), .int .i64 ((rd_T50 l0_0 x4_1).f2), .int .i64 ((rd_T50 l0_0 x4_1).f3)] 50 (0, 0)) (by (with_reducible repeat (first | refine blk_drewN ?_ _ | refine blk_drew ?_ | refine blk_alloc ?_ _)); refine blk_put (cs := #[.slice A481_0 ((rd_T50 l0_0 x4_1).f0).length c481_0, .bool ((rd_T50 l0_0 x4_1).f1), .int .i64 ((rd_T50 l0_0 x4_1).f2), .int .i64 0]) ?_ 3 _ rfl; (with_reducible repeat (first | refine blk_drewN ?_ _ | refine blk_drew ?_ | refine blk_alloc ?_ _)); refine blk_put (cs := #[.slice A481_0 ((rd_T50 l0_0 x4_1).f0).length c481_0, .bool ((rd_T50 l0_0 x4_1).f1), .int .i64 0, .int .i64 0]) ?_ 2 _ rfl; (with_reducible repeat (first | refine blk_drewN ?_ _ | refine blk_drew ?_ | refine blk_alloc ?_ _)); refine blk_put (cs := #[.slice A481_0 ((rd_T50 l0_0 x4_1).f0).length c481_0, .bool false, .int .i64 0, .int .i64 0]) ?_ 1 _ rfl; (with_reducible repeat (first | refine blk_drewN ?_ _ | refine blk_drew ?_ | refine blk_alloc ?_ _)); refine blk_put (cs := #[.slice none 0 0, .bool false, .int .i64 0, .int .i64 0]) ?_ 0 _ rfl; (with_reducible repeat (first | refine blk_drewN ?_ _ | refine blk_drew ?_ | refine blk_alloc ?_ _)); exact BK482.out) hb); replace HB := bl_x HB hb; (try clear hb); (try clear hk); (try clear hi); (try clear ho0); obtain ⟨Ao36, co36, eo36⟩ := Kd.R_slice HO485.out; subst eo36; obtain ⟨_, _, _, _⟩ := cz4 BK482; have hfz37_0 := blk_frozen BK482.out) | ((with_reducible refine gate_store (t := 24) (p := 32) rfl ?_); refine store_event (t := 24) (p := 32) (v := ?vo_w38) (w1 := (w35.setCell ⟨gb482, 0, none⟩ (.slice Ao36 t483.length co36))) ?hg ?ho ?hn ?hr ?_; (case ho => rfl); (case hg => rfl); (case hn => rfl); (case hr => first | (go_simp; done) | (go_simp; rfl)); intro w38 hw; replace HO_472000 : Aside0 (Kd.S k50 50 w38 w.heap.size (fun k_ => some k_ ≠ (.slice Ao21 t478.length co21 : Value).ownBlock ∧ some k_ ≠ (.slice Ao36 t483.length co36 : Value).ownBlock ∧ k_ ≠ gb482) u472000 x472000_1) := ⟨(by rw [hw]; exact (by (with_reducible repeat (first | apply Kd.S_alloc | apply Kd.S_drewN | apply Kd.S_drew)); exact Kd.S_mono (Kd.S_far (p := ⟨gb482, 0, none⟩) (Kd.S_mono HO_472000.out (fun k_ hk => (⟨hk, hk.1.2⟩ : _ ∧ k_ ≠ gb482))) (fun _ hk => hk.2) (.slice Ao36 t483.length co36)) (fun _ hk => ⟨hk.1.1.1, ⟨hk.1.2, hk.1.1.2⟩⟩)))⟩; replace HO_472002 : Aside0 (Kd.R k61 61 w38 w.heap.size (fun _ => True) (.slice Ao19 y475.length co19) y475) := ⟨(by rw [hw]; exact (by (with_reducible repeat (first | apply Kd.R_alloc | apply Kd.R_drewN | apply Kd.R_drew)); exact Kd.R_mono (Kd.R_far (p := ⟨gb482, 0, none⟩) (Kd.R_types HO_472002.out BK482.out (by decide)) (fun _ hk => hk.2) (.slice Ao36 t483.length co36)) (fun _ hk => trivial)))⟩; replace HO_472004 : Aside0 (Kd.R (Kd.int .i64) 3 w38 w.heap.size (fun k_ => some k_ ≠ (.slice Ao36 t483.length co36 : Value).ownBlock) (.slice Ao21 t478.length co21) t478) := ⟨(by rw [hw]; exact (by (with_reducible repeat (first | apply Kd.R_alloc | apply Kd.R_drewN | apply Kd.R_drew)); exact Kd.R_mono (Kd.R_far (p := ⟨gb482, 0, none⟩) (Kd.R_types HO_472004.out BK482.out (by decide)) (fun _ hk => hk.2) (.slice Ao36 t483.length co36)) (fun _ hk => hk.1.2)))⟩; replace HO485 : Aside0 (Kd.R (Kd.int .i64) 3 w38 w.heap.size (fun k_ => some k_ ≠ (.slice Ao21 t478.length co21 : Value).ownBlock) (.slice Ao36 t483.length co36) t483) := ⟨(by rw [hw]; exact (by (with_reducible repeat (first | apply Kd.R_alloc | apply Kd.R_drewN | apply Kd.R_drew)); exact Kd.R_mono (Kd.R_far (p := ⟨gb482, 0, none⟩) (Kd.R_types HO485.out BK482.out (by decide)) (fun _ hk => hk.2) (.slice Ao36 t483.length co36)) (fun _ hk => hk.1.2)))⟩; replace BK469 : Aside0 (w38.heap[gb469]? = some (.cells #[.slice (some ad481) l0_0.length c0_0, .int .i64 a0_1, .slice A0_2 l0_2.length c0_2, .int .i64 a0_3, .slice A0_4 l0_4.length c0_4] 26 (0, 0))) := ⟨(by rw [hw]; exact (blk_w BK469.out))⟩; replace BK470 : Aside0 (w38.heap[gb470]? = some (.cells #[.slice none 0 0, .int .i64 0, .slice none 0 0, .int .i64 0, .slice none 0 0] 26 (0, 0))) := ⟨(by rw [hw]; exact (blk_w BK470.out))⟩; replace BK471 : Aside0 (w38.heap[gb471]? = some (.cells #[u472000, .int .i64 a0_1, .slice Ao19 y475.length co19, .int .i64 a0_3, .slice Ao21 t478.length co21] 26 (0, 0))) := ⟨(by rw [hw]; exact (blk_w BK471.out))⟩; replace BK482 : Aside0 (w38.heap[gb482]? = some (.cells #[.slice Ao36 t483.length co36, .bool ((rd_T50 l0_0 x4_1).f1), .int .i64 ((rd_T50 l0_0 x4_1).f2), .int .i64 ((rd_T50 l0_0 x4_1).f3)] 50 (0, 0))) := ⟨(by rw [hw]; exact (by (with_reducible repeat (first | refine blk_drewN ?_ _ | refine blk_drew ?_ | refine blk_alloc ?_ _)); refine blk_put (cs := #[.slice A481_0 ((rd_T50 l0_0 x4_1).f0).length c481_0, .bool ((rd_T50 l0_0 x4_1).f1), .int .i64 ((rd_T50 l0_0 x4_1).f2), .int .i64 ((rd_T50 l0_0 x4_1).f3)]) ?_ 0 _ rfl; (with_reducible repeat (first | refine blk_drewN ?_ _ | refine blk_drew ?_ | refine blk_alloc ?_ _)); exact BK482.out))⟩; replace HB : Aside0 (Below w.heap.size w w38) := ⟨(by rw [hw]; exact (by exact below_y HB.out))⟩; clear hw; have hnb39 := NB471_470.out; have hnc39 := NB470_471.out; obtain ⟨_, _, _, _, _⟩ := cz5 BK471; have hfz40_0 := blk_frozen BK471.out; obtain ⟨_, _, _, _⟩ := cz4 BK482; have hfz41_0 := blk_frozen BK482.out) | ((with_reducible refine gate_builtin (b := .append) (xs := #[.tmp 34, .tmp 36]) rfl ?_); at_builtin; refine Kd.S_append k50 (w0 := w) w.heap.size rfl (.tmp 34) (.tmp 36) 22 50 (.agg #[(.slice none 0 0), (.bool false), (.int .i64 0), (.int .i64 0)]) 48 rfl Try.underlying22 info50 rfl (by decide) (by omega) u472000 x472000_1 (⟨t483, (rd_T50 l0_0 x4_1).f1, (rd_T50 l0_0 x4_1).f2, (rd_T50 l0_0 x4_1).f3⟩ : S50) [.slice Ao36 t483.length co36, .bool ((rd_T50 l0_0 x4_1).f1), .int .i64 ((rd_T50 l0_0 x4_1).f2), .int .i64 ((rd_T50 l0_0 x4_1).f3)] (fun k_ => some k_ ≠ (.slice Ao21 t478.length co21 : Value).ownBlock ∧ k_ ≠ gb482) (fun k_ => some k_ = (.slice Ao36 t483.length co36 : Value).ownBlock) rfl rfl ?aP (fun k_ hk_ => ((Kd.R_mono (ok' := fun k_ => ((fun k_ => some k_ ≠ (.slice Ao21 t478.length co21 : Value).ownBlock ∧ k_ ≠ gb482)) k_ ∧ some k_ ≠ (u472000 : Value).ownBlock) (Kd.R_types (Kd.R_apart' (HO485.out) (Kd.S_typed HO_472000.out) (by decide)) BK482.out (by decide)) (fun k_ hk => ⟨⟨hk.1.1, hk.2⟩, hk.1.2⟩))).1 k_ hk_.symm) ?aF ?aO ?aB ?aS ?aL ?_; (case aP => exact k50_mkM _ _ _ (⟨t483, (rd_T50 l0_0 x4_1).f1, (rd_T50 l0_0 x4_1).f2, (rd_T50 l0_0 x4_1).f3⟩ : S50) (Kd.R_mono (Kd.R_tight rfl (Kd.R_mono (ok' := fun k_ => ((fun k_ => some k_ ≠ (.slice Ao21 t478.length co21 : Value).ownBlock ∧ k_ ≠ gb482)) k_ ∧ some k_ ≠ (u472000 : Value).ownBlock) (Kd.R_types (Kd.R_apart' (HO485.out) (Kd.S_typed HO_472000.out) (by decide)) BK482.out (by decide)) (fun k_ hk => ⟨⟨hk.1.1, hk.2⟩, hk.1.2⟩))) (fun _ h_ => h_))); (case aB => exact (by exact below_y HB.out)); (case aF => exact (fun k_ hk => ⟨Kd.fresh' (Kd.R_lt (Kd.R_x HO_472004.out)) k_ hk, Kd.freshB (g := gb482) (o := .cells #[.slice Ao36 t483.length co36, .bool ((rd_T50 l0_0 x4_1).f1), .int .i64 ((rd_T50 l0_0 x4_1).f2), .int .i64 ((rd_T50 l0_0 x4_1).f3)] 50 (0, 0)) (blk_x BK482.out) k_ hk⟩)); (case aO => exact (by (with_reducible repeat (first | apply Kd.S_alloc | apply Kd.S_drewN | apply Kd.S_drew)); exact Kd.S_mono HO_472000.out (fun k_ hk => ⟨⟨hk.1, hk.2.2⟩, fun e_ => hk.2.1 e_⟩))); (case aS => exact (below_size (by exact below_y HB.out))); (case aL => have := LMc26.out; omega); intro v487 w42 ho hb hg hat; rw [← Ny486.out] at ho; replace HO_472002 := Aside0.mk (Kd.R_over' (Kd.R_x HO_472002.out) (Kd.S_typed (Kd.S_x HO_472000.out)) (by decide) hg); replace HO_472004 := Aside0.mk (Kd.R_over' (Kd.R_x HO_472004.out) (Kd.S_typed (Kd.S_x HO_472000.out)) (by decide) hg); replace BK469 := Aside0.mk (blk_grown (blk_x BK469.out) hg (Kd.S_ne HO_472000.out BK469.out (by decide))); replace BK470 := Aside0.mk (blk_grown (blk_x BK470.out) hg (Kd.S_ne HO_472000.out BK470.out (by decide))); replace BK471 := Aside0.mk (blk_grown (blk_x BK471.out) hg (Kd.S_ne HO_472000.out BK471.out (by decide))); replace BK482 := Aside0.mk (blk_grown (blk_x BK482.out) hg (Kd.S_away HO_472000.out (fun _ hk => hk.2.2))); replace HB := Aside0.mk (hb); have HO488 := Aside0.mk (ho); clear HO_472000 HO485; clear ho hb hg hat; obtain ⟨Ao43, co43, eo43⟩ := Kd.S_slice HO488.out; subst eo43; obtain ⟨_, _, _, _, _⟩ := cz5 BK471; have hfz44_0 := blk_frozen BK471.out))
       go_roundg k1
       case measure => have := HK1.out; omega
       case rel => exact ⟨(wrap64 (x4_1 + 1)), (y486), (.slice Ao43 y486.length co43), (by first | rfl | (simp; done) | (simp [*]; done)), H', ⟨by have := HK1.out; omega⟩, ⟨by (with_reducible repeat (first | apply Kd.S_alloc | apply Kd.S_drewN | apply Kd.S_drew)); exact Kd.S_mono (Kd.S_far (p := ⟨gb471, 0, none⟩) (Kd.S_types HO488.out BK471.out (by decide)) (fun _ hk => hk.2) (.slice Ao43 y486.length co43)) (fun _ hk => hk.1.1)⟩, ⟨by (with_reducible repeat (first | apply Kd.R_alloc | apply Kd.R_drewN | apply Kd.R_drew)); exact Kd.R_mono (Kd.R_far (p := ⟨gb471, 0, none⟩) (Kd.R_types HO_472002.out BK471.out (by decide)) (fun _ hk => hk.2) (.slice Ao43 y486.length co43)) (fun _ hk => trivial)⟩, ⟨by (with_reducible repeat (first | apply Kd.R_alloc | apply Kd.R_drewN | apply Kd.R_drew)); exact Kd.R_mono (Kd.R_far (p := ⟨gb471, 0, none⟩) (Kd.R_types HO_472004.out BK471.out (by decide)) (fun _ hk => hk.2) (.slice Ao43 y486.length co43)) (fun _ hk => trivial)⟩, ⟨blk_w BK469.out⟩, ⟨blk_w BK470.out⟩, ⟨by (with_reducible repeat (first | refine blk_drewN ?_ _ | refine blk_drew ?_ | refine blk_alloc ?_ _)); refine blk_put (cs := #[u472000, .int .i64 a0_1, .slice Ao19 y475.length co19, .int .i64 a0_3, .slice Ao21 t478.length co21]) ?_ 0 _ rfl; (with_reducible repeat (first | refine blk_drewN ?_ _ | refine blk_drew ?_ | refine blk_alloc ?_ _)); exact BK471.out⟩, ⟨by exact below_y HB.out⟩⟩
      ·
       rw [if_neg c26] at H
       exact absurd H (by simp)
     ·
      rw [if_neg c24] at H
      exact absurd H (by simp)
    ·
     rw [if_neg c23] at H
     have c23b0 : decide (x4_1 < (l0_0.length : Int)) = false := decide_eq_false c23
     clear c23
     simp only [Option.some.injEq, Prod.mk.injEq] at H
     obtain ⟨rfl, rfl, rfl, rfl, rfl⟩ := H
     have hnb45 := NB469_470.out
     have hnc45 := NB470_469.out
     have hnb46 := NB469_471.out
     have hnc46 := NB471_469.out
     obtain ⟨_, _, _, _, _⟩ := cz5 BK469
     have hfz47_0 := blk_frozen BK469.out
     have hnb48 := NB471_470.out
     have hnc48 := NB470_471.out
     obtain ⟨_, _, _, _, _⟩ := cz5 BK471
     have hfz49_0 := blk_frozen BK471.out
     obtain ⟨Ao50, co50, eo50⟩ := Kd.S_slice HO_472000.out
     subst eo50
     obtain ⟨_, _, _, _, _⟩ := cz5 BK470
     have hfz51_0 := blk_frozen BK470.out
     go_wp2
     refine bodyPost_ret (results_cell_row rfl _ _ gb470 26 #[.slice Ao50 x472000_1.length co50, .int .i64 a0_1, .slice Ao19 y475.length co19, .int .i64 a0_3, .slice Ao21 t478.length co21] (0, 0) _ rfl (by (with_reducible repeat (first | refine blk_drewN ?_ _ | refine blk_drew ?_ | refine blk_alloc ?_ _)); refine blk_put (cs := #[.slice Ao50 x472000_1.length co50, .int .i64 a0_1, .slice Ao19 y475.length co19, .int .i64 a0_3, .slice none 0 0]) ?_ 4 _ rfl; (with_reducible repeat (first | refine blk_drewN ?_ _ | refine blk_drew ?_ | refine blk_alloc ?_ _)); refine blk_put (cs := #[.slice Ao50 x472000_1.length co50, .int .i64 a0_1, .slice Ao19 y475.length co19, .int .i64 0, .slice none 0 0]) ?_ 3 _ rfl; (with_reducible repeat (first | refine blk_drewN ?_ _ | refine blk_drew ?_ | refine blk_alloc ?_ _)); refine blk_put (cs := #[.slice Ao50 x472000_1.length co50, .int .i64 a0_1, .slice none 0 0, .int .i64 0, .slice none 0 0]) ?_ 2 _ rfl; (with_reducible repeat (first | refine blk_drewN ?_ _ | refine blk_drew ?_ | refine blk_alloc ?_ _)); refine blk_put (cs := #[.slice Ao50 x472000_1.length co50, .int .i64 0, .slice none 0 0, .int .i64 0, .slice none 0 0]) ?_ 1 _ rfl; (with_reducible repeat (first | refine blk_drewN ?_ _ | refine blk_drew ?_ | refine blk_alloc ?_ _)); refine blk_put (cs := #[.slice none 0 0, .int .i64 0, .slice none 0 0, .int .i64 0, .slice none 0 0]) ?_ 0 _ rfl; (with_reducible repeat (first | refine blk_drewN ?_ _ | refine blk_drew ?_ | refine blk_alloc ?_ _)); exact BK470.out) Try.underlying26 rfl (by kernel_rfl)) rfl ?_
     exact ⟨_, _, _, by first | rfl | (simp [errW_none, errW_some] <;> rfl) | (simp [*, errW_none, errW_some] <;> rfl), by (with_reducible repeat (first | apply Kd.S_alloc | apply Kd.S_drewN | apply Kd.S_drew)); exact Kd.S_mono (Kd.S_far (p := ⟨gb470, 4, none⟩) (Kd.S_far (p := ⟨gb470, 3, none⟩) (Kd.S_far (p := ⟨gb470, 2, none⟩) (Kd.S_far (p := ⟨gb470, 1, none⟩) (Kd.S_far (p := ⟨gb470, 0, none⟩) (Kd.S_types HO_472000.out BK470.out (by decide)) (fun _ hk => hk.2) (.slice Ao50 x472000_1.length co50)) (fun _ hk => hk.2) (.int .i64 a0_1)) (fun _ hk => hk.2) (.slice Ao19 y475.length co19)) (fun _ hk => hk.2) (.int .i64 a0_3)) (fun _ hk => hk.2) (.slice Ao21 t478.length co21)) (fun _ hk => hk.1), by (with_reducible repeat (first | apply Kd.R_alloc | apply Kd.R_drewN | apply Kd.R_drew)); exact Kd.R_mono (Kd.R_far (p := ⟨gb470, 4, none⟩) (Kd.R_far (p := ⟨gb470, 3, none⟩) (Kd.R_far (p := ⟨gb470, 2, none⟩) (Kd.R_far (p := ⟨gb470, 1, none⟩) (Kd.R_far (p := ⟨gb470, 0, none⟩) (Kd.R_types HO_472002.out BK470.out (by decide)) (fun _ hk => hk.2) (.slice Ao50 x472000_1.length co50)) (fun _ hk => hk.2) (.int .i64 a0_1)) (fun _ hk => hk.2) (.slice Ao19 y475.length co19)) (fun _ hk => hk.2) (.int .i64 a0_3)) (fun _ hk => hk.2) (.slice Ao21 t478.length co21)) (fun _ hk => trivial), by (with_reducible repeat (first | apply Kd.R_alloc | apply Kd.R_drewN | apply Kd.R_drew)); exact Kd.R_mono (Kd.R_far (p := ⟨gb470, 4, none⟩) (Kd.R_far (p := ⟨gb470, 3, none⟩) (Kd.R_far (p := ⟨gb470, 2, none⟩) (Kd.R_far (p := ⟨gb470, 1, none⟩) (Kd.R_far (p := ⟨gb470, 0, none⟩) (Kd.R_types HO_472004.out BK470.out (by decide)) (fun _ hk => hk.2) (.slice Ao50 x472000_1.length co50)) (fun _ hk => hk.2) (.int .i64 a0_1)) (fun _ hk => hk.2) (.slice Ao19 y475.length co19)) (fun _ hk => hk.2) (.int .i64 a0_3)) (fun _ hk => hk.2) (.slice Ao21 t478.length co21)) (fun _ hk => trivial), by exact below_y HB.out⟩
 ·
  rw [if_neg c2] at H
  exact absurd H (by simp)
end Go.Proofs.Ytkkmfcdikkiodaa.PC4
