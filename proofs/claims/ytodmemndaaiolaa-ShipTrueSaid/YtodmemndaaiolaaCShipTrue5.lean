/- Lemmas on the way to this: whatever truly is -/
import Derived.Test.YtodmemndaaiolaaCShipTrue1
import Derived.Test.YtodmemndaaiolaaCShipTrue2
import Derived.Test.YtodmemndaaiolaaCShipTrue3
namespace Go.Proofs.Ytodmemndaaiolaa.PC7
open Go.RowKit Go.Proofs.YtodmemndaaiolaaW.PrintWords Go.Proofs.YtodmemndaaiolaaW.PrintLast Go.Proofs.YtodmemndaaiolaaW.PrintMore
attribute [local go_sem] max2_int min2_int max_two min_two max_three min_three max_four min_four
set_option linter.unusedVariables false
set_option linter.unusedSimpArgs false
mutual
def swarfkit_StowageOf.l0 : Nat → List Int → List Int → Int → Int → Int → Int → Int → List (S85) → Int → List (S59) → List (S79) → Option (List Int × Int)
 | 0, _, _, _, _, _, _, _, _, _, _, _ => none
 | k + 1, x5, x6, x7, x1000, x363000, x363001, x363002, x363003, x363004, x363005, x363006 => if x7 < (x363006.length : Int) then ((swarfkit_Feed_Between.f x1000 (-1) (wrap64 ((x363003.length : Int) - 1))).bind fun bt366 => (if bt366.1 ≥ 0 then (if 0 ≤ bt366.1 then (if bt366.1 < (x6.length : Int) then (if 0 ≤ x7 then (if bt366.1 < (x363003.length : Int) then (swarfkit_StowageOf.j1 k x5 x6 x7 bt366.1 (decide ((wrap64 ((rd x6 bt366.1) + ((rd_T79 x363006 x7).f0.f1))) > ((rd_T85 x363003 bt366.1).f0))) bt366.2 x363000 x363001 x363002 x363003 x363004 x363005 x363006) else (none)) else (none)) else (none)) else (none)) else (swarfkit_StowageOf.j1 k x5 x6 x7 bt366.1 false bt366.2 x363000 x363001 x363002 x363003 x363004 x363005 x363006))) else (some (x5, x1000))
def swarfkit_StowageOf.j1 : Nat → List Int → List Int → Int → Int → Bool → Int → Int → Int → Int → List (S85) → Int → List (S59) → List (S79) → Option (List Int × Int)
 | 0, _, _, _, _, _, _, _, _, _, _, _, _, _ => none
 | k + 1, x5, x6, x7, x8, x48, x1000, x363000, x363001, x363002, x363003, x363004, x363005, x363006 => if x48 = true then (if (-1) ≥ 0 then (if 0 ≤ (-1) then (if (-1) < (x6.length : Int) then (if 0 ≤ x7 then (if x7 < (x363006.length : Int) then (if x5.length < 17592186044416 then (swarfkit_StowageOf.l0 k (x5 ++ [(-1)]) (x6.set ((-1) : Int).toNat (wrap64 ((rd x6 (-1)) + ((rd_T79 x363006 x7).f0.f1)))) (wrap64 (x7 + 1)) x1000 x363000 x363001 x363002 x363003 x363004 x363005 x363006) else (none)) else (none)) else (none)) else (none)) else (none)) else (if x5.length < 17592186044416 then (swarfkit_StowageOf.l0 k (x5 ++ [(-1)]) x6 (wrap64 (x7 + 1)) x1000 x363000 x363001 x363002 x363003 x363004 x363005 x363006) else (none))) else (if x8 ≥ 0 then (if 0 ≤ x8 then (if x8 < (x6.length : Int) then (if 0 ≤ x7 then (if x7 < (x363006.length : Int) then (if x5.length < 17592186044416 then (swarfkit_StowageOf.l0 k (x5 ++ [x8]) (x6.set (x8 : Int).toNat (wrap64 ((rd x6 x8) + ((rd_T79 x363006 x7).f0.f1)))) (wrap64 (x7 + 1)) x1000 x363000 x363001 x363002 x363003 x363004 x363005 x363006) else (none)) else (none)) else (none)) else (none)) else (none)) else (if x5.length < 17592186044416 then (swarfkit_StowageOf.l0 k (x5 ++ [x8]) x6 (wrap64 (x7 + 1)) x1000 x363000 x363001 x363002 x363003 x363004 x363005 x363006) else (none)))
end
def swarfkit_StowageOf.f (k : Nat) (s0_0 : Int) (a1_0 : Int) (a1_1 : Int) (a1_2 : Int) (l1_3 : List (S85)) (a1_4 : Int) (l1_5 : List (S59)) (l1_6 : List (S79)) : Option (List Int × Int) := if 0 ≤ (l1_3.length : Int) then (if ((l1_3.length : Int) : Int).toNat ≤ 35184372088832 then (swarfkit_StowageOf.l0 k ([] : List Int) (List.replicate ((l1_3.length : Int) : Int).toNat 0) 0 s0_0 a1_0 a1_1 a1_2 l1_3 a1_4 l1_5 l1_6) else (none)) else (none)
def swarfkit_StowageOf.T7 : Bool × List (List Nat × List Nat) := (true, [([], []), ([0], [0]), ([1], [1]), ([2], [2]), ([2], [2]), ([3, 4, 2], [2, 3, 4]), ([5, 2], [2, 5]), ([2], [2]), ([7, 2], [2, 7]), ([2], [2]), ([8, 9, 2], [2, 8, 9]), ([10, 2], [2, 10]), ([11, 2], [2, 11]), ([12, 2], [2, 12]), ([6, 13, 2], [2, 6, 13]), ([2], [2]), ([15, 2], [2, 15]), ([2], [2]), ([16, 17, 2], [2, 16, 17]), ([18, 2], [2, 18]), ([19, 2], [2, 19]), ([14, 20, 2], [2, 14, 20]), ([2, 21], [2, 21])])
def swarfkit_StowageOf.B7 : List Nat := [0, 1, 3, 7, 7, 31, 63, 7, 135, 7, 903, 1927, 3975, 8071, 16383, 7, 32775, 7, 229383, 491527, 1015815, 2097151, 4194303]
theorem swarfkit_StowageOf.tab7 : rtab .any (opsOf Try.f19 7) = swarfkit_StowageOf.T7 := by kernel_rfl
theorem swarfkit_StowageOf.bits7 : waitsOk swarfkit_StowageOf.T7.2 swarfkit_StowageOf.B7 = true := by kernel_rfl
def swarfkit_StowageOf.T10 : Bool × List (List Nat × List Nat) := (true, [([], []), ([], []), ([], []), ([], []), ([2, 3], [2, 3]), ([4], [4]), ([], []), ([6], [6]), ([], []), ([7, 8], [7, 8]), ([9], [9]), ([10], [10]), ([11], [11]), ([5, 12], [5, 12]), ([0, 1, 0, 1, 2, 3, 4, 5, 6, 7, 8, 9, 10, 11, 12, 13], [0, 1]), ([14, 13, 0, 1, 2, 3, 4, 5, 6, 7, 8, 9, 10, 11, 12, 13], [13, 14])])
def swarfkit_StowageOf.B10 : List Nat := [0, 0, 0, 0, 12, 28, 0, 64, 0, 448, 960, 1984, 4032, 8188, 16383, 32767]
theorem swarfkit_StowageOf.tab10 : rtab .any (opsOf Try.f19 10) = swarfkit_StowageOf.T10 := by kernel_rfl
theorem swarfkit_StowageOf.bits10 : waitsOk swarfkit_StowageOf.T10.2 swarfkit_StowageOf.B10 = true := by kernel_rfl
set_option maxHeartbeats 8000000 in
set_option maxRecDepth 100000 in
theorem swarfkit_StowageOf.calls (k : Nat) (g : Nat) (s0_0 : Int) (a1_0 : Int) (a1_1 : Int) (a1_2 : Int) (A1_3 : Option Addr) (c1_3 : Nat) (l1_3 : List (S85)) (a1_4 : Int) (A1_5 : Option Addr) (c1_5 : Nat) (l1_5 : List (S59)) (A1_6 : Option Addr) (c1_6 : Nat) (l1_6 : List (S79)) (r1 : List Int) (r2 : Int) (w0 w : World) (hI : IsS90 w0 w g s0_0) (hB : Below w0.heap.size w0 w) (hr1_3 : ∀ W_, KeepBut w W_ g none → Kd.C k85 W_ A1_3 l1_3.length l1_3) (hc1_3 : l1_3.length ≤ c1_3) (hr1_5 : ∀ W_, KeepBut w W_ g none → Kd.C k59 W_ A1_5 l1_5.length l1_5) (hc1_5 : l1_5.length ≤ c1_5) (hr1_6 : ∀ W_, KeepBut w W_ g none → Kd.C k79 W_ A1_6 l1_6.length l1_6) (hc1_6 : l1_6.length ≤ c1_6) (h : swarfkit_StowageOf.f k s0_0 a1_0 a1_1 a1_2 l1_3 a1_4 l1_5 l1_6 = some (r1, r2)) :
  Calls Try.prog 19 #[.pointer (some ⟨g, 0, none⟩), .agg #[.int .i64 a1_0, .int .i64 a1_1, .int .i64 a1_2, .slice A1_3 l1_3.length c1_3, .int .i64 a1_4, .slice A1_5 l1_5.length c1_5, .slice A1_6 l1_6.length c1_6]] w fun e w' => ∃ v0_ : Value, e = .returned (v0_) ∧ Kd.R (Kd.int .i64) 3 w' w.heap.size (fun _ => True) v0_ r1 ∧ IsS90 w0 w' g r2 ∧ Below w0.heap.size w0 w' ∧ KeepBut w w' g none := by
 have hu26 := Try.underlying26
 have HR1_3 := Aside0.mk hr1_3
 have HC1_3 := Aside0.mk hc1_3
 clear hr1_3 hc1_3
 have HR1_5 := Aside0.mk hr1_5
 have HC1_5 := Aside0.mk hc1_5
 clear hr1_5 hc1_5
 have HR1_6 := Aside0.mk hr1_6
 have HC1_6 := Aside0.mk hc1_6
 clear hr1_6 hc1_6
 have HI0 := Aside0.mk hI
 have HK := Aside0.mk (KeepBut.refl w g none)
 have HL := Aside0.mk hB.size
 clear hI
 have HW0 := Aside0.mk hB.size
 have HB := Aside0.mk hB
 clear hB
 have H : (if 0 ≤ (l1_3.length : Int) then (if ((l1_3.length : Int) : Int).toNat ≤ 35184372088832 then (swarfkit_StowageOf.l0 k ([] : List Int) (List.replicate ((l1_3.length : Int) : Int).toNat 0) 0 s0_0 a1_0 a1_1 a1_2 l1_3 a1_4 l1_5 l1_6) else (none)) else (none)) = some (r1, r2) := h
 clear h
 by_cases c3 : 0 ≤ (l1_3.length : Int)
 ·
  rw [if_pos c3] at H
  have c3b0 := eq_true c3
  have c3b1 : decide (0 ≤ (l1_3.length : Int)) = true := decide_eq_true c3
  clear c3
  by_cases c4 : ((l1_3.length : Int) : Int).toNat ≤ 35184372088832
  ·
   rw [if_pos c4] at H
   have c4b0 := eq_true c4
   have c4b1 : decide (((l1_3.length : Int) : Int).toNat ≤ 35184372088832) = true := decide_eq_true c4
   clear c4
   obtain ⟨y363, hy363⟩ : ∃ y_ : List Int, y_ = (List.replicate ((l1_3.length : Int) : Int).toNat 0) := ⟨_, rfl⟩
   replace H : (swarfkit_StowageOf.l0 k ([] : List Int) y363 0 s0_0 a1_0 a1_1 a1_2 l1_3 a1_4 l1_5 l1_6) = some (r1, r2) := by first | (rw [hy363]; with_reducible exact H) | (have H2_ := (Option.bind_some _ _).symm.trans H; rw [hy363]; with_reducible exact H2_) | (have H2_ := (Option.bind_some _ _).symm.trans H; with_reducible exact H2_) | with_reducible exact H | (rw [hy363]; exact H) | exact H
   have Ny363 := Aside0.mk hy363
   clear hy363
   have H' := Aside0.mk H
   clear H
   go_enter Try.func19, Try.ntmps19
   go_wp2_with (first | ((with_reducible refine gate_dst (N := 3) rfl ?_); refine box_event ?hg (N := 3) ?hd (cs := #[.int .i64 a1_0, .int .i64 a1_1, .int .i64 a1_2, .slice A1_3 l1_3.length c1_3, .int .i64 a1_4, .slice A1_5 l1_5.length c1_5, .slice A1_6 l1_6.length c1_6]) (t := 26) ?hr ?_; (case hd => rfl); (case hg => rfl); (case hr => first | (go_simp; done) | (go_simp; rfl)); intro gb362 hg w5 hbox hb; replace HB := bl_x HB hb; have BK362 := Aside0.mk (hbox); have GW362 := Aside0.mk ((by rw [hg]; exact (keep_size (w := w) (g := g) (row := none) (by exact keep_y HK.out)) : w.heap.size ≤ gb362)); have GE362 := Aside0.mk ((Nat.le_trans HW0.out (by rw [hg]; exact (keep_size (w := w) (g := g) (row := none) (by exact keep_y HK.out)) : w.heap.size ≤ gb362) : w0.heap.size ≤ gb362)); replace HK := Aside0.mk (KeepBut.trans (by exact keep_y HK.out) (KeepBut.of_below hb g none) (.inl rfl)); have NB0_362 := Aside0.mk ((by rw [hg]; exact Nat.ne_of_lt (IsS90.lt (show IsS90 w0 _ g s0_0 from by exact IsS90.up HI0.out)) : g ≠ gb362)); have NB362_0 := Aside0.mk ((by rw [hg]; exact Nat.ne_of_gt (IsS90.lt (show IsS90 w0 _ g s0_0 from by exact IsS90.up HI0.out)) : gb362 ≠ g)); replace HI0 := Aside0.mk (IsS90.below (by exact IsS90.up HI0.out) hb); clear hb hbox hg; have hnb6 := NB362_0.out; have hnc6 := NB0_362.out; obtain ⟨_, _, _, _, _, _, _⟩ := cz7 BK362; have hfz7_0 := blk_frozen BK362.out) | ((with_reducible refine gate_dst (N := 12) rfl ?_); refine Kd.R_make (Kd.int .i64) _ 3 rfl (N := 12) rfl 27 _ _ rfl (l1_3.length : Int) rfl rfl Try.underlying27 (.int .i64 0) 8 info3 rfl (by decide) (by omega) 0 (ok := fun _ => True) (okp := fun _ => True) rfl (fun _ hk => hk) trivial (of_x) (Nat.le_trans (Nat.mul_le_mul_right _ (of_x : (l1_3.length : Int).toNat ≤ 35184372088832)) (by omega)) (Below.refl _ _) (Nat.le_refl _) ?_; intro v364 w8 ho9 hb hg_ hnew_; clear hg_ hnew_; (first | rw [← Ny363.out] at ho9 | (simp only [Int.reduceToNat] at ho9; rw [← Ny363.out] at ho9)); have HO365 := Aside0.mk (Kd.R_lower ho9 (keep_size (w := w) (g := g) (row := none) (by exact keep_y HK.out))); replace HI0 := Aside0.mk (IsS90.below (by exact IsS90.up HI0.out) hb); replace BK362 := Aside0.mk (blk_below (blk_x BK362.out) hb); replace HK := Aside0.mk (KeepBut.trans (by exact keep_y HK.out) (KeepBut.of_below hb g none) (.inl rfl)); replace HB := bl_x HB hb; clear hb ho9))
   go_loopg [5, 7] k (fun kq v5 v7 w' => ∃ (x5_1 : List Int) (x6_1 : List Int) (x7_1 : Int) (x1000_1 : Int), v7 = .int .i64 x7_1 ∧ Aside0 (swarfkit_StowageOf.l0 kq x5_1 x6_1 x7_1 x1000_1 a1_0 a1_1 a1_2 l1_3 a1_4 l1_5 l1_6 = some (r1, r2)) ∧ Aside0 (kq ≤ k) ∧ Aside0 (Kd.R (Kd.int .i64) 3 w' w.heap.size (fun k_ => some k_ ≠ (v364 : Value).ownBlock) v5 x5_1) ∧ Aside0 (Kd.R (Kd.int .i64) 3 w' w.heap.size (fun k_ => some k_ ≠ (v5 : Value).ownBlock) v364 x6_1) ∧ Aside0 (w'.heap[gb362]? = some (.cells #[.int .i64 a1_0, .int .i64 a1_1, .int .i64 a1_2, (.slice A1_3 l1_3.length c1_3), .int .i64 a1_4, (.slice A1_5 l1_5.length c1_5), (.slice A1_6 l1_6.length c1_6)] 26 (0, 0))) ∧ Aside0 (IsS90 w0 w' g x1000_1) ∧ Aside0 (KeepBut w w' g none) ∧ Aside0 (Below w0.heap.size w0 w'))
   case atStart => exact ⟨(([] : List Int)), (y363), (0), (s0_0), (by first | rfl | (simp; done) | (simp [*]; done)), H', ⟨Nat.le_refl _⟩, ⟨by first | exact Kd.R_nil _ _ _ _ _ | exact Kd.N_nil _ _ _ _ _ | exact Kd.V_nil _ _ _ _ _ | exact Kd.Q_nil _ _ _ _ _ | exact Kd.S_nil _ _ _ _ _⟩, ⟨by (with_reducible repeat (first | apply Kd.R_alloc | apply Kd.R_drewN | apply Kd.R_drew)); exact Kd.R_mono HO365.out (fun _ hk => (by simp [Value.ownBlock]))⟩, ⟨blk_x BK362.out⟩, ⟨by exact IsS90.up HI0.out⟩, ⟨by exact keep_y HK.out⟩, ⟨by exact below_y HB.out⟩⟩
   case round =>
    clear H'
    obtain ⟨x5_1, x6_1, x7_1, x1000_1, rfl, HA, HK1, HO_5, HO_6, BK362, HI0, HK, HB⟩ := hrel
    cases gk with
    | zero => exact absurd HA.out (by simp [swarfkit_StowageOf.l0])
    | succ k1 =>
     have H := HA.out
     clear HA
     simp only [swarfkit_StowageOf.l0] at H
     by_cases c10 : x7_1 < (l1_6.length : Int)
     ·
      rw [if_pos c10] at H
      have c10b0 : decide (x7_1 < (l1_6.length : Int)) = true := decide_eq_true c10
      clear c10
      replace H := Option.bind_eq_some_iff.mp H
      obtain ⟨⟨t366, t367⟩, A110, H⟩ := H
      try dsimp only at H
      have A11 := Aside0.mk A110
      clear A110
      have HC12 := Aside0.mk H
      clear H
      have hnb13 := NB362_0.out
      have hnc13 := NB0_362.out
      obtain ⟨_, _, _, _, _, _, _⟩ := cz7 BK362
      have hfz14_0 := blk_frozen BK362.out
      go_upto_region 7 with (first | ((with_reducible refine gate_callee (f := 31) rfl ?_); refine goesL_ (some 25) rfl rfl Try.func31 (by kernel_rfl) rfl #[.pointer (some ⟨g, 0, none⟩), .int .i64 (-1), .int .i64 (wrap64 ((l1_3.length : Int) - 1))] rfl (by (try simp only [List.map_toArray, List.map_cons, List.map_nil]); first | done | rfl | (simp only [List.length_drop, List.length_take]; rfl)) ?_; (with_reducible refine (swarfkit_Feed_Between.calls g x1000_1 (-1) (wrap64 ((l1_3.length : Int) - 1)) t366 t367 w0 _ ?side1 ?side2 A11.out).mono ?_); (case side1 => exact IsS90.up HI0.out); (case side2 => exact below_y HB.out); rintro e w15 ⟨rfl, hi, hb, hk⟩; refine ⟨_, rfl, ?_⟩; replace HO_5 := Aside0.mk (Kd.R_mono (Kd.R_keep (IsS90.apart (show IsS90 w0 _ g x1000_1 from by exact IsS90.up HI0.out) (Kd.R_x HO_5.out) (by decide)) hk (fun _ h => h.2)) (fun _ h => h.1)); replace HO_6 := Aside0.mk (Kd.R_mono (Kd.R_keep (IsS90.apart (show IsS90 w0 _ g x1000_1 from by exact IsS90.up HI0.out) (Kd.R_x HO_6.out) (by decide)) hk (fun _ h => h.2)) (fun _ h => h.1)); replace BK362 := Aside0.mk (KeepBut.blk hk (blk_x BK362.out) NB362_0.out (by simp)); replace HK := Aside0.mk (KeepBut.trans (by exact keep_y HK.out) hk (.inl rfl)); replace HB := Aside0.mk (hb); replace HI0 := Aside0.mk (hi); (try clear hb); (try clear hk); (try clear hi)))
      (try simp only [Act.put, put_x])
      go_cut [48] (fun v48 wc => ∃ (kq : Nat) (x48_11 : Bool), v48 = .bool x48_11 ∧ Aside0 (swarfkit_StowageOf.j1 kq x5_1 x6_1 x7_1 t366 x48_11 t367 a1_0 a1_1 a1_2 l1_3 a1_4 l1_5 l1_6 = some (r1, r2)) ∧ Aside0 (kq ≤ k1) ∧ Aside0 (Kd.R (Kd.int .i64) 3 wc w.heap.size (fun k_ => some k_ ≠ (v364 : Value).ownBlock) u5 x5_1) ∧ Aside0 (Kd.R (Kd.int .i64) 3 wc w.heap.size (fun k_ => some k_ ≠ (u5 : Value).ownBlock) v364 x6_1) ∧ Aside0 (wc.heap[gb362]? = some (.cells #[.int .i64 a1_0, .int .i64 a1_1, .int .i64 a1_2, (.slice A1_3 l1_3.length c1_3), .int .i64 a1_4, (.slice A1_5 l1_5.length c1_5), (.slice A1_6 l1_6.length c1_6)] 26 (0, 0))) ∧ Aside0 (IsS90 w0 wc g t367) ∧ Aside0 (KeepBut w wc g none) ∧ Aside0 (Below w0.heap.size w0 wc))
      case first =>
       have H := HC12.out
       clear HC12
       by_cases c16 : t366 ≥ 0
       ·
        rw [if_pos c16] at H
        have c16b0 : decide (0 ≤ t366) = true := decide_eq_true c16
        clear c16
        (first | rw [c16b0] | (simp only [i64_w, i32_w]; rw [c16b0]) | skip)
        by_cases c17 : 0 ≤ t366
        ·
         rw [if_pos c17] at H
         have c17b0 : decide (0 ≤ t366) = true := decide_eq_true c17
         clear c17
         by_cases c18 : t366 < (x6_1.length : Int)
         ·
          rw [if_pos c18] at H
          have c18b0 : decide (t366 < (x6_1.length : Int)) = true := decide_eq_true c18
          clear c18
          by_cases c19 : 0 ≤ x7_1
          ·
           rw [if_pos c19] at H
           have c19b0 : decide (0 ≤ x7_1) = true := decide_eq_true c19
           clear c19
           by_cases c20 : t366 < (l1_3.length : Int)
           ·
            rw [if_pos c20] at H
            have c20b0 : decide (t366 < (l1_3.length : Int)) = true := decide_eq_true c20
            clear c20
            have H' := Aside0.mk H
            clear H
            try go_wp2
            replace HO_5 := Aside0.mk (Kd.R_drew HO_5.out)
            replace HO_6 := Aside0.mk (Kd.R_drew HO_6.out)
            replace BK362 := Aside0.mk (blk_drew BK362.out)
            replace HI0 := Aside0.mk (IsS90.drew HI0.out)
            replace HK := Aside0.mk (keep_drew HK.out)
            replace HB := Aside0.mk (below_drew1 HB.out)
            obtain ⟨Ao22, co22, eo22⟩ := Kd.R_slice HO_6.out
            (first | subst eo22 | (injection eo22 with f1_ f2_ f3_; have f4_ := f1_.symm; have f5_ := f3_.symm; clear f1_ f2_ f3_; subst f4_; subst f5_))
            have p368 : 0 ≤ (t366 : Int) := of_x
            have q368 : t366 < (x6_1.length : Int) := of_x
            obtain ⟨ad368, e368, hx368_0⟩ := Kd.at_int (Kd.R_reads' HO_6.out).2.2 t366 p368 q368
            cases e368
            replace p368 := eq_true p368
            replace q368 := eq_true q368
            have p369 : 0 ≤ (x7_1 : Int) := of_x
            have q369 : x7_1 < (l1_6.length : Int) := of_x
            obtain ⟨ad369, e369, hx369_0, hx369_1, hx369_2⟩ := at_T79 (Kd.C_foot_now HR1_6.out HK.out) x7_1 p369 q369
            have hw369_2 := hx369_2
            have hw369_1 := hx369_1
            have hw369_0 := hx369_0
            cases e369
            have hne369_2 := (show (⟨(ad369.add ((x7_1).toNat * 3)).block, (ad369.add ((x7_1).toNat * 3)).off + 2, none⟩ : Addr).block ≠ g from by first | (rw [add_block]; exact Kd.foot_ne HR1_6.out (by omega) (by decide)) | (show (Addr.add _ _).block ≠ _; rw [add_block]; exact Kd.foot_ne HR1_6.out (by omega) (by decide)) | exact Kd.foot_ne HR1_6.out (by omega) (by decide) | (dsimp only; exact Kd.foot_ne HR1_6.out (by omega) (by decide)))
            have hlt369_2 := (Kd.foot_lt HR1_6.out (by omega) (by decide))
            have hne369_1 := (show (⟨(ad369.add ((x7_1).toNat * 3)).block, (ad369.add ((x7_1).toNat * 3)).off + 1, none⟩ : Addr).block ≠ g from by first | (rw [add_block]; exact Kd.foot_ne HR1_6.out (by omega) (by decide)) | (show (Addr.add _ _).block ≠ _; rw [add_block]; exact Kd.foot_ne HR1_6.out (by omega) (by decide)) | exact Kd.foot_ne HR1_6.out (by omega) (by decide) | (dsimp only; exact Kd.foot_ne HR1_6.out (by omega) (by decide)))
            have hlt369_1 := (Kd.foot_lt HR1_6.out (by omega) (by decide))
            have hne369_0 := (show ((ad369.add ((x7_1).toNat * 3)) : Addr).block ≠ g from by first | (rw [add_block]; exact Kd.foot_ne HR1_6.out (by omega) (by decide)) | (show (Addr.add _ _).block ≠ _; rw [add_block]; exact Kd.foot_ne HR1_6.out (by omega) (by decide)) | exact Kd.foot_ne HR1_6.out (by omega) (by decide) | (dsimp only; exact Kd.foot_ne HR1_6.out (by omega) (by decide)))
            have hlt369_0 := (Kd.foot_lt HR1_6.out (by omega) (by decide))
            replace p369 := eq_true p369
            replace q369 := eq_true q369
            have p370 : 0 ≤ (t366 : Int) := of_x
            have q370 : t366 < (l1_3.length : Int) := of_x
            obtain ⟨ad370, e370, hx370_0, hx370_1, hx370_2⟩ := at_T85 (Kd.C_foot_now HR1_3.out HK.out) t366 p370 q370
            have hw370_2 := hx370_2
            have hw370_1 := hx370_1
            have hw370_0 := hx370_0
            cases e370
            have hne370_2 := (show (⟨(ad370.add ((t366).toNat * 3)).block, (ad370.add ((t366).toNat * 3)).off + 2, none⟩ : Addr).block ≠ g from by first | (rw [add_block]; exact Kd.foot_ne HR1_3.out (by omega) (by decide)) | (show (Addr.add _ _).block ≠ _; rw [add_block]; exact Kd.foot_ne HR1_3.out (by omega) (by decide)) | exact Kd.foot_ne HR1_3.out (by omega) (by decide) | (dsimp only; exact Kd.foot_ne HR1_3.out (by omega) (by decide)))
            have hlt370_2 := (Kd.foot_lt HR1_3.out (by omega) (by decide))
            have hne370_1 := (show (⟨(ad370.add ((t366).toNat * 3)).block, (ad370.add ((t366).toNat * 3)).off + 1, none⟩ : Addr).block ≠ g from by first | (rw [add_block]; exact Kd.foot_ne HR1_3.out (by omega) (by decide)) | (show (Addr.add _ _).block ≠ _; rw [add_block]; exact Kd.foot_ne HR1_3.out (by omega) (by decide)) | exact Kd.foot_ne HR1_3.out (by omega) (by decide) | (dsimp only; exact Kd.foot_ne HR1_3.out (by omega) (by decide)))
            have hlt370_1 := (Kd.foot_lt HR1_3.out (by omega) (by decide))
            have hne370_0 := (show ((ad370.add ((t366).toNat * 3)) : Addr).block ≠ g from by first | (rw [add_block]; exact Kd.foot_ne HR1_3.out (by omega) (by decide)) | (show (Addr.add _ _).block ≠ _; rw [add_block]; exact Kd.foot_ne HR1_3.out (by omega) (by decide)) | exact Kd.foot_ne HR1_3.out (by omega) (by decide) | (dsimp only; exact Kd.foot_ne HR1_3.out (by omega) (by decide)))
            have hlt370_0 := (Kd.foot_lt HR1_3.out (by omega) (by decide))
            replace p370 := eq_true p370
            replace q370 := eq_true q370
            refine start_ (n := 23) (S := fun w' => w'.cell? ⟨gb362, 0, none⟩ = some (.int .i64 a1_0) ∧ w'.cell? ⟨gb362, 1, none⟩ = some (.int .i64 a1_1) ∧ w'.cell? ⟨gb362, 2, none⟩ = some (.int .i64 a1_2) ∧ w'.cell? ⟨gb362, 3, none⟩ = some (.slice (some ad370) l1_3.length c1_3) ∧ w'.cell? ⟨gb362, 4, none⟩ = some (.int .i64 a1_4) ∧ w'.cell? ⟨gb362, 5, none⟩ = some (.slice A1_5 l1_5.length c1_5) ∧ w'.cell? ⟨gb362, 6, none⟩ = some (.slice (some ad369) l1_6.length c1_6) ∧ w'.cell? (ad368.add (t366).toNat) = some (.int .i64 (rd x6_1 t366)) ∧ w'.cell? (ad369.add ((x7_1).toNat * 3)) = some (.int .i64 ((rd_T79 l1_6 x7_1).f0.f0)) ∧ w'.cell? ⟨(ad369.add ((x7_1).toNat * 3)).block, (ad369.add ((x7_1).toNat * 3)).off + 1, none⟩ = some (.int .i64 ((rd_T79 l1_6 x7_1).f0.f1)) ∧ w'.cell? ⟨(ad369.add ((x7_1).toNat * 3)).block, (ad369.add ((x7_1).toNat * 3)).off + 2, none⟩ = some (.int .i64 ((rd_T79 l1_6 x7_1).f1)) ∧ w'.cell? (ad370.add ((t366).toNat * 3)) = some (.int .i64 ((rd_T85 l1_3 t366).f0)) ∧ w'.cell? ⟨(ad370.add ((t366).toNat * 3)).block, (ad370.add ((t366).toNat * 3)).off + 1, none⟩ = some (.int .i64 ((rd_T85 l1_3 t366).f1)) ∧ w'.cell? ⟨(ad370.add ((t366).toNat * 3)).block, (ad370.add ((t366).toNat * 3)).off + 2, none⟩ = some (.int .i64 ((rd_T85 l1_3 t366).f2))) (ds := []) #[false, false, false, false, false, false, false, false, false, false, false, false, false, false, false, false, false, false, false, false, false, false, false] (by kernel_rfl) rfl rfl ⟨(blk_cell BK362.out 0).trans rfl, (blk_cell BK362.out 1).trans rfl, (blk_cell BK362.out 2).trans rfl, (blk_cell BK362.out 3).trans rfl, (blk_cell BK362.out 4).trans rfl, (blk_cell BK362.out 5).trans rfl, (blk_cell BK362.out 6).trans rfl, hx368_0, hx369_0, hx369_1, hx369_2, hx370_0, hx370_1, hx370_2⟩ (fun hHeld => ?_); refine with_tabW swarfkit_StowageOf.tab7 swarfkit_StowageOf.bits7 (fun HT_ HW_ => ?_)
            generalize w15.drew = w21 at HO_5 HO_6 BK362 HI0 HK HB hx368_0 hx369_0 hx369_1 hx369_2 hx370_0 hx370_1 hx370_2 hHeld ⊢
            refine pure_t 0 (some 26) (bz 23 1) HT_ ?_
            refine pure_t 1 (some 27) (bz 23 3) HT_ ?_
            refine pure_t 2 (some 28) (bz 23 7) HT_ ?_
            refine pure_t 3 (some 29) (bz 23 15) HT_ ?_
            refine pure_t 4 (some 30) (bz 23 31) HT_ ?_
            refine pure_t 5 (some 31) (bz 23 63) HT_ ?_
            refine pure_t 7 (some 33) (bz 23 191) HT_ ?_
            refine pure_t 9 (some 35) (bz 23 703) HT_ ?_
            refine pure_t 15 (some 41) (bz 23 33471) HT_ ?_
            refine pure_t 17 (some 43) (bz 23 164543) HT_ ?_
            refine take_ (i := 6) (N := some 32) (v := ?_) (a' := ?_) (bz 23 164607) rfl rfl (take_ofW HT_.out HW_.out (by kernel_rfl)) (fun _ _ _ h => h) (Or.inl ⟨by rfl, ?_⟩) hHeld ?_ ?_
            rotate_left; (rintro w' ⟨s0, s1, s2, s3, s4, s5, s6, s7, s8, s9, s10, s11, s12, s13⟩; go_simp; with_reducible rfl); rotate_left; (simp only [Act.put, put_x, i64_w, i32_w]; rfl)
            refine take_ (i := 8) (N := some 34) (v := ?_) (a' := ?_) (bz 23 164863) rfl rfl (take_ofW HT_.out HW_.out (by kernel_rfl)) (fun _ _ _ h => h) (Or.inl ⟨by rfl, ?_⟩) hHeld ?_ ?_
            rotate_left; (rintro w' ⟨s0, s1, s2, s3, s4, s5, s6, s7, s8, s9, s10, s11, s12, s13⟩; go_simp; with_reducible rfl); rotate_left; (simp only [Act.put, put_x, i64_w, i32_w]; rfl)
            refine pure_t 10 (some 36) (bz 23 165887) HT_ ?_
            refine pure_t 11 (some 37) (bz 23 167935) HT_ ?_
            refine pure_t 12 (some 38) (bz 23 172031) HT_ ?_
            refine take_ (i := 13) (N := some 39) (v := ?_) (a' := ?_) (bz 23 180223) rfl rfl (take_ofW HT_.out HW_.out (by kernel_rfl)) (fun _ _ _ h => h) (Or.inl ⟨by rfl, ?_⟩) hHeld ?_ ?_
            rotate_left; (rintro w' ⟨s0, s1, s2, s3, s4, s5, s6, s7, s8, s9, s10, s11, s12, s13⟩; go_simp; with_reducible rfl); rotate_left; (simp only [Act.put, put_x, i64_w, i32_w]; rfl)
            refine pure_t 14 (some 40) (bz 23 196607) HT_ ?_
            refine take_ (i := 16) (N := some 42) (v := ?_) (a' := ?_) (bz 23 262143) rfl rfl (take_ofW HT_.out HW_.out (by kernel_rfl)) (fun _ _ _ h => h) (Or.inl ⟨by rfl, ?_⟩) hHeld ?_ ?_
            rotate_left; (rintro w' ⟨s0, s1, s2, s3, s4, s5, s6, s7, s8, s9, s10, s11, s12, s13⟩; go_simp; with_reducible rfl); rotate_left; (simp only [Act.put, put_x, i64_w, i32_w]; rfl)
            refine pure_t 18 (some 44) (bz 23 524287) HT_ ?_
            refine pure_t 19 (some 45) (bz 23 1048575) HT_ ?_
            refine take_ (i := 20) (N := some 46) (v := ?_) (a' := ?_) (bz 23 2097151) rfl rfl (take_ofW HT_.out HW_.out (by kernel_rfl)) (fun _ _ _ h => h) (Or.inl ⟨by rfl, ?_⟩) hHeld ?_ ?_
            rotate_left; (rintro w' ⟨s0, s1, s2, s3, s4, s5, s6, s7, s8, s9, s10, s11, s12, s13⟩; go_simp; with_reducible rfl); rotate_left; (simp only [Act.put, put_x, i64_w, i32_w]; rfl)
            refine pure_t 21 (some 47) (bz 23 4194303) HT_ ?_
            refine pure_t 22 (some 48) (bz 23 8388607) HT_ ?_
            refine done_ (done_of HT_.out (by kernel_rfl)) ?_
            try go_wp2
            go_meet
            case rel => exact ⟨_, (decide ((wrap64 ((rd x6_1 t366) + ((rd_T79 l1_6 x7_1).f0.f1))) > ((rd_T85 l1_3 t366).f0))), (by first | rfl | (simp; done) | (simp [*]; done)), H', ⟨by have := HK1.out; first | omega | exact Nat.le_refl _⟩, ⟨by (with_reducible repeat (first | apply Kd.R_alloc | apply Kd.R_drewN | apply Kd.R_drew)); exact HO_5.out⟩, ⟨by (with_reducible repeat (first | apply Kd.R_alloc | apply Kd.R_drewN | apply Kd.R_drew)); exact HO_6.out⟩, ⟨blk_x BK362.out⟩, ⟨by exact IsS90.up HI0.out⟩, ⟨by exact keep_y HK.out⟩, ⟨by exact below_y HB.out⟩⟩
           ·
            rw [if_neg c20] at H
            exact absurd H (by simp)
          ·
           rw [if_neg c19] at H
           exact absurd H (by simp)
         ·
          rw [if_neg c18] at H
          exact absurd H (by simp)
        ·
         rw [if_neg c17] at H
         exact absurd H (by simp)
       ·
        rw [if_neg c16] at H
        have c16b0 : decide (0 ≤ t366) = false := decide_eq_false c16
        clear c16
        (first | rw [c16b0] | (simp only [i64_w, i32_w]; rw [c16b0]) | skip)
        have H' := Aside0.mk H
        clear H
        try go_wp2
        replace HO_5 := Aside0.mk (Kd.R_drew HO_5.out)
        replace HO_6 := Aside0.mk (Kd.R_drew HO_6.out)
        replace BK362 := Aside0.mk (blk_drew BK362.out)
        replace HI0 := Aside0.mk (IsS90.drew HI0.out)
        replace HK := Aside0.mk (keep_drew HK.out)
        replace HB := Aside0.mk (below_drew1 HB.out)
        refine start_ (n := 23) (S := fun w' => True) (ds := []) #[false, false, false, false, false, false, false, false, false, false, false, false, false, false, false, false, false, false, false, false, false, false, false] (by kernel_rfl) rfl rfl trivial (fun hHeld => ?_); refine with_tabW swarfkit_StowageOf.tab7 swarfkit_StowageOf.bits7 (fun HT_ HW_ => ?_)
        generalize w15.drew = w23 at HO_5 HO_6 BK362 HI0 HK HB hHeld ⊢
        refine pure_t 0 (some 26) (bz 23 1) HT_ ?_
        refine pure_t 1 (some 27) (bz 23 3) HT_ ?_
        refine pure_t 2 (some 28) (bz 23 7) HT_ ?_
        refine pure_ (i := 3) (N := some 29) (v := undef) (a' := ?_) (bz 23 15) rfl rfl (any_of HT_.out (by kernel_rfl)) (fun _ _ _ h => h) (Or.inr ⟨by rfl, rfl⟩) ?_ ?_
        rotate_left
        ·
         simp only [Act.put, put_x, i64_w, i32_w]
         rfl
        refine pure_ (i := 4) (N := some 30) (v := undef) (a' := ?_) (bz 23 31) rfl rfl (any_of HT_.out (by kernel_rfl)) (fun _ _ _ h => h) (Or.inr ⟨by rfl, rfl⟩) ?_ ?_
        rotate_left
        ·
         simp only [Act.put, put_x, i64_w, i32_w]
         rfl
        refine pure_ (i := 5) (N := some 31) (v := undef) (a' := ?_) (bz 23 63) rfl rfl (any_of HT_.out (by kernel_rfl)) (fun _ _ _ h => h) (Or.inr ⟨by rfl, rfl⟩) ?_ ?_
        rotate_left
        ·
         simp only [Act.put, put_x, i64_w, i32_w]
         rfl
        refine pure_ (i := 6) (N := some 32) (v := undef) (a' := ?_) (bz 23 127) rfl rfl (any_of HT_.out (by kernel_rfl)) (fun _ _ _ h => h) (Or.inr ⟨by rfl, rfl⟩) ?_ ?_
        rotate_left
        ·
         simp only [Act.put, put_x, i64_w, i32_w]
         rfl
        refine pure_ (i := 7) (N := some 33) (v := undef) (a' := ?_) (bz 23 255) rfl rfl (any_of HT_.out (by kernel_rfl)) (fun _ _ _ h => h) (Or.inr ⟨by rfl, rfl⟩) ?_ ?_
        rotate_left
        ·
         simp only [Act.put, put_x, i64_w, i32_w]
         rfl
        refine pure_ (i := 8) (N := some 34) (v := undef) (a' := ?_) (bz 23 511) rfl rfl (any_of HT_.out (by kernel_rfl)) (fun _ _ _ h => h) (Or.inr ⟨by rfl, rfl⟩) ?_ ?_
        rotate_left
        ·
         simp only [Act.put, put_x, i64_w, i32_w]
         rfl
        refine pure_ (i := 9) (N := some 35) (v := undef) (a' := ?_) (bz 23 1023) rfl rfl (any_of HT_.out (by kernel_rfl)) (fun _ _ _ h => h) (Or.inr ⟨by rfl, rfl⟩) ?_ ?_
        rotate_left
        ·
         simp only [Act.put, put_x, i64_w, i32_w]
         rfl
        refine pure_ (i := 10) (N := some 36) (v := undef) (a' := ?_) (bz 23 2047) rfl rfl (any_of HT_.out (by kernel_rfl)) (fun _ _ _ h => h) (Or.inr ⟨by rfl, rfl⟩) ?_ ?_
        rotate_left
        ·
         simp only [Act.put, put_x, i64_w, i32_w]
         rfl
        refine pure_ (i := 11) (N := some 37) (v := undef) (a' := ?_) (bz 23 4095) rfl rfl (any_of HT_.out (by kernel_rfl)) (fun _ _ _ h => h) (Or.inr ⟨by rfl, rfl⟩) ?_ ?_
        rotate_left
        ·
         simp only [Act.put, put_x, i64_w, i32_w]
         rfl
        refine pure_ (i := 12) (N := some 38) (v := undef) (a' := ?_) (bz 23 8191) rfl rfl (any_of HT_.out (by kernel_rfl)) (fun _ _ _ h => h) (Or.inr ⟨by rfl, rfl⟩) ?_ ?_
        rotate_left
        ·
         simp only [Act.put, put_x, i64_w, i32_w]
         rfl
        refine pure_ (i := 13) (N := some 39) (v := undef) (a' := ?_) (bz 23 16383) rfl rfl (any_of HT_.out (by kernel_rfl)) (fun _ _ _ h => h) (Or.inr ⟨by rfl, rfl⟩) ?_ ?_
        rotate_left
        ·
         simp only [Act.put, put_x, i64_w, i32_w]
         rfl
        refine pure_ (i := 14) (N := some 40) (v := undef) (a' := ?_) (bz 23 32767) rfl rfl (any_of HT_.out (by kernel_rfl)) (fun _ _ _ h => h) (Or.inr ⟨by rfl, rfl⟩) ?_ ?_
        rotate_left
        ·
         simp only [Act.put, put_x, i64_w, i32_w]
         rfl
        refine pure_ (i := 15) (N := some 41) (v := undef) (a' := ?_) (bz 23 65535) rfl rfl (any_of HT_.out (by kernel_rfl)) (fun _ _ _ h => h) (Or.inr ⟨by rfl, rfl⟩) ?_ ?_
        rotate_left
        ·
         simp only [Act.put, put_x, i64_w, i32_w]
         rfl
        refine pure_ (i := 16) (N := some 42) (v := undef) (a' := ?_) (bz 23 131071) rfl rfl (any_of HT_.out (by kernel_rfl)) (fun _ _ _ h => h) (Or.inr ⟨by rfl, rfl⟩) ?_ ?_
        rotate_left
        ·
         simp only [Act.put, put_x, i64_w, i32_w]
         rfl
        refine pure_ (i := 17) (N := some 43) (v := undef) (a' := ?_) (bz 23 262143) rfl rfl (any_of HT_.out (by kernel_rfl)) (fun _ _ _ h => h) (Or.inr ⟨by rfl, rfl⟩) ?_ ?_
        rotate_left
        ·
         simp only [Act.put, put_x, i64_w, i32_w]
         rfl
        refine pure_ (i := 18) (N := some 44) (v := undef) (a' := ?_) (bz 23 524287) rfl rfl (any_of HT_.out (by kernel_rfl)) (fun _ _ _ h => h) (Or.inr ⟨by rfl, rfl⟩) ?_ ?_
        rotate_left
        ·
         simp only [Act.put, put_x, i64_w, i32_w]
         rfl
        refine pure_ (i := 19) (N := some 45) (v := undef) (a' := ?_) (bz 23 1048575) rfl rfl (any_of HT_.out (by kernel_rfl)) (fun _ _ _ h => h) (Or.inr ⟨by rfl, rfl⟩) ?_ ?_
        rotate_left
        ·
         simp only [Act.put, put_x, i64_w, i32_w]
         rfl
        refine pure_ (i := 20) (N := some 46) (v := undef) (a' := ?_) (bz 23 2097151) rfl rfl (any_of HT_.out (by kernel_rfl)) (fun _ _ _ h => h) (Or.inr ⟨by rfl, rfl⟩) ?_ ?_
        rotate_left
        ·
         simp only [Act.put, put_x, i64_w, i32_w]
         rfl
        refine pure_ (i := 21) (N := some 47) (v := undef) (a' := ?_) (bz 23 4194303) rfl rfl (any_of HT_.out (by kernel_rfl)) (fun _ _ _ h => h) (Or.inr ⟨by rfl, rfl⟩) ?_ ?_
        rotate_left
        ·
         simp only [Act.put, put_x, i64_w, i32_w]
         rfl
        refine pure_t 22 (some 48) (bz 23 8388607) HT_ ?_
        refine done_ (done_of HT_.out (by kernel_rfl)) ?_
        try go_wp2
        go_meet
        case rel => exact ⟨_, (false), (by first | rfl | (simp; done) | (simp [*]; done)), H', ⟨by have := HK1.out; first | omega | exact Nat.le_refl _⟩, ⟨by (with_reducible repeat (first | apply Kd.R_alloc | apply Kd.R_drewN | apply Kd.R_drew)); exact HO_5.out⟩, ⟨by (with_reducible repeat (first | apply Kd.R_alloc | apply Kd.R_drewN | apply Kd.R_drew)); exact HO_6.out⟩, ⟨blk_x BK362.out⟩, ⟨by exact IsS90.up HI0.out⟩, ⟨by exact keep_y HK.out⟩, ⟨by exact below_y HB.out⟩⟩
      case rest =>
       clear HC12
       obtain ⟨kq, x48_11, rfl, HA, HJ11, HO_5, HO_6, BK362, HI0, HK, HB⟩ := hcut
       cases kq with
       | zero => exact absurd HA.out (by simp [swarfkit_StowageOf.j1])
       | succ kj11 =>
        have H := HA.out
        clear HA
        simp only [swarfkit_StowageOf.j1] at H
        by_cases c24 : x48_11 = true
        ·
         subst c24
         have H1 : (if (-1) ≥ 0 then (if 0 ≤ (-1) then (if (-1) < (x6_1.length : Int) then (if 0 ≤ x7_1 then (if x7_1 < (l1_6.length : Int) then (if x5_1.length < 17592186044416 then (swarfkit_StowageOf.l0 kj11 (x5_1 ++ [(-1)]) (x6_1.set ((-1) : Int).toNat (wrap64 ((rd x6_1 (-1)) + ((rd_T79 l1_6 x7_1).f0.f1)))) (wrap64 (x7_1 + 1)) t367 a1_0 a1_1 a1_2 l1_3 a1_4 l1_5 l1_6) else (none)) else (none)) else (none)) else (none)) else (none)) else (if x5_1.length < 17592186044416 then (swarfkit_StowageOf.l0 kj11 (x5_1 ++ [(-1)]) x6_1 (wrap64 (x7_1 + 1)) t367 a1_0 a1_1 a1_2 l1_3 a1_4 l1_5 l1_6) else (none))) = some (r1, r2) := by rw [if_pos rfl] at H; exact H
         clear H
         have H := H1
         clear H1
         by_cases c25 : (-1) ≥ 0
         ·
          exact absurd c25 (by decide)
         ·
          rw [if_neg c25] at H
          have c25b0 : decide (0 ≤ (-1)) = false := decide_eq_false c25
          clear c25
          by_cases c36 : x5_1.length < 17592186044416
          ·
           rw [if_pos c36] at H
           have LMc36 := Aside0.mk c36
           clear c36
           obtain ⟨y377, hy377⟩ : ∃ y_ : List Int, y_ = (x5_1 ++ [(-1)]) := ⟨_, rfl⟩
           replace H : (swarfkit_StowageOf.l0 kj11 y377 x6_1 (wrap64 (x7_1 + 1)) t367 a1_0 a1_1 a1_2 l1_3 a1_4 l1_5 l1_6) = some (r1, r2) := by first | (rw [hy377]; with_reducible exact H) | (have H2_ := (Option.bind_some _ _).symm.trans H; rw [hy377]; with_reducible exact H2_) | (have H2_ := (Option.bind_some _ _).symm.trans H; with_reducible exact H2_) | with_reducible exact H | (rw [hy377]; exact H) | exact H
           have Ny377 := Aside0.mk hy377
           clear hy377
           have H' := Aside0.mk H
           clear H
           go_wp2_with (first | ((with_reducible refine gate_builtin (b := .append) (xs := #[.tmp 66, .tmp 68]) rfl ?_); at_builtin; refine Kd.R_append (Kd.int .i64) w.heap.size rfl (.tmp 66) (.tmp 68) 27 3 (.int .i64 0) 8 rfl Try.underlying27 info3 rfl (by decide) (by omega) u5 x5_1 (-1) [.int .i64 (-1)] (fun k_ => some k_ ≠ (v364 : Value).ownBlock) (fun _ => False) rfl rfl ?aP (fun _ hk => hk.elim) ?aF ?aO (Below.refl _ _) ?aS ?aL ?_; (case aP => exact rfl); (case aF => exact (fun k_ hk => Kd.fresh' (Kd.R_lt (Kd.R_x HO_6.out)) k_ hk)); (case aO => exact (Kd.R_x HO_5.out)); (case aS => exact (keep_size (w := w) (g := g) (row := none) (by exact keep_y HK.out))); (case aL => have := LMc36.out; omega); intro v378 w37 ho hb hg hat; rw [← Ny377.out] at ho; replace HO_6 := Aside0.mk (Kd.R_after (ok := (fun _ => True)) (by (with_reducible repeat (first | apply Kd.R_alloc | apply Kd.R_drewN | apply Kd.R_drew)); exact Kd.R_mono HO_6.out (fun _ hk => ⟨trivial, hk⟩)) hg hat); replace BK362 := Aside0.mk (blk_grown (blk_x BK362.out) hg (Kd.R_ne HO_5.out BK362.out (by decide))); replace HI0 := Aside0.mk (IsS90.grown (by exact IsS90.up HI0.out) hg (IsS90.own_ne HI0.out HO_5.out (by decide))); replace HB := Aside0.mk (below_weaken (by exact below_y HB.out) HL.out hb); replace HK := Aside0.mk (KeepBut.trans (by exact keep_y HK.out) (KeepBut.of_grown hg g) (Kd.R_base2 HO_5.out)); have HO379 := Aside0.mk (ho); clear HO_5; clear ho hb hg hat))
           go_roundg kj11
           case measure => have := HK1.out; have := HJ11.out; omega
           case rel => exact ⟨(y377), (x6_1), (wrap64 (x7_1 + 1)), (t367), (by first | rfl | (simp; done) | (simp [*]; done)), H', ⟨by have := HK1.out; have := HJ11.out; omega⟩, ⟨by (with_reducible repeat (first | apply Kd.R_alloc | apply Kd.R_drewN | apply Kd.R_drew)); exact HO379.out⟩, ⟨by (with_reducible repeat (first | apply Kd.R_alloc | apply Kd.R_drewN | apply Kd.R_drew)); exact Kd.R_mono HO_6.out (fun _ hk => hk.2)⟩, ⟨blk_x BK362.out⟩, ⟨by exact IsS90.up HI0.out⟩, ⟨by exact keep_y HK.out⟩, ⟨by exact below_y HB.out⟩⟩
          ·
           rw [if_neg c36] at H
           exact absurd H (by simp)
        ·
         replace c24 := Bool.eq_false_iff.mpr c24
         subst c24
         have H1 : (if t366 ≥ 0 then (if 0 ≤ t366 then (if t366 < (x6_1.length : Int) then (if 0 ≤ x7_1 then (if x7_1 < (l1_6.length : Int) then (if x5_1.length < 17592186044416 then (swarfkit_StowageOf.l0 kj11 (x5_1 ++ [t366]) (x6_1.set (t366 : Int).toNat (wrap64 ((rd x6_1 t366) + ((rd_T79 l1_6 x7_1).f0.f1)))) (wrap64 (x7_1 + 1)) t367 a1_0 a1_1 a1_2 l1_3 a1_4 l1_5 l1_6) else (none)) else (none)) else (none)) else (none)) else (none)) else (if x5_1.length < 17592186044416 then (swarfkit_StowageOf.l0 kj11 (x5_1 ++ [t366]) x6_1 (wrap64 (x7_1 + 1)) t367 a1_0 a1_1 a1_2 l1_3 a1_4 l1_5 l1_6) else (none))) = some (r1, r2) := by rw [if_neg (show ¬ (false = true) by decide)] at H; exact H
         clear H
         have H := H1
         clear H1
         by_cases c38 : t366 ≥ 0
         ·
          rw [if_pos c38] at H
          have c38b0 : decide (0 ≤ t366) = true := decide_eq_true c38
          clear c38
          by_cases c39 : 0 ≤ t366
          ·
           rw [if_pos c39] at H
           have c39b0 : decide (0 ≤ t366) = true := decide_eq_true c39
           clear c39
           by_cases c40 : t366 < (x6_1.length : Int)
           ·
            rw [if_pos c40] at H
            have c40b0 : decide (t366 < (x6_1.length : Int)) = true := decide_eq_true c40
            clear c40
            by_cases c41 : 0 ≤ x7_1
            ·
             rw [if_pos c41] at H
             have c41b0 : decide (0 ≤ x7_1) = true := decide_eq_true c41
             clear c41
             by_cases c42 : x7_1 < (l1_6.length : Int)
             ·
              rw [if_pos c42] at H
              have c42b0 : decide (x7_1 < (l1_6.length : Int)) = true := decide_eq_true c42
              clear c42
              obtain ⟨y382, hy382⟩ : ∃ y_ : List Int, y_ = (x6_1.set (t366 : Int).toNat (wrap64 ((rd x6_1 t366) + ((rd_T79 l1_6 x7_1).f0.f1)))) := ⟨_, rfl⟩
              replace H : (if x5_1.length < 17592186044416 then (swarfkit_StowageOf.l0 kj11 (x5_1 ++ [t366]) y382 (wrap64 (x7_1 + 1)) t367 a1_0 a1_1 a1_2 l1_3 a1_4 l1_5 l1_6) else (none)) = some (r1, r2) := by first | (rw [hy382]; with_reducible exact H) | (have H2_ := (Option.bind_some _ _).symm.trans H; rw [hy382]; with_reducible exact H2_) | (have H2_ := (Option.bind_some _ _).symm.trans H; with_reducible exact H2_) | with_reducible exact H | (rw [hy382]; exact H) | exact H
              have Ny382 := Aside0.mk hy382
              clear hy382
              by_cases c44 : x5_1.length < 17592186044416
              ·
               rw [if_pos c44] at H
               have LMc44 := Aside0.mk c44
               clear c44
               obtain ⟨y383, hy383⟩ : ∃ y_ : List Int, y_ = (x5_1 ++ [t366]) := ⟨_, rfl⟩
               replace H : (swarfkit_StowageOf.l0 kj11 y383 y382 (wrap64 (x7_1 + 1)) t367 a1_0 a1_1 a1_2 l1_3 a1_4 l1_5 l1_6) = some (r1, r2) := by first | (rw [hy383]; with_reducible exact H) | (have H2_ := (Option.bind_some _ _).symm.trans H; rw [hy383]; with_reducible exact H2_) | (have H2_ := (Option.bind_some _ _).symm.trans H; with_reducible exact H2_) | with_reducible exact H | (rw [hy383]; exact H) | exact H
               have Ny383 := Aside0.mk hy383
               clear hy383
               have H' := Aside0.mk H
               clear H
               try go_wp2
               replace HO_5 := Aside0.mk (Kd.R_drew HO_5.out)
               replace HO_6 := Aside0.mk (Kd.R_drew HO_6.out)
               replace BK362 := Aside0.mk (blk_drew BK362.out)
               replace HI0 := Aside0.mk (IsS90.drew HI0.out)
               replace HK := Aside0.mk (keep_drew HK.out)
               replace HB := Aside0.mk (below_drew1 HB.out)
               obtain ⟨Ao46, co46, eo46⟩ := Kd.R_slice HO_6.out
               (first | subst eo46 | (injection eo46 with f1_ f2_ f3_; have f4_ := f1_.symm; have f5_ := f3_.symm; clear f1_ f2_ f3_; subst f4_; subst f5_))
               have p380 : 0 ≤ (t366 : Int) := of_x
               have q380 : t366 < (x6_1.length : Int) := of_x
               obtain ⟨ad380, e380, hx380_0⟩ := Kd.at_int (Kd.R_reads' HO_6.out).2.2 t366 p380 q380
               cases e380
               replace p380 := eq_true p380
               replace q380 := eq_true q380
               have p381 : 0 ≤ (x7_1 : Int) := of_x
               have q381 : x7_1 < (l1_6.length : Int) := of_x
               obtain ⟨ad381, e381, hx381_0, hx381_1, hx381_2⟩ := at_T79 (Kd.C_foot_now HR1_6.out HK.out) x7_1 p381 q381
               have hw381_2 := hx381_2
               have hw381_1 := hx381_1
               have hw381_0 := hx381_0
               cases e381
               have hne381_2 := (show (⟨(ad381.add ((x7_1).toNat * 3)).block, (ad381.add ((x7_1).toNat * 3)).off + 2, none⟩ : Addr).block ≠ g from by first | (rw [add_block]; exact Kd.foot_ne HR1_6.out (by omega) (by decide)) | (show (Addr.add _ _).block ≠ _; rw [add_block]; exact Kd.foot_ne HR1_6.out (by omega) (by decide)) | exact Kd.foot_ne HR1_6.out (by omega) (by decide) | (dsimp only; exact Kd.foot_ne HR1_6.out (by omega) (by decide)))
               have hlt381_2 := (Kd.foot_lt HR1_6.out (by omega) (by decide))
               have hne381_1 := (show (⟨(ad381.add ((x7_1).toNat * 3)).block, (ad381.add ((x7_1).toNat * 3)).off + 1, none⟩ : Addr).block ≠ g from by first | (rw [add_block]; exact Kd.foot_ne HR1_6.out (by omega) (by decide)) | (show (Addr.add _ _).block ≠ _; rw [add_block]; exact Kd.foot_ne HR1_6.out (by omega) (by decide)) | exact Kd.foot_ne HR1_6.out (by omega) (by decide) | (dsimp only; exact Kd.foot_ne HR1_6.out (by omega) (by decide)))
               have hlt381_1 := (Kd.foot_lt HR1_6.out (by omega) (by decide))
               have hne381_0 := (show ((ad381.add ((x7_1).toNat * 3)) : Addr).block ≠ g from by first | (rw [add_block]; exact Kd.foot_ne HR1_6.out (by omega) (by decide)) | (show (Addr.add _ _).block ≠ _; rw [add_block]; exact Kd.foot_ne HR1_6.out (by omega) (by decide)) | exact Kd.foot_ne HR1_6.out (by omega) (by decide) | (dsimp only; exact Kd.foot_ne HR1_6.out (by omega) (by decide)))
               have hlt381_0 := (Kd.foot_lt HR1_6.out (by omega) (by decide))
               replace p381 := eq_true p381
               replace q381 := eq_true q381
               have p43 : 0 ≤ (t366 : Int) := of_x
               have q43 : (t366 : Int) < ((x6_1.length : Int) : Int) := of_x
               obtain ⟨go43, co43, eo43, gb43, gl43, cl43, HG43⟩ := Kd.R_form HO_6.out (by omega)
               (first | cases eo43 | (injection eo43 with ea_ en_ ec_; (first | subst ea_ | (injection ea_ with ea_; subst ea_)); subst ec_; clear en_))
               have GB43 := Aside0.mk gb43
               have GG43 := Aside0.mk HG43
               clear gb43 gl43 HG43
               (first | simp only [add_plain] at hx380_0 | skip)
               obtain ⟨hx43_0, hf43_0⟩ := Kd.R_celln 0 HO_6.out (t366 : Int) p43 q43
               replace p43 := eq_true p43
               replace q43 := eq_true q43
               have HN0_go43 := Aside0.mk (show g ≠ go43 from by have h_ := IsS90.own_ne HI0.out HO_6.out (by decide); intro e_; exact h_ (by rw [e_]; rfl))
               have HP47 := Kd.R_putn HO_6.out (t366 : Int) (wrap64 ((rd x6_1 t366) + ((rd_T79 l1_6 x7_1).f0.f1)))
               rw [← Ny382.out] at HP47
               have HQ47 := Aside0.mk HP47
               clear HP47
               refine start_ (n := 16) (S := fun w' => w'.cell? ⟨gb362, 0, none⟩ = some (.int .i64 a1_0) ∧ w'.cell? ⟨gb362, 1, none⟩ = some (.int .i64 a1_1) ∧ w'.cell? ⟨gb362, 2, none⟩ = some (.int .i64 a1_2) ∧ w'.cell? ⟨gb362, 3, none⟩ = some (.slice A1_3 l1_3.length c1_3) ∧ w'.cell? ⟨gb362, 4, none⟩ = some (.int .i64 a1_4) ∧ w'.cell? ⟨gb362, 5, none⟩ = some (.slice A1_5 l1_5.length c1_5) ∧ w'.cell? ⟨gb362, 6, none⟩ = some (.slice (some ad381) l1_6.length c1_6) ∧ w'.cell? ⟨go43, (t366).toNat, none⟩ = some (.int .i64 (rd x6_1 t366)) ∧ w'.cell? (ad381.add ((x7_1).toNat * 3)) = some (.int .i64 ((rd_T79 l1_6 x7_1).f0.f0)) ∧ w'.cell? ⟨(ad381.add ((x7_1).toNat * 3)).block, (ad381.add ((x7_1).toNat * 3)).off + 1, none⟩ = some (.int .i64 ((rd_T79 l1_6 x7_1).f0.f1)) ∧ w'.cell? ⟨(ad381.add ((x7_1).toNat * 3)).block, (ad381.add ((x7_1).toNat * 3)).off + 2, none⟩ = some (.int .i64 ((rd_T79 l1_6 x7_1).f1))) (ds := [15]) #[false, false, false, false, false, false, false, false, false, false, false, false, false, false, false, false] (by kernel_rfl) rfl rfl ⟨(blk_cell BK362.out 0).trans rfl, (blk_cell BK362.out 1).trans rfl, (blk_cell BK362.out 2).trans rfl, (blk_cell BK362.out 3).trans rfl, (blk_cell BK362.out 4).trans rfl, (blk_cell BK362.out 5).trans rfl, (blk_cell BK362.out 6).trans rfl, hx380_0, hx381_0, hx381_1, hx381_2⟩ (fun hHeld => ?_); refine with_tabW swarfkit_StowageOf.tab10 swarfkit_StowageOf.bits10 (fun HT_ HW_ => ?_)
               generalize wc.drew = w45 at HO_5 HO_6 BK362 HI0 HK HB GG43 HQ47 hf43_0 hx380_0 hx381_0 hx381_1 hx381_2 hx43_0 hHeld ⊢
               refine pure_t 0 (some 51) (bz 16 1) HT_ ?_
               refine pure_t 1 (some 52) (bz 16 3) HT_ ?_
               refine pure_t 2 (some 53) (bz 16 7) HT_ ?_
               refine pure_t 3 (some 54) (bz 16 15) HT_ ?_
               refine pure_t 4 (some 55) (bz 16 31) HT_ ?_
               refine pure_t 6 (some 57) (bz 16 95) HT_ ?_
               refine pure_t 8 (some 59) (bz 16 351) HT_ ?_
               refine take_ (i := 5) (N := some 56) (v := ?_) (a' := ?_) (bz 16 383) rfl rfl (take_ofW HT_.out HW_.out (by kernel_rfl)) (fun _ _ _ h => h) (Or.inl ⟨by rfl, ?_⟩) hHeld ?_ ?_
               rotate_left; (rintro w' ⟨s0, s1, s2, s3, s4, s5, s6, s7, s8, s9, s10⟩; go_simp; with_reducible rfl); rotate_left; (simp only [Act.put, put_x, i64_w, i32_w]; rfl)
               refine take_ (i := 7) (N := some 58) (v := ?_) (a' := ?_) (bz 16 511) rfl rfl (take_ofW HT_.out HW_.out (by kernel_rfl)) (fun _ _ _ h => h) (Or.inl ⟨by rfl, ?_⟩) hHeld ?_ ?_
               rotate_left; (rintro w' ⟨s0, s1, s2, s3, s4, s5, s6, s7, s8, s9, s10⟩; go_simp; with_reducible rfl); rotate_left; (simp only [Act.put, put_x, i64_w, i32_w]; rfl)
               refine pure_t 9 (some 60) (bz 16 1023) HT_ ?_
               refine pure_t 10 (some 61) (bz 16 2047) HT_ ?_
               refine pure_t 11 (some 62) (bz 16 4095) HT_ ?_
               refine take_ (i := 12) (N := some 63) (v := ?_) (a' := ?_) (bz 16 8191) rfl rfl (take_ofW HT_.out HW_.out (by kernel_rfl)) (fun _ _ _ h => h) (Or.inl ⟨by rfl, ?_⟩) hHeld ?_ ?_
               rotate_left; (rintro w' ⟨s0, s1, s2, s3, s4, s5, s6, s7, s8, s9, s10⟩; go_simp; with_reducible rfl); rotate_left; (simp only [Act.put, put_x, i64_w, i32_w]; rfl)
               refine pure_t 13 (some 64) (bz 16 16383) HT_ ?_
               refine pure_t 14 (some 65) (bz 16 32767) HT_ ?_
               refine last_ (i := 15) (N := none) (bz 16 65535) rfl rfl (one_of HT_.out (by kernel_rfl)) (by decide) (fun K hK => ?_)
               refine skip_ (w1 := ?_) (by rfl) rfl ?_ ?_
               rotate_left
               ·
                go_simp
                rfl
               refine hK.out _ _ ?_
               clear hK K
               refine done_ (done_of HT_.out (by kernel_rfl)) ?_
               try go_wp2_with (first | ((with_reducible refine gate_builtin (b := .append) (xs := #[.tmp 66, .tmp 68]) rfl ?_); at_builtin; refine Kd.R_append (Kd.int .i64) w.heap.size rfl (.tmp 66) (.tmp 68) 27 3 (.int .i64 0) 8 rfl Try.underlying27 info3 rfl (by decide) (by omega) u5 x5_1 t366 [.int .i64 t366] (fun k_ => some k_ ≠ (.slice (some ⟨go43, 0, none⟩) x6_1.length co46 : Value).ownBlock) (fun _ => False) rfl (by first | (go_simp; done) | (go_simp; rfl)) ?aP (fun _ hk => hk.elim) ?aF ?aO (Below.refl _ _) ?aS ?aL ?_; (case aP => exact rfl); (case aF => exact (fun k_ hk => Kd.fresh' (Kd.R_lt (Kd.R_x HQ47.out)) k_ hk)); (case aO => exact (by (with_reducible repeat (first | apply Kd.R_alloc | apply Kd.R_drewN | apply Kd.R_drew)); exact Kd.R_mono (Kd.R_far (p := ⟨go43, (t366 : Int).toNat, none⟩) (Kd.R_mono HO_5.out (fun k_ hk => (⟨hk, fun e_ => hk (by rw [e_]; rfl)⟩ : _ ∧ k_ ≠ go43))) (fun _ hk => hk.2) (.int .i64 (wrap64 ((rd x6_1 t366) + ((rd_T79 l1_6 x7_1).f0.f1))))) (fun _ hk => hk.1))); (case aS => exact (keep_size (w := w) (g := g) (row := none) (by exact keep_y HK.out))); (case aL => have := LMc44.out; omega); intro v384 w48 ho hb hg hat; rw [← Ny383.out] at ho; replace BK362 := Aside0.mk (blk_grown (g := gb362) (o := .cells #[.int .i64 a1_0, .int .i64 a1_1, .int .i64 a1_2, .slice A1_3 l1_3.length c1_3, .int .i64 a1_4, .slice A1_5 l1_5.length c1_5, .slice (some ad381) l1_6.length c1_6] 26 (0, 0)) (by (with_reducible repeat (first | refine blk_drewN ?_ _ | refine blk_drew ?_ | refine blk_alloc ?_ _)); refine blk_far ?_ (by have h_ := Kd.R_ne HO_6.out BK362.out (by decide); intro e_; exact h_ (by rw [e_]; rfl)) _; (with_reducible repeat (first | refine blk_drewN ?_ _ | refine blk_drew ?_ | refine blk_alloc ?_ _)); exact BK362.out) hg (Kd.R_ne HO_5.out BK362.out (by decide))); replace HO_6 := Aside0.mk (Kd.R_after (ok := (fun _ => True)) (by (with_reducible repeat (first | apply Kd.R_alloc | apply Kd.R_drewN | apply Kd.R_drew)); exact Kd.R_mono HQ47.out (fun _ hk => ⟨trivial, hk⟩)) hg hat); replace HB := Aside0.mk (below_weaken (by repeat (first | (with_reducible first | exact HB.out | apply below_alloc | apply pw_below_drewN | apply below_drew1 | refine below_set ?_ (Nat.le_trans HL.out GB43.out) | refine below_set ?_ (IsS90.ge HI0.out) | refine below_set ?_ GE362.out) | exact HB.out)) HL.out hb); replace HI0 := Aside0.mk (IsS90.grown (w0 := w0) (f0 := t367) (by exact IsS90.up HI0.out) hg (IsS90.own_ne HI0.out HO_5.out (by decide))); replace HK := Aside0.mk (KeepBut.trans (by exact keep_y HK.out) (KeepBut.of_grown hg g) (Kd.R_base2 HO_5.out)); have HO385 := Aside0.mk (ho); clear HO_5; clear ho hb hg hat))
               go_roundg kj11
               case measure => have := HK1.out; have := HJ11.out; omega
               case rel => exact ⟨(y383), (y382), (wrap64 (x7_1 + 1)), (t367), (by first | rfl | (simp; done) | (simp [*]; done)), H', ⟨by have := HK1.out; have := HJ11.out; omega⟩, ⟨by (with_reducible repeat (first | apply Kd.R_alloc | apply Kd.R_drewN | apply Kd.R_drew)); exact HO385.out⟩, ⟨by (with_reducible repeat (first | apply Kd.R_alloc | apply Kd.R_drewN | apply Kd.R_drew)); exact Kd.R_mono HO_6.out (fun _ hk => hk.2)⟩, ⟨blk_x BK362.out⟩, ⟨by exact IsS90.up HI0.out⟩, ⟨by exact keep_y HK.out⟩, ⟨by exact below_y HB.out⟩⟩
              ·
               rw [if_neg c44] at H
               exact absurd H (by simp)
             ·
              rw [if_neg c42] at H
              exact absurd H (by simp)
            ·
             rw [if_neg c41] at H
             exact absurd H (by simp)
           ·
            rw [if_neg c40] at H
            exact absurd H (by simp)
          ·
           rw [if_neg c39] at H
           exact absurd H (by simp)
         ·
          rw [if_neg c38] at H
          have c38b0 : decide (0 ≤ t366) = false := decide_eq_false c38
          clear c38
          by_cases c49 : x5_1.length < 17592186044416
          ·
           rw [if_pos c49] at H
           have LMc49 := Aside0.mk c49
           clear c49
           obtain ⟨y386, hy386⟩ : ∃ y_ : List Int, y_ = (x5_1 ++ [t366]) := ⟨_, rfl⟩
           replace H : (swarfkit_StowageOf.l0 kj11 y386 x6_1 (wrap64 (x7_1 + 1)) t367 a1_0 a1_1 a1_2 l1_3 a1_4 l1_5 l1_6) = some (r1, r2) := by first | (rw [hy386]; with_reducible exact H) | (have H2_ := (Option.bind_some _ _).symm.trans H; rw [hy386]; with_reducible exact H2_) | (have H2_ := (Option.bind_some _ _).symm.trans H; with_reducible exact H2_) | with_reducible exact H | (rw [hy386]; exact H) | exact H
           have Ny386 := Aside0.mk hy386
           clear hy386
           have H' := Aside0.mk H
           clear H
           go_wp2_with (first | ((with_reducible refine gate_builtin (b := .append) (xs := #[.tmp 66, .tmp 68]) rfl ?_); at_builtin; refine Kd.R_append (Kd.int .i64) w.heap.size rfl (.tmp 66) (.tmp 68) 27 3 (.int .i64 0) 8 rfl Try.underlying27 info3 rfl (by decide) (by omega) u5 x5_1 t366 [.int .i64 t366] (fun k_ => some k_ ≠ (v364 : Value).ownBlock) (fun _ => False) rfl rfl ?aP (fun _ hk => hk.elim) ?aF ?aO (Below.refl _ _) ?aS ?aL ?_; (case aP => exact rfl); (case aF => exact (fun k_ hk => Kd.fresh' (Kd.R_lt (Kd.R_x HO_6.out)) k_ hk)); (case aO => exact (Kd.R_x HO_5.out)); (case aS => exact (keep_size (w := w) (g := g) (row := none) (by exact keep_y HK.out))); (case aL => have := LMc49.out; omega); intro v387 w50 ho hb hg hat; rw [← Ny386.out] at ho; replace HO_6 := Aside0.mk (Kd.R_after (ok := (fun _ => True)) (by (with_reducible repeat (first | apply Kd.R_alloc | apply Kd.R_drewN | apply Kd.R_drew)); exact Kd.R_mono HO_6.out (fun _ hk => ⟨trivial, hk⟩)) hg hat); replace BK362 := Aside0.mk (blk_grown (blk_x BK362.out) hg (Kd.R_ne HO_5.out BK362.out (by decide))); replace HI0 := Aside0.mk (IsS90.grown (by exact IsS90.up HI0.out) hg (IsS90.own_ne HI0.out HO_5.out (by decide))); replace HB := Aside0.mk (below_weaken (by exact below_y HB.out) HL.out hb); replace HK := Aside0.mk (KeepBut.trans (by exact keep_y HK.out) (KeepBut.of_grown hg g) (Kd.R_base2 HO_5.out)); have HO388 := Aside0.mk (ho); clear HO_5; clear ho hb hg hat))
           go_roundg kj11
           case measure => have := HK1.out; have := HJ11.out; omega
           case rel => exact ⟨(y386), (x6_1), (wrap64 (x7_1 + 1)), (t367), (by first | rfl | (simp; done) | (simp [*]; done)), H', ⟨by have := HK1.out; have := HJ11.out; omega⟩, ⟨by (with_reducible repeat (first | apply Kd.R_alloc | apply Kd.R_drewN | apply Kd.R_drew)); exact HO388.out⟩, ⟨by (with_reducible repeat (first | apply Kd.R_alloc | apply Kd.R_drewN | apply Kd.R_drew)); exact Kd.R_mono HO_6.out (fun _ hk => hk.2)⟩, ⟨blk_x BK362.out⟩, ⟨by exact IsS90.up HI0.out⟩, ⟨by exact keep_y HK.out⟩, ⟨by exact below_y HB.out⟩⟩
          ·
           rw [if_neg c49] at H
           exact absurd H (by simp)
     ·
      rw [if_neg c10] at H
      have c10b0 : decide (x7_1 < (l1_6.length : Int)) = false := decide_eq_false c10
      clear c10
      simp only [Option.some.injEq, Prod.mk.injEq] at H
      obtain ⟨rfl, rfl⟩ := H
      have hnb51 := NB362_0.out
      have hnc51 := NB0_362.out
      obtain ⟨_, _, _, _, _, _, _⟩ := cz7 BK362
      have hfz52_0 := blk_frozen BK362.out
      go_wp2
      go_ret
      exact ⟨_, by first | rfl | (simp [errW_none, errW_some] <;> rfl) | (simp [*, errW_none, errW_some] <;> rfl), by (with_reducible repeat (first | apply Kd.R_alloc | apply Kd.R_drewN | apply Kd.R_drew)); exact Kd.R_mono HO_5.out (fun _ hk => trivial), by exact IsS90.up HI0.out, by exact below_y HB.out, by exact keep_y HK.out⟩
  ·
   rw [if_neg c4] at H
   exact absurd H (by simp)
 ·
  rw [if_neg c3] at H
  exact absurd H (by simp)
def ship_Level.f (k : Nat) (a0_0 : Int) (a0_1 : Int) (a0_2 : Int) (l0_3 : List (S85)) (a0_4 : Int) (l0_5 : List (S59)) (l0_6 : List (S79)) (l1 : List Int) : Option (Bool × Int × Int × Int) := (ship_CheckStowage.f k a0_0 a0_1 a0_2 l0_3 a0_4 l0_5 l0_6 l1).bind fun t737 => (if t737 = 0 then ((ship_apart.f k a0_0 a0_1 a0_2 l0_3 a0_4 l0_5 l0_6 l1).bind fun bt738 => ((ship_level.f k a0_0 a0_1 a0_2 l0_3 a0_4 l0_5 l0_6 bt738.1 bt738.2).bind fun t741 => (some (t741, bt738.1, bt738.2, 0)))) else (some (false, 0, 0, t737)))
set_option maxHeartbeats 8000000 in
set_option maxRecDepth 100000 in
theorem ship_Level.calls (k : Nat) (a0_0 : Int) (a0_1 : Int) (a0_2 : Int) (A0_3 : Option Addr) (c0_3 : Nat) (l0_3 : List (S85)) (a0_4 : Int) (A0_5 : Option Addr) (c0_5 : Nat) (l0_5 : List (S59)) (A0_6 : Option Addr) (c0_6 : Nat) (l0_6 : List (S79)) (A1 : Option Addr) (c1 : Nat) (l1 : List Int) (r1 : Bool) (r2 : Int) (r3 : Int) (r4 : Int) (w : World) (hr0_3 : Kd.C k85 w A0_3 l0_3.length l0_3) (hc0_3 : l0_3.length ≤ c0_3) (hr0_5 : Kd.C k59 w A0_5 l0_5.length l0_5) (hc0_5 : l0_5.length ≤ c0_5) (hr0_6 : Kd.C k79 w A0_6 l0_6.length l0_6) (hc0_6 : l0_6.length ≤ c0_6) (hr1 : Kd.C (Kd.int .i64) w A1 l1.length l1) (hc1 : l1.length ≤ c1) (h : ship_Level.f k a0_0 a0_1 a0_2 l0_3 a0_4 l0_5 l0_6 l1 = some (r1, r2, r3, r4)) :
  Calls Try.prog 37 #[.agg #[.int .i64 a0_0, .int .i64 a0_1, .int .i64 a0_2, .slice A0_3 l0_3.length c0_3, .int .i64 a0_4, .slice A0_5 l0_5.length c0_5, .slice A0_6 l0_6.length c0_6], .slice A1 l1.length c1] w fun e w' => e = .returned (.tuple #[.bool r1, .agg #[.int .i64 r2, .int .i64 r3], .int .i64 r4]) ∧ Below w.heap.size w w' := by
 have hu26 := Try.underlying26
 have hu56 := Try.underlying56
 have HR0_3 := Aside0.mk hr0_3
 have HC0_3 := Aside0.mk hc0_3
 clear hr0_3 hc0_3
 have HR0_5 := Aside0.mk hr0_5
 have HC0_5 := Aside0.mk hc0_5
 clear hr0_5 hc0_5
 have HR0_6 := Aside0.mk hr0_6
 have HC0_6 := Aside0.mk hc0_6
 clear hr0_6 hc0_6
 have HR1 := Aside0.mk hr1
 have HC1 := Aside0.mk hc1
 clear hr1 hc1
 have HB := Aside0.mk (Below.refl w.heap.size w)
 have H : ((ship_CheckStowage.f k a0_0 a0_1 a0_2 l0_3 a0_4 l0_5 l0_6 l1).bind fun t737 => (if t737 = 0 then ((ship_apart.f k a0_0 a0_1 a0_2 l0_3 a0_4 l0_5 l0_6 l1).bind fun bt738 => ((ship_level.f k a0_0 a0_1 a0_2 l0_3 a0_4 l0_5 l0_6 bt738.1 bt738.2).bind fun t741 => (some (t741, bt738.1, bt738.2, 0)))) else (some (false, 0, 0, t737)))) = some (r1, r2, r3, r4) := h
 clear h
 replace H := Option.bind_eq_some_iff.mp H
 obtain ⟨t737, A30, H⟩ := H
 try dsimp only at H
 have A3 := Aside0.mk A30
 clear A30
 by_cases c4 : t737 = 0
 ·
  rw [if_pos c4] at H
  have c4b0 : (t737 == 0) = true := beq_iff_eq.mpr c4
  have c4b1 : (t737 != 0) = false := bne_eq_false_iff_eq.mpr c4
  clear c4
  replace H := Option.bind_eq_some_iff.mp H
  obtain ⟨⟨t738, t739⟩, A50, H⟩ := H
  try dsimp only at H
  have A5 := Aside0.mk A50
  clear A50
  replace H := Option.bind_eq_some_iff.mp H
  obtain ⟨t741, A60, H⟩ := H
  replace H : (some (t741, t738, t739, 0)) = some (r1, r2, r3, r4) := H
  have A6 := Aside0.mk A60
  clear A60
  simp only [Option.some.injEq, Prod.mk.injEq] at H
  obtain ⟨rfl, rfl, rfl, rfl⟩ := H
  go_enter Try.func37, Try.ntmps37
  try go_wp2_with (first | ((with_reducible refine gate_dst (N := 2) rfl ?_); refine box_event ?hg (N := 2) ?hd (cs := #[.int .i64 a0_0, .int .i64 a0_1, .int .i64 a0_2, .slice A0_3 l0_3.length c0_3, .int .i64 a0_4, .slice A0_5 l0_5.length c0_5, .slice A0_6 l0_6.length c0_6]) (t := 26) ?hr ?_; (case hd => rfl); (case hg => rfl); (case hr => first | (go_simp; done) | (go_simp; rfl)); intro gb735 hg w7 hbox hb; have BK735 := Aside0.mk (hbox); have GW735 := Aside0.mk ((by rw [hg]; exact (below_size (below_x HB.out)) : w.heap.size ≤ gb735)); have GE735 := Aside0.mk ((by rw [hg]; exact (below_size (below_x HB.out)) : w.heap.size ≤ gb735)); replace HB := Aside0.mk (below_step (below_x HB.out) hb); clear hb hbox hg) | ((with_reducible refine gate_dst (N := 5) rfl ?_); refine box_event ?hg (N := 5) ?hd (cs := #[.int .i64 0, .int .i64 0]) (t := 56) ?hr ?_; (case hd => rfl); (case hg => rfl); (case hr => first | (go_simp; done) | (go_simp; rfl)); intro gb736 hg w8 hbox hb; have BK736 := Aside0.mk (hbox); have GW736 := Aside0.mk ((by rw [hg]; exact (below_size (by exact below_y HB.out)) : w.heap.size ≤ gb736)); have GE736 := Aside0.mk ((by rw [hg]; exact (below_size (by exact below_y HB.out)) : w.heap.size ≤ gb736)); replace HB := bl_x HB hb; have NB735_736 := Aside0.mk ((by rw [hg]; exact Nat.ne_of_lt (blk_lt (g := gb735) (o := .cells #[.int .i64 a0_0, .int .i64 a0_1, .int .i64 a0_2, .slice A0_3 l0_3.length c0_3, .int .i64 a0_4, .slice A0_5 l0_5.length c0_5, .slice A0_6 l0_6.length c0_6] 26 (0, 0)) (blk_x BK735.out)) : gb735 ≠ gb736)); have NB736_735 := Aside0.mk ((by rw [hg]; exact Nat.ne_of_gt (blk_lt (g := gb735) (o := .cells #[.int .i64 a0_0, .int .i64 a0_1, .int .i64 a0_2, .slice A0_3 l0_3.length c0_3, .int .i64 a0_4, .slice A0_5 l0_5.length c0_5, .slice A0_6 l0_6.length c0_6] 26 (0, 0)) (blk_x BK735.out)) : gb736 ≠ gb735)); replace BK735 := Aside0.mk (blk_below (blk_x BK735.out) hb); clear hb hbox hg; have hnb9 := NB735_736.out; have hnc9 := NB736_735.out; obtain ⟨_, _, _, _, _, _, _⟩ := cz7 BK735; have hfz10_0 := blk_frozen BK735.out) | ((with_reducible refine gate_callee (f := 40) rfl ?_); refine goesL_ (some 11) rfl rfl Try.func40 (by kernel_rfl) rfl #[.agg #[.int .i64 a0_0, .int .i64 a0_1, .int .i64 a0_2, .slice A0_3 l0_3.length c0_3, .int .i64 a0_4, .slice A0_5 l0_5.length c0_5, .slice A0_6 l0_6.length c0_6], .slice A1 l1.length c1] rfl (by (try simp only [List.map_toArray, List.map_cons, List.map_nil]); first | done | rfl | (simp only [List.length_drop, List.length_take]; rfl)) ?_; (with_reducible refine (ship_CheckStowage.calls k a0_0 a0_1 a0_2 _ _ l0_3 a0_4 _ _ l0_5 _ _ l0_6 _ _ l1 t737 _ ?side1 ?side2 ?side3 ?side4 ?side5 ?side6 ?side7 ?side8 A3.out).mono ?_); (case side1 => exact Kd.C_x HR0_3.out HB.out); (case side2 => exact HC0_3.out); (case side3 => exact Kd.C_x HR0_5.out HB.out); (case side4 => exact HC0_5.out); (case side5 => exact Kd.C_x HR0_6.out HB.out); (case side6 => exact HC0_6.out); (case side7 => exact Kd.C_x HR1.out HB.out); (case side8 => exact HC1.out); rintro e w11 ⟨rfl, hb⟩; refine ⟨_, rfl, ?_⟩; replace BK735 := Aside0.mk (blk_below (blk_x BK735.out) hb); replace BK736 := Aside0.mk (blk_below (blk_x BK736.out) hb); replace HB := bl_x HB hb; (try clear hb); (try clear hk); (try clear hi); obtain ⟨_, _, _, _, _, _, _⟩ := cz7 BK735; have hfz12_0 := blk_frozen BK735.out) | ((with_reducible refine gate_callee (f := 65) rfl ?_); refine goesL_ (some 18) rfl rfl Try.func65 (by kernel_rfl) rfl #[.agg #[.int .i64 a0_0, .int .i64 a0_1, .int .i64 a0_2, .slice A0_3 l0_3.length c0_3, .int .i64 a0_4, .slice A0_5 l0_5.length c0_5, .slice A0_6 l0_6.length c0_6], .slice A1 l1.length c1] rfl (by (try simp only [List.map_toArray, List.map_cons, List.map_nil]); first | done | rfl | (simp only [List.length_drop, List.length_take]; rfl)) ?_; (with_reducible refine (ship_apart.calls k a0_0 a0_1 a0_2 _ _ l0_3 a0_4 _ _ l0_5 _ _ l0_6 _ _ l1 t738 t739 _ ?side1 ?side2 ?side3 ?side4 ?side5 ?side6 ?side7 ?side8 A5.out).mono ?_); (case side1 => exact Kd.C_x HR0_3.out HB.out); (case side2 => exact HC0_3.out); (case side3 => exact Kd.C_x HR0_5.out HB.out); (case side4 => exact HC0_5.out); (case side5 => exact Kd.C_x HR0_6.out HB.out); (case side6 => exact HC0_6.out); (case side7 => exact Kd.C_x HR1.out HB.out); (case side8 => exact HC1.out); rintro e w13 ⟨rfl, hb⟩; refine ⟨_, rfl, ?_⟩; replace BK735 := Aside0.mk (blk_below (blk_x BK735.out) hb); replace BK736 := Aside0.mk (blk_below (blk_x BK736.out) hb); replace HB := bl_x HB hb; (try clear hb); (try clear hk); (try clear hi)) | ((with_reducible refine gate_dst (N := 8) rfl ?_); refine box_event ?hg (N := 8) ?hd (cs := #[.int .i64 0, .int .i64 0]) (t := 56) ?hr ?_; (case hd => rfl); (case hg => rfl); (case hr => first | (go_simp; done) | (go_simp; rfl)); intro gb740 hg w14 hbox hb; have BK740 := Aside0.mk (hbox); have GW740 := Aside0.mk ((by rw [hg]; exact (below_size (by exact below_y HB.out)) : w.heap.size ≤ gb740)); have GE740 := Aside0.mk ((by rw [hg]; exact (below_size (by exact below_y HB.out)) : w.heap.size ≤ gb740)); replace HB := bl_x HB hb; have NB735_740 := Aside0.mk ((by rw [hg]; exact Nat.ne_of_lt (blk_lt (g := gb735) (o := .cells #[.int .i64 a0_0, .int .i64 a0_1, .int .i64 a0_2, .slice A0_3 l0_3.length c0_3, .int .i64 a0_4, .slice A0_5 l0_5.length c0_5, .slice A0_6 l0_6.length c0_6] 26 (0, 0)) (blk_x BK735.out)) : gb735 ≠ gb740)); have NB740_735 := Aside0.mk ((by rw [hg]; exact Nat.ne_of_gt (blk_lt (g := gb735) (o := .cells #[.int .i64 a0_0, .int .i64 a0_1, .int .i64 a0_2, .slice A0_3 l0_3.length c0_3, .int .i64 a0_4, .slice A0_5 l0_5.length c0_5, .slice A0_6 l0_6.length c0_6] 26 (0, 0)) (blk_x BK735.out)) : gb740 ≠ gb735)); replace BK735 := Aside0.mk (blk_below (blk_x BK735.out) hb); have NB736_740 := Aside0.mk ((by rw [hg]; exact Nat.ne_of_lt (blk_lt (g := gb736) (o := .cells #[.int .i64 0, .int .i64 0] 56 (0, 0)) (blk_x BK736.out)) : gb736 ≠ gb740)); have NB740_736 := Aside0.mk ((by rw [hg]; exact Nat.ne_of_gt (blk_lt (g := gb736) (o := .cells #[.int .i64 0, .int .i64 0] 56 (0, 0)) (blk_x BK736.out)) : gb740 ≠ gb736)); replace BK736 := Aside0.mk (blk_below (blk_x BK736.out) hb); clear hb hbox hg; have hnb15 := NB740_735.out; have hnc15 := NB735_740.out; have hnb16 := NB740_736.out; have hnc16 := NB736_740.out; obtain ⟨_, _⟩ := cz2 BK740; have hfz17_0 := blk_frozen BK740.out))
  have n0_ : Aside0 (((w14.setCell ⟨gb740, 0, none⟩ (.int .i64 t738)).setCell ⟨gb740, 1, none⟩ (.int .i64 t739)).heap[gb735]? = some (.cells #[.int .i64 a0_0, .int .i64 a0_1, .int .i64 a0_2, .slice A0_3 l0_3.length c0_3, .int .i64 a0_4, .slice A0_5 l0_5.length c0_5, .slice A0_6 l0_6.length c0_6] 26 (0, 0))) := ⟨blk_w BK735.out⟩
  have n1_ : Aside0 (((w14.setCell ⟨gb740, 0, none⟩ (.int .i64 t738)).setCell ⟨gb740, 1, none⟩ (.int .i64 t739)).heap[gb736]? = some (.cells #[.int .i64 0, .int .i64 0] 56 (0, 0))) := ⟨blk_w BK736.out⟩
  have n2_ : Aside0 (((w14.setCell ⟨gb740, 0, none⟩ (.int .i64 t738)).setCell ⟨gb740, 1, none⟩ (.int .i64 t739)).heap[gb740]? = some (.cells #[.int .i64 t738, .int .i64 t739] 56 (0, 0))) := ⟨by (with_reducible repeat (first | refine blk_drewN ?_ _ | refine blk_drew ?_ | refine blk_alloc ?_ _)); refine blk_put (cs := #[.int .i64 t738, .int .i64 0]) ?_ 1 _ rfl; (with_reducible repeat (first | refine blk_drewN ?_ _ | refine blk_drew ?_ | refine blk_alloc ?_ _)); refine blk_put (cs := #[.int .i64 0, .int .i64 0]) ?_ 0 _ rfl; (with_reducible repeat (first | refine blk_drewN ?_ _ | refine blk_drew ?_ | refine blk_alloc ?_ _)); exact BK740.out⟩
  have n3_ : Aside0 (Below w.heap.size w ((w14.setCell ⟨gb740, 0, none⟩ (.int .i64 t738)).setCell ⟨gb740, 1, none⟩ (.int .i64 t739))) := ⟨by exact below_y HB.out⟩
  (try clear BK735)
  (try clear BK736)
  (try clear BK740)
  (try clear HB)
  generalize ((w14.setCell ⟨gb740, 0, none⟩ (.int .i64 t738)).setCell ⟨gb740, 1, none⟩ (.int .i64 t739)) = w18 at n0_ n1_ n2_ n3_ ⊢
  have BK735 := n0_
  have BK736 := n1_
  have BK740 := n2_
  have HB := n3_
  clear n0_ n1_ n2_ n3_
  replace BK735 := Aside0.mk (blk_drew BK735.out)
  replace BK736 := Aside0.mk (blk_drew BK736.out)
  replace BK740 := Aside0.mk (blk_drew BK740.out)
  replace HB := Aside0.mk (below_drew1 HB.out)
  refine start_ (n := 7) (S := fun w' => w'.cell? ⟨gb735, 0, none⟩ = some (.int .i64 a0_0) ∧ w'.cell? ⟨gb735, 1, none⟩ = some (.int .i64 a0_1) ∧ w'.cell? ⟨gb735, 2, none⟩ = some (.int .i64 a0_2) ∧ w'.cell? ⟨gb735, 3, none⟩ = some (.slice A0_3 l0_3.length c0_3) ∧ w'.cell? ⟨gb735, 4, none⟩ = some (.int .i64 a0_4) ∧ w'.cell? ⟨gb735, 5, none⟩ = some (.slice A0_5 l0_5.length c0_5) ∧ w'.cell? ⟨gb735, 6, none⟩ = some (.slice A0_6 l0_6.length c0_6) ∧ w'.cell? ⟨gb740, 0, none⟩ = some (.int .i64 t738) ∧ w'.cell? ⟨gb740, 1, none⟩ = some (.int .i64 t739)) (ds := []) #[false, false, false, false, false, false, false] (by kernel_rfl) rfl rfl ⟨(blk_cell BK735.out 0).trans rfl, (blk_cell BK735.out 1).trans rfl, (blk_cell BK735.out 2).trans rfl, (blk_cell BK735.out 3).trans rfl, (blk_cell BK735.out 4).trans rfl, (blk_cell BK735.out 5).trans rfl, (blk_cell BK735.out 6).trans rfl, (blk_cell BK740.out 0).trans rfl, (blk_cell BK740.out 1).trans rfl⟩ (fun hHeld => ?_)
  generalize w18.drew = w19 at BK735 BK736 BK740 HB hHeld ⊢
  refine take_ (i := 0) (N := some 19) (v := ?_) (a' := ?_) (bz 7 1) rfl rfl (by kernel_rfl) (fun _ _ _ h => h) (Or.inl ⟨by rfl, ?_⟩) hHeld ?_ ?_
  rotate_left; (rintro w' ⟨s0, s1, s2, s3, s4, s5, s6, s7, s8⟩; go_simp; with_reducible rfl); rotate_left; (simp only [Act.put, put_x, i64_w, i32_w]; rfl)
  refine take_ (i := 1) (N := some 20) (v := ?_) (a' := ?_) (bz 7 3) rfl rfl (by kernel_rfl) (fun _ _ _ h => h) (Or.inl ⟨by rfl, ?_⟩) hHeld ?_ ?_
  rotate_left; (rintro w' ⟨s0, s1, s2, s3, s4, s5, s6, s7, s8⟩; go_simp; with_reducible rfl); rotate_left; (simp only [Act.put, put_x, i64_w, i32_w]; rfl)
  refine take_ (i := 3) (N := some 22) (v := ?_) (a' := ?_) (bz 7 11) rfl rfl (by kernel_rfl) (fun _ _ _ h => h) (Or.inl ⟨by rfl, ?_⟩) hHeld ?_ ?_
  rotate_left; (rintro w' ⟨s0, s1, s2, s3, s4, s5, s6, s7, s8⟩; go_simp; with_reducible rfl); rotate_left; (simp only [Act.put, put_x, i64_w, i32_w]; rfl)
  refine one_ (i := 2) (N := some 21) (bz 7 15) rfl rfl (by kernel_rfl) (by decide) (fun K hK => ?_)
  refine goes_ Try.func64 (by kernel_rfl) rfl #[.agg #[.int .i64 a0_0, .int .i64 a0_1, .int .i64 a0_2, .slice A0_3 l0_3.length c0_3, .int .i64 a0_4, .slice A0_5 l0_5.length c0_5, .slice A0_6 l0_6.length c0_6], .agg #[.int .i64 t738, .int .i64 t739]] (by rfl) rfl rfl (by (try simp only [List.map_toArray, List.map_cons, List.map_nil]); first | done | rfl | (simp only [List.length_drop, List.length_take]; rfl)) ?_
  with_reducible refine (ship_level.calls k a0_0 a0_1 a0_2 _ _ l0_3 a0_4 _ _ l0_5 _ _ l0_6 t738 t739 t741 _ ?side1 ?side2 ?side3 ?side4 ?side5 ?side6 A6.out).mono ?_
  (case side1 => exact Kd.C_x HR0_3.out HB.out)
  (case side2 => exact HC0_3.out)
  (case side3 => exact Kd.C_x HR0_5.out HB.out)
  (case side4 => exact HC0_5.out)
  (case side5 => exact Kd.C_x HR0_6.out HB.out)
  (case side6 => exact HC0_6.out)
  rintro e w20 ⟨rfl, hb⟩
  refine ⟨_, rfl, ?_⟩
  replace BK735 := Aside0.mk (blk_below (blk_x BK735.out) hb)
  replace BK736 := Aside0.mk (blk_below (blk_x BK736.out) hb)
  replace BK740 := Aside0.mk (blk_below (blk_x BK740.out) hb)
  replace HB := bl_x HB hb
  (try clear hb)
  (try clear hb2)
  (try clear hk)
  (try clear hi)
  refine hK.out _ _ ⟨(blk_cell BK735.out 0).trans rfl, (blk_cell BK735.out 1).trans rfl, (blk_cell BK735.out 2).trans rfl, (blk_cell BK735.out 3).trans rfl, (blk_cell BK735.out 4).trans rfl, (blk_cell BK735.out 5).trans rfl, (blk_cell BK735.out 6).trans rfl, (blk_cell BK740.out 0).trans rfl, (blk_cell BK740.out 1).trans rfl⟩ (fun hHeld => ?_)
  clear hK K
  refine norm_ (a' := ?_) ?_ ?_; rotate_left; (show Act.put _ (some 21) _ = _; simp only [Act.put, put_x, i64_w, i32_w]; rfl)
  refine pure_y 4 (some 4) (bz 7 31) ?_
  refine one_ (i := 5) (N := none) (bz 7 63) rfl rfl (by kernel_rfl) (by decide) (fun K hK => ?_)
  have hs21 : w20.cell? ⟨gb736, 0, none⟩ = some (.int .i64 0) := (blk_cell BK736.out 0).trans rfl
  have hfs21 := blk_frozen BK736.out 0
  have hns21_0 := NB735_736.out
  have hns21_2 := NB740_736.out
  have hms21_0 := NB736_735.out
  have hms21_2 := NB736_740.out
  have hs22 : w20.cell? ⟨gb736, 1, none⟩ = some (.int .i64 0) := (blk_cell BK736.out 1).trans rfl
  have hfs22 := blk_frozen BK736.out 1
  have hns22_0 := NB735_736.out
  have hns22_2 := NB740_736.out
  have hms22_0 := NB736_735.out
  have hms22_2 := NB736_740.out
  refine skip_ (w1 := ?_) (by rfl) rfl ?_ ?_
  rotate_left
  ·
   go_simp
   rfl
  refine hK.out _ _ ⟨((cell_far (p := ⟨gb736, _, none⟩) NB735_736.out _).trans (((cell_far (p := ⟨gb736, _, none⟩) NB735_736.out _).trans (hHeld.1)))), ((cell_far (p := ⟨gb736, _, none⟩) NB735_736.out _).trans (((cell_far (p := ⟨gb736, _, none⟩) NB735_736.out _).trans (hHeld.2.1)))), ((cell_far (p := ⟨gb736, _, none⟩) NB735_736.out _).trans (((cell_far (p := ⟨gb736, _, none⟩) NB735_736.out _).trans (hHeld.2.2.1)))), ((cell_far (p := ⟨gb736, _, none⟩) NB735_736.out _).trans (((cell_far (p := ⟨gb736, _, none⟩) NB735_736.out _).trans (hHeld.2.2.2.1)))), ((cell_far (p := ⟨gb736, _, none⟩) NB735_736.out _).trans (((cell_far (p := ⟨gb736, _, none⟩) NB735_736.out _).trans (hHeld.2.2.2.2.1)))), ((cell_far (p := ⟨gb736, _, none⟩) NB735_736.out _).trans (((cell_far (p := ⟨gb736, _, none⟩) NB735_736.out _).trans (hHeld.2.2.2.2.2.1)))), ((cell_far (p := ⟨gb736, _, none⟩) NB735_736.out _).trans (((cell_far (p := ⟨gb736, _, none⟩) NB735_736.out _).trans (hHeld.2.2.2.2.2.2.1)))), ((cell_far (p := ⟨gb736, _, none⟩) NB740_736.out _).trans (((cell_far (p := ⟨gb736, _, none⟩) NB740_736.out _).trans (hHeld.2.2.2.2.2.2.2.1)))), ((cell_far (p := ⟨gb736, _, none⟩) NB740_736.out _).trans (((cell_far (p := ⟨gb736, _, none⟩) NB740_736.out _).trans (hHeld.2.2.2.2.2.2.2.2))))⟩ (fun hHeld => ?_)
  clear hK K
  refine pure_y 6 (some 6) (bz 7 127) ?_
  refine done_ (by kernel_rfl) ?_
  try go_wp2
  refine bodyPost_ret (results_list (rs := [.tmp 4, .cell 5 56, .tmp 6]) rfl (by simp) (.tmp (.cell gb736 56 #[.int .i64 t738, .int .i64 t739] (0, 0) _ rfl (by (with_reducible repeat (first | refine blk_drewN ?_ _ | refine blk_drew ?_ | refine blk_alloc ?_ _)); refine blk_put (cs := #[.int .i64 t738, .int .i64 0]) ?_ 1 _ rfl; (with_reducible repeat (first | refine blk_drewN ?_ _ | refine blk_drew ?_ | refine blk_alloc ?_ _)); refine blk_put (cs := #[.int .i64 0, .int .i64 0]) ?_ 0 _ rfl; (with_reducible repeat (first | refine blk_drewN ?_ _ | refine blk_drew ?_ | refine blk_alloc ?_ _)); exact BK736.out) Try.underlying56 rfl (by kernel_rfl) (.tmp .nil)))) rfl ?_
  exact ⟨by first | rfl | (simp [errW_none, errW_some] <;> rfl) | (simp [*, errW_none, errW_some] <;> rfl), by exact below_y HB.out⟩
 ·
  rw [if_neg c4] at H
  have c4b0 : (t737 == 0) = false := beq_eq_false_iff_ne.mpr c4
  have c4b1 : (t737 != 0) = true := bne_iff_ne.mpr c4
  simp only [Option.some.injEq, Prod.mk.injEq] at H
  obtain ⟨rfl, rfl, rfl, rfl⟩ := H
  go_enter Try.func37, Try.ntmps37
  go_wp2_with (first | ((with_reducible refine gate_dst (N := 2) rfl ?_); refine box_event ?hg (N := 2) ?hd (cs := #[.int .i64 a0_0, .int .i64 a0_1, .int .i64 a0_2, .slice A0_3 l0_3.length c0_3, .int .i64 a0_4, .slice A0_5 l0_5.length c0_5, .slice A0_6 l0_6.length c0_6]) (t := 26) ?hr ?_; (case hd => rfl); (case hg => rfl); (case hr => first | (go_simp; done) | (go_simp; rfl)); intro gb735 hg w23 hbox hb; have BK735 := Aside0.mk (hbox); have GW735 := Aside0.mk ((by rw [hg]; exact (below_size (below_x HB.out)) : w.heap.size ≤ gb735)); have GE735 := Aside0.mk ((by rw [hg]; exact (below_size (below_x HB.out)) : w.heap.size ≤ gb735)); replace HB := Aside0.mk (below_step (below_x HB.out) hb); clear hb hbox hg) | ((with_reducible refine gate_dst (N := 5) rfl ?_); refine box_event ?hg (N := 5) ?hd (cs := #[.int .i64 0, .int .i64 0]) (t := 56) ?hr ?_; (case hd => rfl); (case hg => rfl); (case hr => first | (go_simp; done) | (go_simp; rfl)); intro gb736 hg w24 hbox hb; have BK736 := Aside0.mk (hbox); have GW736 := Aside0.mk ((by rw [hg]; exact (below_size (by exact below_y HB.out)) : w.heap.size ≤ gb736)); have GE736 := Aside0.mk ((by rw [hg]; exact (below_size (by exact below_y HB.out)) : w.heap.size ≤ gb736)); replace HB := bl_x HB hb; have NB735_736 := Aside0.mk ((by rw [hg]; exact Nat.ne_of_lt (blk_lt (g := gb735) (o := .cells #[.int .i64 a0_0, .int .i64 a0_1, .int .i64 a0_2, .slice A0_3 l0_3.length c0_3, .int .i64 a0_4, .slice A0_5 l0_5.length c0_5, .slice A0_6 l0_6.length c0_6] 26 (0, 0)) (blk_x BK735.out)) : gb735 ≠ gb736)); have NB736_735 := Aside0.mk ((by rw [hg]; exact Nat.ne_of_gt (blk_lt (g := gb735) (o := .cells #[.int .i64 a0_0, .int .i64 a0_1, .int .i64 a0_2, .slice A0_3 l0_3.length c0_3, .int .i64 a0_4, .slice A0_5 l0_5.length c0_5, .slice A0_6 l0_6.length c0_6] 26 (0, 0)) (blk_x BK735.out)) : gb736 ≠ gb735)); replace BK735 := Aside0.mk (blk_below (blk_x BK735.out) hb); clear hb hbox hg; have hnb25 := NB735_736.out; have hnc25 := NB736_735.out; obtain ⟨_, _, _, _, _, _, _⟩ := cz7 BK735; have hfz26_0 := blk_frozen BK735.out) | ((with_reducible refine gate_callee (f := 40) rfl ?_); refine goesL_ (some 11) rfl rfl Try.func40 (by kernel_rfl) rfl #[.agg #[.int .i64 a0_0, .int .i64 a0_1, .int .i64 a0_2, .slice A0_3 l0_3.length c0_3, .int .i64 a0_4, .slice A0_5 l0_5.length c0_5, .slice A0_6 l0_6.length c0_6], .slice A1 l1.length c1] rfl (by (try simp only [List.map_toArray, List.map_cons, List.map_nil]); first | done | rfl | (simp only [List.length_drop, List.length_take]; rfl)) ?_; (with_reducible refine (ship_CheckStowage.calls k a0_0 a0_1 a0_2 _ _ l0_3 a0_4 _ _ l0_5 _ _ l0_6 _ _ l1 t737 _ ?side1 ?side2 ?side3 ?side4 ?side5 ?side6 ?side7 ?side8 A3.out).mono ?_); (case side1 => exact Kd.C_x HR0_3.out HB.out); (case side2 => exact HC0_3.out); (case side3 => exact Kd.C_x HR0_5.out HB.out); (case side4 => exact HC0_5.out); (case side5 => exact Kd.C_x HR0_6.out HB.out); (case side6 => exact HC0_6.out); (case side7 => exact Kd.C_x HR1.out HB.out); (case side8 => exact HC1.out); rintro e w27 ⟨rfl, hb⟩; refine ⟨_, rfl, ?_⟩; replace BK735 := Aside0.mk (blk_below (blk_x BK735.out) hb); replace BK736 := Aside0.mk (blk_below (blk_x BK736.out) hb); replace HB := bl_x HB hb; (try clear hb); (try clear hk); (try clear hi); obtain ⟨_, _⟩ := cz2 BK736; have hfz28_0 := blk_frozen BK736.out))
  refine bodyPost_ret (results_list (rs := [.tmp 4, .cell 5 56, .tmp 6]) rfl (by simp) (.tmp (.cell gb736 56 #[.int .i64 0, .int .i64 0] (0, 0) _ rfl (by (with_reducible repeat (first | refine blk_drewN ?_ _ | refine blk_drew ?_ | refine blk_alloc ?_ _)); refine blk_put (cs := #[.int .i64 0, .int .i64 0]) ?_ 1 _ rfl; (with_reducible repeat (first | refine blk_drewN ?_ _ | refine blk_drew ?_ | refine blk_alloc ?_ _)); refine blk_put (cs := #[.int .i64 0, .int .i64 0]) ?_ 0 _ rfl; (with_reducible repeat (first | refine blk_drewN ?_ _ | refine blk_drew ?_ | refine blk_alloc ?_ _)); exact BK736.out) Try.underlying56 rfl (by kernel_rfl) (.tmp .nil)))) rfl ?_
  exact ⟨by first | rfl | (simp [errW_none, errW_some] <;> rfl) | (simp [*, errW_none, errW_some] <;> rfl), by exact below_y HB.out⟩
def swarflaw07_fact_depth.l0 : Nat → Int → Int → Int → Int → List Int → List Int → List (List Int) → Int → Int → Int → List (S85) → Int → List (S59) → List (S79) → Option (Int)
 | 0, _, _, _, _, _, _, _, _, _, _, _, _, _, _ => none
 | k + 1, x2, x3, x9, x10, x784000, x784001, x784002, x785000, x785001, x785002, x785003, x785004, x785005, x785006 => if 0 ≤ x2 then (if x2 < (x785005.length : Int) then (if x10 < (((rd_T59 x785005 x2).f1).length : Int) then (if 0 ≤ x10 then (if ((rd_T62 ((rd_T59 x785005 x2).f1) x10).f0) ≤ x3 then (if x2 < (x784002.length : Int) then (if x10 < ((rd_L7 x784002 x2).length : Int) then (swarflaw07_fact_depth.l0 k x2 x3 (rd (rd_L7 x784002 x2) x10) (wrap64 (x10 + 1)) x784000 x784001 x784002 x785000 x785001 x785002 x785003 x785004 x785005 x785006) else (none)) else (none)) else (swarflaw07_fact_depth.l0 k x2 x3 x9 (wrap64 (x10 + 1)) x784000 x784001 x784002 x785000 x785001 x785002 x785003 x785004 x785005 x785006)) else (none)) else (some x9)) else (none)) else (none)
def swarflaw07_fact_depth.f (k : Nat) (l0_0 : List Int) (l0_1 : List Int) (l0_2 : List (List Int)) (a1_0 : Int) (a1_1 : Int) (a1_2 : Int) (l1_3 : List (S85)) (a1_4 : Int) (l1_5 : List (S59)) (l1_6 : List (S79)) (a2 : Int) (a3 : Int) : Option (Int) := swarflaw07_fact_depth.l0 k a2 a3 0 0 l0_0 l0_1 l0_2 a1_0 a1_1 a1_2 l1_3 a1_4 l1_5 l1_6
set_option maxHeartbeats 8000000 in
set_option maxRecDepth 100000 in
theorem swarflaw07_fact_depth.calls (k : Nat) (A0_0 : Option Addr) (c0_0 : Nat) (l0_0 : List Int) (A0_1 : Option Addr) (c0_1 : Nat) (l0_1 : List Int) (A0_2 : Option Addr) (c0_2 : Nat) (l0_2 : List (List Int)) (a1_0 : Int) (a1_1 : Int) (a1_2 : Int) (A1_3 : Option Addr) (c1_3 : Nat) (l1_3 : List (S85)) (a1_4 : Int) (A1_5 : Option Addr) (c1_5 : Nat) (l1_5 : List (S59)) (A1_6 : Option Addr) (c1_6 : Nat) (l1_6 : List (S79)) (a2 : Int) (a3 : Int) (r : Int) (w : World) (hr0_0 : Kd.C (Kd.int .i64) w A0_0 l0_0.length l0_0) (hc0_0 : l0_0.length ≤ c0_0) (hr0_1 : Kd.C (Kd.int .i64) w A0_1 l0_1.length l0_1) (hc0_1 : l0_1.length ≤ c0_1) (hr0_2 : Kd.C (Kd.slice 3 (Kd.int .i64)) w A0_2 l0_2.length l0_2) (hc0_2 : l0_2.length ≤ c0_2) (hr1_3 : Kd.C k85 w A1_3 l1_3.length l1_3) (hc1_3 : l1_3.length ≤ c1_3) (hr1_5 : Kd.C k59 w A1_5 l1_5.length l1_5) (hc1_5 : l1_5.length ≤ c1_5) (hr1_6 : Kd.C k79 w A1_6 l1_6.length l1_6) (hc1_6 : l1_6.length ≤ c1_6) (h : swarflaw07_fact_depth.f k l0_0 l0_1 l0_2 a1_0 a1_1 a1_2 l1_3 a1_4 l1_5 l1_6 a2 a3 = some r) :
  Calls Try.prog 78 #[.agg #[.slice A0_0 l0_0.length c0_0, .slice A0_1 l0_1.length c0_1, .slice A0_2 l0_2.length c0_2], .agg #[.int .i64 a1_0, .int .i64 a1_1, .int .i64 a1_2, .slice A1_3 l1_3.length c1_3, .int .i64 a1_4, .slice A1_5 l1_5.length c1_5, .slice A1_6 l1_6.length c1_6], .int .i64 a2, .int .i64 a3] w fun e w' => e = .returned (.int .i64 r) ∧ Below w.heap.size w w' := by
 have hu72 := Try.underlying72
 have hu26 := Try.underlying26
 have HR0_0 := Aside0.mk hr0_0
 have HC0_0 := Aside0.mk hc0_0
 clear hr0_0 hc0_0
 have HR0_1 := Aside0.mk hr0_1
 have HC0_1 := Aside0.mk hc0_1
 clear hr0_1 hc0_1
 have HR0_2 := Aside0.mk hr0_2
 have HC0_2 := Aside0.mk hc0_2
 clear hr0_2 hc0_2
 have HR1_3 := Aside0.mk hr1_3
 have HC1_3 := Aside0.mk hc1_3
 clear hr1_3 hc1_3
 have HR1_5 := Aside0.mk hr1_5
 have HC1_5 := Aside0.mk hc1_5
 clear hr1_5 hc1_5
 have HR1_6 := Aside0.mk hr1_6
 have HC1_6 := Aside0.mk hc1_6
 clear hr1_6 hc1_6
 have HB := Aside0.mk (Below.refl w.heap.size w)
 have H : (swarflaw07_fact_depth.l0 k a2 a3 0 0 l0_0 l0_1 l0_2 a1_0 a1_1 a1_2 l1_3 a1_4 l1_5 l1_6) = some r := h
 clear h
 have H' := Aside0.mk H
 clear H
 go_enter Try.func78, Try.ntmps78
 go_wp2_with (first | ((with_reducible refine gate_dst (N := 4) rfl ?_); refine box_event ?hg (N := 4) ?hd (cs := #[.slice A0_0 l0_0.length c0_0, .slice A0_1 l0_1.length c0_1, .slice A0_2 l0_2.length c0_2]) (t := 72) ?hr ?_; (case hd => rfl); (case hg => rfl); (case hr => first | (go_simp; done) | (go_simp; rfl)); intro gb783 hg w5 hbox hb; have BK783 := Aside0.mk (hbox); have GW783 := Aside0.mk ((by rw [hg]; exact (below_size (below_x HB.out)) : w.heap.size ≤ gb783)); have GE783 := Aside0.mk ((by rw [hg]; exact (below_size (below_x HB.out)) : w.heap.size ≤ gb783)); replace HB := Aside0.mk (below_step (below_x HB.out) hb); clear hb hbox hg) | ((with_reducible refine gate_dst (N := 5) rfl ?_); refine box_event ?hg (N := 5) ?hd (cs := #[.int .i64 a1_0, .int .i64 a1_1, .int .i64 a1_2, .slice A1_3 l1_3.length c1_3, .int .i64 a1_4, .slice A1_5 l1_5.length c1_5, .slice A1_6 l1_6.length c1_6]) (t := 26) ?hr ?_; (case hd => rfl); (case hg => rfl); (case hr => first | (go_simp; done) | (go_simp; rfl)); intro gb784 hg w6 hbox hb; have BK784 := Aside0.mk (hbox); have GW784 := Aside0.mk ((by rw [hg]; exact (below_size (by exact below_y HB.out)) : w.heap.size ≤ gb784)); have GE784 := Aside0.mk ((by rw [hg]; exact (below_size (by exact below_y HB.out)) : w.heap.size ≤ gb784)); replace HB := bl_x HB hb; have NB783_784 := Aside0.mk ((by rw [hg]; exact Nat.ne_of_lt (blk_lt (g := gb783) (o := .cells #[.slice A0_0 l0_0.length c0_0, .slice A0_1 l0_1.length c0_1, .slice A0_2 l0_2.length c0_2] 72 (0, 0)) (blk_x BK783.out)) : gb783 ≠ gb784)); have NB784_783 := Aside0.mk ((by rw [hg]; exact Nat.ne_of_gt (blk_lt (g := gb783) (o := .cells #[.slice A0_0 l0_0.length c0_0, .slice A0_1 l0_1.length c0_1, .slice A0_2 l0_2.length c0_2] 72 (0, 0)) (blk_x BK783.out)) : gb784 ≠ gb783)); replace BK783 := Aside0.mk (blk_below (blk_x BK783.out) hb); clear hb hbox hg))
 go_loopg [9, 10] k (fun kq v9 v10 w' => ∃ (x9_1 : Int) (x10_1 : Int), v9 = .int .i64 x9_1 ∧ v10 = .int .i64 x10_1 ∧ Aside0 (swarflaw07_fact_depth.l0 kq a2 a3 x9_1 x10_1 l0_0 l0_1 l0_2 a1_0 a1_1 a1_2 l1_3 a1_4 l1_5 l1_6 = some r) ∧ Aside0 (kq ≤ k) ∧ Aside0 (w'.heap[gb783]? = some (.cells #[(.slice A0_0 l0_0.length c0_0), (.slice A0_1 l0_1.length c0_1), (.slice A0_2 l0_2.length c0_2)] 72 (0, 0))) ∧ Aside0 (w'.heap[gb784]? = some (.cells #[.int .i64 a1_0, .int .i64 a1_1, .int .i64 a1_2, (.slice A1_3 l1_3.length c1_3), .int .i64 a1_4, (.slice A1_5 l1_5.length c1_5), (.slice A1_6 l1_6.length c1_6)] 26 (0, 0))) ∧ Aside0 (Below w.heap.size w w'))
 case atStart => exact ⟨(0), (0), (by first | rfl | (simp; done) | (simp [*]; done)), (by first | rfl | (simp; done) | (simp [*]; done)), H', ⟨Nat.le_refl _⟩, ⟨blk_x BK783.out⟩, ⟨blk_x BK784.out⟩, ⟨by exact below_y HB.out⟩⟩
 case round =>
  clear H'
  obtain ⟨x9_1, x10_1, rfl, rfl, HA, HK1, BK783, BK784, HB⟩ := hrel
  cases gk with
  | zero => exact absurd HA.out (by simp [swarflaw07_fact_depth.l0])
  | succ k1 =>
   have H := HA.out
   clear HA
   simp only [swarflaw07_fact_depth.l0] at H
   by_cases c7 : 0 ≤ a2
   ·
    rw [if_pos c7] at H
    have c7b0 : decide (0 ≤ a2) = true := decide_eq_true c7
    clear c7
    by_cases c8 : a2 < (l1_5.length : Int)
    ·
     rw [if_pos c8] at H
     have c8b0 : decide (a2 < (l1_5.length : Int)) = true := decide_eq_true c8
     clear c8
     by_cases c9 : x10_1 < (((rd_T59 l1_5 a2).f1).length : Int)
     ·
      rw [if_pos c9] at H
      have c9b0 : decide (x10_1 < (((rd_T59 l1_5 a2).f1).length : Int)) = true := decide_eq_true c9
      clear c9
      by_cases c10 : 0 ≤ x10_1
      ·
       rw [if_pos c10] at H
       have c10b0 : decide (0 ≤ x10_1) = true := decide_eq_true c10
       clear c10
       by_cases c11 : ((rd_T62 ((rd_T59 l1_5 a2).f1) x10_1).f0) ≤ a3
       ·
        rw [if_pos c11] at H
        have c11b0 : decide (((rd_T62 ((rd_T59 l1_5 a2).f1) x10_1).f0) ≤ a3) = true := decide_eq_true c11
        clear c11
        by_cases c12 : a2 < (l0_2.length : Int)
        ·
         rw [if_pos c12] at H
         have c12b0 : decide (a2 < (l0_2.length : Int)) = true := decide_eq_true c12
         clear c12
         by_cases c13 : x10_1 < ((rd_L7 l0_2 a2).length : Int)
         ·
          rw [if_pos c13] at H
          have c13b0 : decide (x10_1 < ((rd_L7 l0_2 a2).length : Int)) = true := decide_eq_true c13
          clear c13
          have H' := Aside0.mk H
          clear H
          have hnb14 := NB784_783.out
          have hnc14 := NB783_784.out
          obtain ⟨_, _, _, _, _, _, _⟩ := cz7 BK784
          have hfz15_0 := blk_frozen BK784.out
          have p785 : 0 ≤ (a2 : Int) := of_x
          have q785 : a2 < (l1_5.length : Int) := of_x
          obtain ⟨ad785, A785_2, c785_2, e785, hx785_0, hx785_1, hx785_2, hl785_2, hi785_2⟩ := at_T59 HR1_5.out a2 p785 q785
          cases e785
          replace hx785_0 := cell_x HB hx785_0
          replace hx785_1 := cell_x HB hx785_1
          replace hx785_2 := cell_x HB hx785_2
          have HR785_2 := Aside0.mk hi785_2
          have HC785_2 := Aside0.mk hl785_2
          clear hi785_2 hl785_2
          replace p785 := eq_true p785
          replace q785 := eq_true q785
          have p786 : 0 ≤ (a2 : Int) := of_x
          have q786 : a2 < (l1_5.length : Int) := of_x
          obtain ⟨ad786, A786_2, c786_2, e786, hx786_0, hx786_1, hx786_2, hl786_2, hi786_2⟩ := at_T59 HR1_5.out a2 p786 q786
          obtain rfl : ad785 = ad786 := (by injection e786)
          replace hx786_0 := cell_x HB hx786_0
          replace hx786_1 := cell_x HB hx786_1
          replace hx786_2 := cell_x HB hx786_2
          have HR786_2 := Aside0.mk hi786_2
          have HC786_2 := Aside0.mk hl786_2
          clear hi786_2 hl786_2
          replace p786 := eq_true p786
          replace q786 := eq_true q786
          have ea_ := Option.some.inj (hx785_2.symm.trans hx786_2)
          injection ea_ with ea_ en_ ec_
          subst ea_
          subst ec_
          clear en_
          have p787 : 0 ≤ (x10_1 : Int) := of_x
          have q787 : x10_1 < (((rd_T59 l1_5 a2).f1).length : Int) := of_x
          obtain ⟨ad787, e787, hx787_0, hx787_1, hx787_2⟩ := at_T62 HR786_2.out x10_1 p787 q787
          cases e787
          replace hx787_0 := cell_x HB hx787_0
          replace hx787_1 := cell_x HB hx787_1
          replace hx787_2 := cell_x HB hx787_2
          replace p787 := eq_true p787
          replace q787 := eq_true q787
          obtain ⟨_, _, _⟩ := cz3 BK783
          have hfz16_0 := blk_frozen BK783.out
          have p788 : 0 ≤ (a2 : Int) := of_x
          have q788 : a2 < (l0_2.length : Int) := of_x
          obtain ⟨ad788, A788_0, c788_0, e788, hx788_0, hl788_0, hi788_0⟩ := at_L7 HR0_2.out a2 p788 q788
          cases e788
          replace hx788_0 := cell_x HB hx788_0
          have HR788_0 := Aside0.mk hi788_0
          have HC788_0 := Aside0.mk hl788_0
          clear hi788_0 hl788_0
          replace p788 := eq_true p788
          replace q788 := eq_true q788
          have p789 : 0 ≤ (x10_1 : Int) := of_x
          have q789 : x10_1 < ((rd_L7 l0_2 a2).length : Int) := of_x
          obtain ⟨ad789, e789, hx789_0⟩ := Kd.at_int HR788_0.out x10_1 p789 q789
          cases e789
          replace hx789_0 := cell_x HB hx789_0
          replace p789 := eq_true p789
          replace q789 := eq_true q789
          go_wp2
          go_roundg k1
          case measure => have := HK1.out; omega
          case rel => exact ⟨(rd (rd_L7 l0_2 a2) x10_1), (wrap64 (x10_1 + 1)), (by first | rfl | (simp; done) | (simp [*]; done)), (by first | rfl | (simp; done) | (simp [*]; done)), H', ⟨by have := HK1.out; omega⟩, ⟨blk_x BK783.out⟩, ⟨blk_x BK784.out⟩, ⟨by exact below_y HB.out⟩⟩
         ·
          rw [if_neg c13] at H
          exact absurd H (by simp)
        ·
         rw [if_neg c12] at H
         exact absurd H (by simp)
       ·
        rw [if_neg c11] at H
        have c11b0 : decide (((rd_T62 ((rd_T59 l1_5 a2).f1) x10_1).f0) ≤ a3) = false := decide_eq_false c11
        clear c11
        have H' := Aside0.mk H
        clear H
        have hnb17 := NB784_783.out
        have hnc17 := NB783_784.out
        obtain ⟨_, _, _, _, _, _, _⟩ := cz7 BK784
        have hfz18_0 := blk_frozen BK784.out
        have p785 : 0 ≤ (a2 : Int) := of_x
        have q785 : a2 < (l1_5.length : Int) := of_x
        obtain ⟨ad785, A785_2, c785_2, e785, hx785_0, hx785_1, hx785_2, hl785_2, hi785_2⟩ := at_T59 HR1_5.out a2 p785 q785
        cases e785
        replace hx785_0 := cell_x HB hx785_0
        replace hx785_1 := cell_x HB hx785_1
        replace hx785_2 := cell_x HB hx785_2
        have HR785_2 := Aside0.mk hi785_2
        have HC785_2 := Aside0.mk hl785_2
        clear hi785_2 hl785_2
        replace p785 := eq_true p785
        replace q785 := eq_true q785
        have p786 : 0 ≤ (a2 : Int) := of_x
        have q786 : a2 < (l1_5.length : Int) := of_x
        obtain ⟨ad786, A786_2, c786_2, e786, hx786_0, hx786_1, hx786_2, hl786_2, hi786_2⟩ := at_T59 HR1_5.out a2 p786 q786
        obtain rfl : ad785 = ad786 := (by injection e786)
        replace hx786_0 := cell_x HB hx786_0
        replace hx786_1 := cell_x HB hx786_1
        replace hx786_2 := cell_x HB hx786_2
        have HR786_2 := Aside0.mk hi786_2
        have HC786_2 := Aside0.mk hl786_2
        clear hi786_2 hl786_2
        replace p786 := eq_true p786
        replace q786 := eq_true q786
        have ea_ := Option.some.inj (hx785_2.symm.trans hx786_2)
        injection ea_ with ea_ en_ ec_
        subst ea_
        subst ec_
        clear en_
        have p787 : 0 ≤ (x10_1 : Int) := of_x
        have q787 : x10_1 < (((rd_T59 l1_5 a2).f1).length : Int) := of_x
        obtain ⟨ad787, e787, hx787_0, hx787_1, hx787_2⟩ := at_T62 HR786_2.out x10_1 p787 q787
        cases e787
        replace hx787_0 := cell_x HB hx787_0
        replace hx787_1 := cell_x HB hx787_1
        replace hx787_2 := cell_x HB hx787_2
        replace p787 := eq_true p787
        replace q787 := eq_true q787
        go_wp2
        go_roundg k1
        case measure => have := HK1.out; omega
        case rel => exact ⟨(x9_1), (wrap64 (x10_1 + 1)), (by first | rfl | (simp; done) | (simp [*]; done)), (by first | rfl | (simp; done) | (simp [*]; done)), H', ⟨by have := HK1.out; omega⟩, ⟨blk_x BK783.out⟩, ⟨blk_x BK784.out⟩, ⟨by exact below_y HB.out⟩⟩
      ·
       rw [if_neg c10] at H
       exact absurd H (by simp)
     ·
      rw [if_neg c9] at H
      have c9b0 : decide (x10_1 < (((rd_T59 l1_5 a2).f1).length : Int)) = false := decide_eq_false c9
      clear c9
      obtain rfl := Option.some.inj H
      have hnb19 := NB784_783.out
      have hnc19 := NB783_784.out
      obtain ⟨_, _, _, _, _, _, _⟩ := cz7 BK784
      have hfz20_0 := blk_frozen BK784.out
      have p785 : 0 ≤ (a2 : Int) := of_x
      have q785 : a2 < (l1_5.length : Int) := of_x
      obtain ⟨ad785, A785_2, c785_2, e785, hx785_0, hx785_1, hx785_2, hl785_2, hi785_2⟩ := at_T59 HR1_5.out a2 p785 q785
      cases e785
      replace hx785_0 := cell_x HB hx785_0
      replace hx785_1 := cell_x HB hx785_1
      replace hx785_2 := cell_x HB hx785_2
      have HR785_2 := Aside0.mk hi785_2
      have HC785_2 := Aside0.mk hl785_2
      clear hi785_2 hl785_2
      replace p785 := eq_true p785
      replace q785 := eq_true q785
      go_wp2
      go_ret
      exact ⟨by first | rfl | (simp [errW_none, errW_some] <;> rfl) | (simp [*, errW_none, errW_some] <;> rfl), by exact below_y HB.out⟩
    ·
     rw [if_neg c8] at H
     exact absurd H (by simp)
   ·
    rw [if_neg c7] at H
    exact absurd H (by simp)
mutual
def swarflaw07_fact_sailed.l0 : Nat → List Int → Int → Int → Int → List Int → List Int → List (List Int) → Int → Int → Int → List (S85) → Int → List (S59) → List (S79) → Option (Int × Int × List Int)
 | 0, _, _, _, _, _, _, _, _, _, _, _, _, _, _ => none
 | k + 1, x2, x9, x10, x11, x791000, x791001, x791002, x792000, x792001, x792002, x792003, x792004, x792005, x792006 => if x11 < (x2.length : Int) then (if 0 ≤ x11 then (if (rd x2 x11) ≥ 0 then (if x11 < (x791000.length : Int) then (if 0 ≤ (rd x2 x11) then (if (rd x2 x11) < (x792003.length : Int) then (swarflaw07_fact_sailed.l0 k x2 (wrap64 (x9 + (wrap64 ((rd x791000 x11) * ((rd_T85 x792003 (rd x2 x11)).f1))))) (wrap64 (x10 + (wrap64 ((rd x791000 x11) * ((rd_T85 x792003 (rd x2 x11)).f2))))) (wrap64 (x11 + 1)) x791000 x791001 x791002 x792000 x792001 x792002 x792003 x792004 x792005 x792006) else (none)) else (none)) else (none)) else (swarflaw07_fact_sailed.l0 k x2 x9 x10 (wrap64 (x11 + 1)) x791000 x791001 x791002 x792000 x792001 x792002 x792003 x792004 x792005 x792006)) else (none)) else (swarflaw07_fact_sailed.l1 k x9 x10 (wrap64 ((mx x9 x10) + (wrap64 (1000 * x792001)))) ([] : List Int) x792004 0 x791000 x791001 x791002 x792000 x792001 x792002 x792003 x792004 x792005 x792006)
def swarflaw07_fact_sailed.l1 : Nat → Int → Int → Int → List Int → Int → Int → List Int → List Int → List (List Int) → Int → Int → Int → List (S85) → Int → List (S59) → List (S79) → Option (Int × Int × List Int)
 | 0, _, _, _, _, _, _, _, _, _, _, _, _, _, _, _, _ => none
 | k + 1, x9, x10, x12, x13, x14, x15, x791000, x791001, x791002, x792000, x792001, x792002, x792003, x792004, x792005, x792006 => if x15 < (x792005.length : Int) then (if 0 ≤ x15 then (if x15 < (x791001.length : Int) then (swarflaw07_fact_sailed.l2 k x9 x10 x12 x13 (wrap64 (x14 + (rd x791001 x15))) x15 x791000 x791001 x791002 x792000 x792001 x792002 x792003 x792004 x792005 x792006) else (none)) else (none)) else (some (x9, x10, x13))
def swarflaw07_fact_sailed.l2 : Nat → Int → Int → Int → List Int → Int → Int → List Int → List Int → List (List Int) → Int → Int → Int → List (S85) → Int → List (S59) → List (S79) → Option (Int × Int × List Int)
 | 0, _, _, _, _, _, _, _, _, _, _, _, _, _, _, _, _ => none
 | k + 1, x9, x10, x12, x13, x14, x15, x791000, x791001, x791002, x792000, x792001, x792002, x792003, x792004, x792005, x792006 => if x14 ≤ 2880 then ((swarflaw07_fact_depth.f k x791000 x791001 x791002 x792000 x792001 x792002 x792003 x792004 x792005 x792006 x15 x14).bind fun t800 => (if (wrap64 (1000 * t800)) < x12 then (swarflaw07_fact_sailed.l2 k x9 x10 x12 x13 (wrap64 (x14 + 1)) x15 x791000 x791001 x791002 x792000 x792001 x792002 x792003 x792004 x792005 x792006) else (if x14 > 2880 then (some (x9, x10, x13)) else (if x13.length < 17592186044416 then (swarflaw07_fact_sailed.l1 k x9 x10 x12 (x13 ++ [x14]) x14 (wrap64 (x15 + 1)) x791000 x791001 x791002 x792000 x792001 x792002 x792003 x792004 x792005 x792006) else (none))))) else (if x14 > 2880 then (some (x9, x10, x13)) else (if x13.length < 17592186044416 then (swarflaw07_fact_sailed.l1 k x9 x10 x12 (x13 ++ [x14]) x14 (wrap64 (x15 + 1)) x791000 x791001 x791002 x792000 x792001 x792002 x792003 x792004 x792005 x792006) else (none)))
end
def swarflaw07_fact_sailed.f (k : Nat) (l0_0 : List Int) (l0_1 : List Int) (l0_2 : List (List Int)) (a1_0 : Int) (a1_1 : Int) (a1_2 : Int) (l1_3 : List (S85)) (a1_4 : Int) (l1_5 : List (S59)) (l1_6 : List (S79)) (l2 : List Int) : Option (Int × Int × List Int) := swarflaw07_fact_sailed.l0 k l2 (wrap64 (1000 * a1_0)) (wrap64 (1000 * a1_0)) 0 l0_0 l0_1 l0_2 a1_0 a1_1 a1_2 l1_3 a1_4 l1_5 l1_6
set_option maxHeartbeats 8000000 in
set_option maxRecDepth 100000 in
theorem swarflaw07_fact_sailed.calls (k : Nat) (A0_0 : Option Addr) (c0_0 : Nat) (l0_0 : List Int) (A0_1 : Option Addr) (c0_1 : Nat) (l0_1 : List Int) (A0_2 : Option Addr) (c0_2 : Nat) (l0_2 : List (List Int)) (a1_0 : Int) (a1_1 : Int) (a1_2 : Int) (A1_3 : Option Addr) (c1_3 : Nat) (l1_3 : List (S85)) (a1_4 : Int) (A1_5 : Option Addr) (c1_5 : Nat) (l1_5 : List (S59)) (A1_6 : Option Addr) (c1_6 : Nat) (l1_6 : List (S79)) (A2 : Option Addr) (c2 : Nat) (l2 : List Int) (r1 : Int) (r2 : Int) (r3 : List Int) (w : World) (hr0_0 : Kd.C (Kd.int .i64) w A0_0 l0_0.length l0_0) (hc0_0 : l0_0.length ≤ c0_0) (hr0_1 : Kd.C (Kd.int .i64) w A0_1 l0_1.length l0_1) (hc0_1 : l0_1.length ≤ c0_1) (hr0_2 : Kd.C (Kd.slice 3 (Kd.int .i64)) w A0_2 l0_2.length l0_2) (hc0_2 : l0_2.length ≤ c0_2) (hr1_3 : Kd.C k85 w A1_3 l1_3.length l1_3) (hc1_3 : l1_3.length ≤ c1_3) (hr1_5 : Kd.C k59 w A1_5 l1_5.length l1_5) (hc1_5 : l1_5.length ≤ c1_5) (hr1_6 : Kd.C k79 w A1_6 l1_6.length l1_6) (hc1_6 : l1_6.length ≤ c1_6) (hr2 : Kd.C (Kd.int .i64) w A2 l2.length l2) (hc2 : l2.length ≤ c2) (h : swarflaw07_fact_sailed.f k l0_0 l0_1 l0_2 a1_0 a1_1 a1_2 l1_3 a1_4 l1_5 l1_6 l2 = some (r1, r2, r3)) :
  Calls Try.prog 43 #[.agg #[.slice A0_0 l0_0.length c0_0, .slice A0_1 l0_1.length c0_1, .slice A0_2 l0_2.length c0_2], .agg #[.int .i64 a1_0, .int .i64 a1_1, .int .i64 a1_2, .slice A1_3 l1_3.length c1_3, .int .i64 a1_4, .slice A1_5 l1_5.length c1_5, .slice A1_6 l1_6.length c1_6], .slice A2 l2.length c2] w fun e w' => ∃ v2_ : Value, e = .returned (.tuple #[.int .i64 r1, .int .i64 r2, v2_]) ∧ Kd.R (Kd.int .i64) 3 w' w.heap.size (fun _ => True) v2_ r3 ∧ Below w.heap.size w w' := by
 have hu72 := Try.underlying72
 have hu26 := Try.underlying26
 have HR0_0 := Aside0.mk hr0_0
 have HC0_0 := Aside0.mk hc0_0
 clear hr0_0 hc0_0
 have HR0_1 := Aside0.mk hr0_1
 have HC0_1 := Aside0.mk hc0_1
 clear hr0_1 hc0_1
 have HR0_2 := Aside0.mk hr0_2
 have HC0_2 := Aside0.mk hc0_2
 clear hr0_2 hc0_2
 have HR1_3 := Aside0.mk hr1_3
 have HC1_3 := Aside0.mk hc1_3
 clear hr1_3 hc1_3
 have HR1_5 := Aside0.mk hr1_5
 have HC1_5 := Aside0.mk hc1_5
 clear hr1_5 hc1_5
 have HR1_6 := Aside0.mk hr1_6
 have HC1_6 := Aside0.mk hc1_6
 clear hr1_6 hc1_6
 have HR2 := Aside0.mk hr2
 have HC2 := Aside0.mk hc2
 clear hr2 hc2
 have HB := Aside0.mk (Below.refl w.heap.size w)
 have H : (swarflaw07_fact_sailed.l0 k l2 (wrap64 (1000 * a1_0)) (wrap64 (1000 * a1_0)) 0 l0_0 l0_1 l0_2 a1_0 a1_1 a1_2 l1_3 a1_4 l1_5 l1_6) = some (r1, r2, r3) := h
 clear h
 have H' := Aside0.mk H
 clear H
 go_enter Try.func43, Try.ntmps43
 go_wp2_with (first | ((with_reducible refine gate_dst (N := 3) rfl ?_); refine box_event ?hg (N := 3) ?hd (cs := #[.slice A0_0 l0_0.length c0_0, .slice A0_1 l0_1.length c0_1, .slice A0_2 l0_2.length c0_2]) (t := 72) ?hr ?_; (case hd => rfl); (case hg => rfl); (case hr => first | (go_simp; done) | (go_simp; rfl)); intro gb790 hg w4 hbox hb; have BK790 := Aside0.mk (hbox); have GW790 := Aside0.mk ((by rw [hg]; exact (below_size (below_x HB.out)) : w.heap.size ≤ gb790)); have GE790 := Aside0.mk ((by rw [hg]; exact (below_size (below_x HB.out)) : w.heap.size ≤ gb790)); replace HB := Aside0.mk (below_step (below_x HB.out) hb); clear hb hbox hg) | ((with_reducible refine gate_dst (N := 4) rfl ?_); refine box_event ?hg (N := 4) ?hd (cs := #[.int .i64 a1_0, .int .i64 a1_1, .int .i64 a1_2, .slice A1_3 l1_3.length c1_3, .int .i64 a1_4, .slice A1_5 l1_5.length c1_5, .slice A1_6 l1_6.length c1_6]) (t := 26) ?hr ?_; (case hd => rfl); (case hg => rfl); (case hr => first | (go_simp; done) | (go_simp; rfl)); intro gb791 hg w5 hbox hb; have BK791 := Aside0.mk (hbox); have GW791 := Aside0.mk ((by rw [hg]; exact (below_size (by exact below_y HB.out)) : w.heap.size ≤ gb791)); have GE791 := Aside0.mk ((by rw [hg]; exact (below_size (by exact below_y HB.out)) : w.heap.size ≤ gb791)); replace HB := bl_x HB hb; have NB790_791 := Aside0.mk ((by rw [hg]; exact Nat.ne_of_lt (blk_lt (g := gb790) (o := .cells #[.slice A0_0 l0_0.length c0_0, .slice A0_1 l0_1.length c0_1, .slice A0_2 l0_2.length c0_2] 72 (0, 0)) (blk_x BK790.out)) : gb790 ≠ gb791)); have NB791_790 := Aside0.mk ((by rw [hg]; exact Nat.ne_of_gt (blk_lt (g := gb790) (o := .cells #[.slice A0_0 l0_0.length c0_0, .slice A0_1 l0_1.length c0_1, .slice A0_2 l0_2.length c0_2] 72 (0, 0)) (blk_x BK790.out)) : gb791 ≠ gb790)); replace BK790 := Aside0.mk (blk_below (blk_x BK790.out) hb); clear hb hbox hg; have hnb6 := NB791_790.out; have hnc6 := NB790_791.out; obtain ⟨_, _, _, _, _, _, _⟩ := cz7 BK791; have hfz7_0 := blk_frozen BK791.out))
 repeat (go_quiet (first | ((with_reducible refine gate_dst (N := 3) rfl ?_); refine box_event ?hg (N := 3) ?hd (cs := #[.slice A0_0 l0_0.length c0_0, .slice A0_1 l0_1.length c0_1, .slice A0_2 l0_2.length c0_2]) (t := 72) ?hr ?_; (case hd => rfl); (case hg => rfl); (case hr => first | (go_simp; done) | (go_simp; rfl)); intro gb790 hg w4 hbox hb; have BK790 := Aside0.mk (hbox); have GW790 := Aside0.mk ((by rw [hg]; exact (below_size (below_x HB.out)) : w.heap.size ≤ gb790)); have GE790 := Aside0.mk ((by rw [hg]; exact (below_size (below_x HB.out)) : w.heap.size ≤ gb790)); replace HB := Aside0.mk (below_step (below_x HB.out) hb); clear hb hbox hg) | ((with_reducible refine gate_dst (N := 4) rfl ?_); refine box_event ?hg (N := 4) ?hd (cs := #[.int .i64 a1_0, .int .i64 a1_1, .int .i64 a1_2, .slice A1_3 l1_3.length c1_3, .int .i64 a1_4, .slice A1_5 l1_5.length c1_5, .slice A1_6 l1_6.length c1_6]) (t := 26) ?hr ?_; (case hd => rfl); (case hg => rfl); (case hr => first | (go_simp; done) | (go_simp; rfl)); intro gb791 hg w5 hbox hb; have BK791 := Aside0.mk (hbox); have GW791 := Aside0.mk ((by rw [hg]; exact (below_size (by exact below_y HB.out)) : w.heap.size ≤ gb791)); have GE791 := Aside0.mk ((by rw [hg]; exact (below_size (by exact below_y HB.out)) : w.heap.size ≤ gb791)); replace HB := bl_x HB hb; have NB790_791 := Aside0.mk ((by rw [hg]; exact Nat.ne_of_lt (blk_lt (g := gb790) (o := .cells #[.slice A0_0 l0_0.length c0_0, .slice A0_1 l0_1.length c0_1, .slice A0_2 l0_2.length c0_2] 72 (0, 0)) (blk_x BK790.out)) : gb790 ≠ gb791)); have NB791_790 := Aside0.mk ((by rw [hg]; exact Nat.ne_of_gt (blk_lt (g := gb790) (o := .cells #[.slice A0_0 l0_0.length c0_0, .slice A0_1 l0_1.length c0_1, .slice A0_2 l0_2.length c0_2] 72 (0, 0)) (blk_x BK790.out)) : gb791 ≠ gb790)); replace BK790 := Aside0.mk (blk_below (blk_x BK790.out) hb); clear hb hbox hg; have hnb6 := NB791_790.out; have hnc6 := NB790_791.out; obtain ⟨_, _, _, _, _, _, _⟩ := cz7 BK791; have hfz7_0 := blk_frozen BK791.out)); try go_wp2_with (first | ((with_reducible refine gate_dst (N := 3) rfl ?_); refine box_event ?hg (N := 3) ?hd (cs := #[.slice A0_0 l0_0.length c0_0, .slice A0_1 l0_1.length c0_1, .slice A0_2 l0_2.length c0_2]) (t := 72) ?hr ?_; (case hd => rfl); (case hg => rfl); (case hr => first | (go_simp; done) | (go_simp; rfl)); intro gb790 hg w4 hbox hb; have BK790 := Aside0.mk (hbox); have GW790 := Aside0.mk ((by rw [hg]; exact (below_size (below_x HB.out)) : w.heap.size ≤ gb790)); have GE790 := Aside0.mk ((by rw [hg]; exact (below_size (below_x HB.out)) : w.heap.size ≤ gb790)); replace HB := Aside0.mk (below_step (below_x HB.out) hb); clear hb hbox hg) | ((with_reducible refine gate_dst (N := 4) rfl ?_); refine box_event ?hg (N := 4) ?hd (cs := #[.int .i64 a1_0, .int .i64 a1_1, .int .i64 a1_2, .slice A1_3 l1_3.length c1_3, .int .i64 a1_4, .slice A1_5 l1_5.length c1_5, .slice A1_6 l1_6.length c1_6]) (t := 26) ?hr ?_; (case hd => rfl); (case hg => rfl); (case hr => first | (go_simp; done) | (go_simp; rfl)); intro gb791 hg w5 hbox hb; have BK791 := Aside0.mk (hbox); have GW791 := Aside0.mk ((by rw [hg]; exact (below_size (by exact below_y HB.out)) : w.heap.size ≤ gb791)); have GE791 := Aside0.mk ((by rw [hg]; exact (below_size (by exact below_y HB.out)) : w.heap.size ≤ gb791)); replace HB := bl_x HB hb; have NB790_791 := Aside0.mk ((by rw [hg]; exact Nat.ne_of_lt (blk_lt (g := gb790) (o := .cells #[.slice A0_0 l0_0.length c0_0, .slice A0_1 l0_1.length c0_1, .slice A0_2 l0_2.length c0_2] 72 (0, 0)) (blk_x BK790.out)) : gb790 ≠ gb791)); have NB791_790 := Aside0.mk ((by rw [hg]; exact Nat.ne_of_gt (blk_lt (g := gb790) (o := .cells #[.slice A0_0 l0_0.length c0_0, .slice A0_1 l0_1.length c0_1, .slice A0_2 l0_2.length c0_2] 72 (0, 0)) (blk_x BK790.out)) : gb791 ≠ gb790)); replace BK790 := Aside0.mk (blk_below (blk_x BK790.out) hb); clear hb hbox hg; have hnb6 := NB791_790.out; have hnc6 := NB790_791.out; obtain ⟨_, _, _, _, _, _, _⟩ := cz7 BK791; have hfz7_0 := blk_frozen BK791.out)))
 go_loopg [9, 10, 11] k (fun kq v9 v10 v11 w' => ∃ (x9_1 : Int) (x10_1 : Int) (x11_1 : Int), v9 = .int .i64 x9_1 ∧ v10 = .int .i64 x10_1 ∧ v11 = .int .i64 x11_1 ∧ Aside0 (swarflaw07_fact_sailed.l0 kq l2 x9_1 x10_1 x11_1 l0_0 l0_1 l0_2 a1_0 a1_1 a1_2 l1_3 a1_4 l1_5 l1_6 = some (r1, r2, r3)) ∧ Aside0 (kq ≤ k) ∧ Aside0 (w'.heap[gb790]? = some (.cells #[(.slice A0_0 l0_0.length c0_0), (.slice A0_1 l0_1.length c0_1), (.slice A0_2 l0_2.length c0_2)] 72 (0, 0))) ∧ Aside0 (w'.heap[gb791]? = some (.cells #[.int .i64 a1_0, .int .i64 a1_1, .int .i64 a1_2, (.slice A1_3 l1_3.length c1_3), .int .i64 a1_4, (.slice A1_5 l1_5.length c1_5), (.slice A1_6 l1_6.length c1_6)] 26 (0, 0))) ∧ Aside0 (Below w.heap.size w w'))
 case atStart => exact ⟨(wrap64 (1000 * a1_0)), (wrap64 (1000 * a1_0)), (0), (by first | rfl | (simp; done) | (simp [*]; done)), (by first | rfl | (simp; done) | (simp [*]; done)), (by first | rfl | (simp; done) | (simp [*]; done)), H', ⟨Nat.le_refl _⟩, ⟨blk_x BK790.out⟩, ⟨blk_x BK791.out⟩, ⟨by exact below_y HB.out⟩⟩
 case round =>
  clear H'
  obtain ⟨x9_1, x10_1, x11_1, rfl, rfl, rfl, HA, HK1, BK790, BK791, HB⟩ := hrel
  cases gk with
  | zero => exact absurd HA.out (by simp [swarflaw07_fact_sailed.l0])
  | succ k1 =>
   have H := HA.out
   clear HA
   simp only [swarflaw07_fact_sailed.l0] at H
   by_cases c8 : x11_1 < (l2.length : Int)
   ·
    rw [if_pos c8] at H
    have c8b0 : decide (x11_1 < (l2.length : Int)) = true := decide_eq_true c8
    clear c8
    by_cases c9 : 0 ≤ x11_1
    ·
     rw [if_pos c9] at H
     have c9b0 : decide (0 ≤ x11_1) = true := decide_eq_true c9
     clear c9
     by_cases c10 : (rd l2 x11_1) ≥ 0
     ·
      rw [if_pos c10] at H
      have c10b0 : decide (0 ≤ (rd l2 x11_1)) = true := decide_eq_true c10
      clear c10
      by_cases c11 : x11_1 < (l0_0.length : Int)
      ·
       rw [if_pos c11] at H
       have c11b0 : decide (x11_1 < (l0_0.length : Int)) = true := decide_eq_true c11
       clear c11
       by_cases c12 : 0 ≤ (rd l2 x11_1)
       ·
        rw [if_pos c12] at H
        have c12b0 : decide (0 ≤ (rd l2 x11_1)) = true := decide_eq_true c12
        clear c12
        by_cases c13 : (rd l2 x11_1) < (l1_3.length : Int)
        ·
         rw [if_pos c13] at H
         have c13b0 : decide ((rd l2 x11_1) < (l1_3.length : Int)) = true := decide_eq_true c13
         clear c13
         have H' := Aside0.mk H
         clear H
         have p792 : 0 ≤ (x11_1 : Int) := of_x
         have q792 : x11_1 < (l2.length : Int) := of_x
         obtain ⟨ad792, e792, hx792_0⟩ := Kd.at_int HR2.out x11_1 p792 q792
         cases e792
         replace hx792_0 := cell_x HB hx792_0
         replace p792 := eq_true p792
         replace q792 := eq_true q792
         have hnb14 := NB790_791.out
         have hnc14 := NB791_790.out
         obtain ⟨_, _, _⟩ := cz3 BK790
         have hfz15_0 := blk_frozen BK790.out
         have p793 : 0 ≤ (x11_1 : Int) := of_x
         have q793 : x11_1 < (l0_0.length : Int) := of_x
         obtain ⟨ad793, e793, hx793_0⟩ := Kd.at_int HR0_0.out x11_1 p793 q793
         cases e793
         replace hx793_0 := cell_x HB hx793_0
         replace p793 := eq_true p793
         replace q793 := eq_true q793
         obtain ⟨_, _, _, _, _, _, _⟩ := cz7 BK791
         have hfz16_0 := blk_frozen BK791.out
         have p794 : 0 ≤ (x11_1 : Int) := of_x
         have q794 : x11_1 < (l2.length : Int) := of_x
         obtain ⟨ad794, e794, hx794_0⟩ := Kd.at_int HR2.out x11_1 p794 q794
         obtain rfl : ad792 = ad794 := (by injection e794)
         replace hx794_0 := cell_x HB hx794_0
         replace p794 := eq_true p794
         replace q794 := eq_true q794
         have p795 : 0 ≤ ((rd l2 x11_1) : Int) := of_x
         have q795 : (rd l2 x11_1) < (l1_3.length : Int) := of_x
         obtain ⟨ad795, e795, hx795_0, hx795_1, hx795_2⟩ := at_T85 HR1_3.out (rd l2 x11_1) p795 q795
         cases e795
         replace hx795_0 := cell_x HB hx795_0
         replace hx795_1 := cell_x HB hx795_1
         replace hx795_2 := cell_x HB hx795_2
         replace p795 := eq_true p795
         replace q795 := eq_true q795
         have p796 : 0 ≤ (x11_1 : Int) := of_x
         have q796 : x11_1 < (l0_0.length : Int) := of_x
         obtain ⟨ad796, e796, hx796_0⟩ := Kd.at_int HR0_0.out x11_1 p796 q796
         obtain rfl : ad793 = ad796 := (by injection e796)
         replace hx796_0 := cell_x HB hx796_0
         replace p796 := eq_true p796
         replace q796 := eq_true q796
         have p797 : 0 ≤ (x11_1 : Int) := of_x
         have q797 : x11_1 < (l2.length : Int) := of_x
         obtain ⟨ad797, e797, hx797_0⟩ := Kd.at_int HR2.out x11_1 p797 q797
         obtain rfl : ad792 = ad797 := (by injection e797)
         replace hx797_0 := cell_x HB hx797_0
         replace p797 := eq_true p797
         replace q797 := eq_true q797
         have p798 : 0 ≤ ((rd l2 x11_1) : Int) := of_x
         have q798 : (rd l2 x11_1) < (l1_3.length : Int) := of_x
         obtain ⟨ad798, e798, hx798_0, hx798_1, hx798_2⟩ := at_T85 HR1_3.out (rd l2 x11_1) p798 q798
         obtain rfl : ad795 = ad798 := (by injection e798)
         replace hx798_0 := cell_x HB hx798_0
         replace hx798_1 := cell_x HB hx798_1
         replace hx798_2 := cell_x HB hx798_2
         replace p798 := eq_true p798
         replace q798 := eq_true q798
         go_wp2
         repeat (go_quiet (fail); try go_wp2)
         go_roundg k1
         case measure => have := HK1.out; omega
         case rel => exact ⟨(wrap64 (x9_1 + (wrap64 ((rd l0_0 x11_1) * ((rd_T85 l1_3 (rd l2 x11_1)).f1))))), (wrap64 (x10_1 + (wrap64 ((rd l0_0 x11_1) * ((rd_T85 l1_3 (rd l2 x11_1)).f2))))), (wrap64 (x11_1 + 1)), (by first | rfl | (simp; done) | (simp [*]; done)), (by first | rfl | (simp; done) | (simp [*]; done)), (by first | rfl | (simp; done) | (simp [*]; done)), H', ⟨by have := HK1.out; omega⟩, ⟨blk_x BK790.out⟩, ⟨blk_x BK791.out⟩, ⟨by exact below_y HB.out⟩⟩
        ·
         rw [if_neg c13] at H
         exact absurd H (by simp)
       ·
        rw [if_neg c12] at H
        exact absurd H (by simp)
      ·
       rw [if_neg c11] at H
       exact absurd H (by simp)
     ·
      rw [if_neg c10] at H
      have c10b0 : decide (0 ≤ (rd l2 x11_1)) = false := decide_eq_false c10
      clear c10
      have H' := Aside0.mk H
      clear H
      have p792 : 0 ≤ (x11_1 : Int) := of_x
      have q792 : x11_1 < (l2.length : Int) := of_x
      obtain ⟨ad792, e792, hx792_0⟩ := Kd.at_int HR2.out x11_1 p792 q792
      cases e792
      replace hx792_0 := cell_x HB hx792_0
      replace p792 := eq_true p792
      replace q792 := eq_true q792
      go_wp2
      repeat (go_quiet (fail); try go_wp2)
      go_roundg k1
      case measure => have := HK1.out; omega
      case rel => exact ⟨(x9_1), (x10_1), (wrap64 (x11_1 + 1)), (by first | rfl | (simp; done) | (simp [*]; done)), (by first | rfl | (simp; done) | (simp [*]; done)), (by first | rfl | (simp; done) | (simp [*]; done)), H', ⟨by have := HK1.out; omega⟩, ⟨blk_x BK790.out⟩, ⟨blk_x BK791.out⟩, ⟨by exact below_y HB.out⟩⟩
    ·
     rw [if_neg c9] at H
     exact absurd H (by simp)
   ·
    rw [if_neg c8] at H
    have c8b0 : decide (x11_1 < (l2.length : Int)) = false := decide_eq_false c8
    clear c8
    obtain ⟨ji17, hji17⟩ : ∃ j_ : Int, (mx x9_1 x10_1) = j_ := ⟨_, rfl⟩
    replace H : (swarflaw07_fact_sailed.l1 k1 x9_1 x10_1 (wrap64 ((ji17) + (wrap64 (1000 * a1_1)))) ([] : List Int) a1_4 0 l0_0 l0_1 l0_2 a1_0 a1_1 a1_2 l1_3 a1_4 l1_5 l1_6) = some (r1, r2, r3) := by first | (rw [hji17] at H; exact H) | (simp only [hji17] at H ⊢; exact H)
    have hji17_ : (if x9_1 < x10_1 then x10_1 else x9_1) = ji17 := hji17
    have H' := Aside0.mk H
    clear H
    have hnb18 := NB791_790.out
    have hnc18 := NB790_791.out
    obtain ⟨_, _, _, _, _, _, _⟩ := cz7 BK791
    have hfz19_0 := blk_frozen BK791.out
    go_wp2
    repeat (go_quiet (fail); try go_wp2)
    go_loopg [13, 14, 15] k1 (fun kq v13 v14 v15 w' => ∃ (x13_2 : List Int) (x14_2 : Int) (x15_2 : Int), v14 = .int .i64 x14_2 ∧ v15 = .int .i64 x15_2 ∧ Aside0 (swarflaw07_fact_sailed.l1 kq x9_1 x10_1 (wrap64 ((ji17) + (wrap64 (1000 * a1_1)))) x13_2 x14_2 x15_2 l0_0 l0_1 l0_2 a1_0 a1_1 a1_2 l1_3 a1_4 l1_5 l1_6 = some (r1, r2, r3)) ∧ Aside0 (kq ≤ k1) ∧ Aside0 (Kd.R (Kd.int .i64) 3 w' w.heap.size (fun _ => True) v13 x13_2) ∧ Aside0 (w'.heap[gb790]? = some (.cells #[(.slice A0_0 l0_0.length c0_0), (.slice A0_1 l0_1.length c0_1), (.slice A0_2 l0_2.length c0_2)] 72 (0, 0))) ∧ Aside0 (w'.heap[gb791]? = some (.cells #[.int .i64 a1_0, .int .i64 a1_1, .int .i64 a1_2, (.slice A1_3 l1_3.length c1_3), .int .i64 a1_4, (.slice A1_5 l1_5.length c1_5), (.slice A1_6 l1_6.length c1_6)] 26 (0, 0))) ∧ Aside0 (Below w.heap.size w w'))
    case atStart => exact ⟨(([] : List Int)), (a1_4), (0), (by first | rfl | (simp; done) | (simp [*]; done)), (by first | rfl | (simp; done) | (simp [*]; done)), H', ⟨Nat.le_refl _⟩, ⟨by first | exact Kd.R_nil _ _ _ _ _ | exact Kd.N_nil _ _ _ _ _ | exact Kd.V_nil _ _ _ _ _ | exact Kd.Q_nil _ _ _ _ _ | exact Kd.S_nil _ _ _ _ _⟩, ⟨blk_x BK790.out⟩, ⟨blk_x BK791.out⟩, ⟨by exact below_y HB.out⟩⟩
    case round =>
     clear H'
     obtain ⟨x13_2, x14_2, x15_2, rfl, rfl, HA, HK2, HO_13, BK790, BK791, HB⟩ := hrel
     cases gk with
     | zero => exact absurd HA.out (by simp [swarflaw07_fact_sailed.l1])
     | succ k2 =>
      have H := HA.out
      clear HA
      simp only [swarflaw07_fact_sailed.l1] at H
      by_cases c20 : x15_2 < (l1_5.length : Int)
      ·
       rw [if_pos c20] at H
       have c20b0 : decide (x15_2 < (l1_5.length : Int)) = true := decide_eq_true c20
       clear c20
       by_cases c21 : 0 ≤ x15_2
       ·
        rw [if_pos c21] at H
        have c21b0 : decide (0 ≤ x15_2) = true := decide_eq_true c21
        clear c21
        by_cases c22 : x15_2 < (l0_1.length : Int)
        ·
         rw [if_pos c22] at H
         have c22b0 : decide (x15_2 < (l0_1.length : Int)) = true := decide_eq_true c22
         clear c22
         have H' := Aside0.mk H
         clear H
         have hnb23 := NB791_790.out
         have hnc23 := NB790_791.out
         obtain ⟨_, _, _, _, _, _, _⟩ := cz7 BK791
         have hfz24_0 := blk_frozen BK791.out
         obtain ⟨_, _, _⟩ := cz3 BK790
         have hfz25_0 := blk_frozen BK790.out
         have p799 : 0 ≤ (x15_2 : Int) := of_x
         have q799 : x15_2 < (l0_1.length : Int) := of_x
         obtain ⟨ad799, e799, hx799_0⟩ := Kd.at_int HR0_1.out x15_2 p799 q799
         cases e799
         replace hx799_0 := cell_x HB hx799_0
         replace p799 := eq_true p799
         replace q799 := eq_true q799
         go_wp2
         repeat (go_quiet (fail); try go_wp2)
         go_loopg [14] k2 (fun kq v14 w' => ∃ (x14_3 : Int), v14 = .int .i64 x14_3 ∧ Aside0 (swarflaw07_fact_sailed.l2 kq x9_1 x10_1 (wrap64 ((ji17) + (wrap64 (1000 * a1_1)))) x13_2 x14_3 x15_2 l0_0 l0_1 l0_2 a1_0 a1_1 a1_2 l1_3 a1_4 l1_5 l1_6 = some (r1, r2, r3)) ∧ Aside0 (kq ≤ k2) ∧ Aside0 (Kd.R (Kd.int .i64) 3 w' w.heap.size (fun _ => True) u13 x13_2) ∧ Aside0 (w'.heap[gb790]? = some (.cells #[(.slice A0_0 l0_0.length c0_0), (.slice (some ad799) l0_1.length c0_1), (.slice A0_2 l0_2.length c0_2)] 72 (0, 0))) ∧ Aside0 (w'.heap[gb791]? = some (.cells #[.int .i64 a1_0, .int .i64 a1_1, .int .i64 a1_2, (.slice A1_3 l1_3.length c1_3), .int .i64 a1_4, (.slice A1_5 l1_5.length c1_5), (.slice A1_6 l1_6.length c1_6)] 26 (0, 0))) ∧ Aside0 (Below w.heap.size w w'))
         case atStart => exact ⟨(wrap64 (x14_2 + (rd l0_1 x15_2))), (by first | rfl | (simp; done) | (simp [*]; done)), H', ⟨Nat.le_refl _⟩, ⟨by (with_reducible repeat (first | apply Kd.R_alloc | apply Kd.R_drewN | apply Kd.R_drew)); exact HO_13.out⟩, ⟨blk_x BK790.out⟩, ⟨blk_x BK791.out⟩, ⟨by exact below_y HB.out⟩⟩
         case round =>
          clear H'
          obtain ⟨x14_3, rfl, HA, HK3, HO_13, BK790, BK791, HB⟩ := hrel
          cases gk with
          | zero => exact absurd HA.out (by simp [swarflaw07_fact_sailed.l2])
          | succ k3 =>
           have H := HA.out
           clear HA
           simp only [swarflaw07_fact_sailed.l2] at H
           by_cases c26 : x14_3 ≤ 2880
           ·
            rw [if_pos c26] at H
            have c26b0 : decide (x14_3 ≤ 2880) = true := decide_eq_true c26
            clear c26
            replace H := Option.bind_eq_some_iff.mp H
            obtain ⟨t800, A270, H⟩ := H
            try dsimp only at H
            have A27 := Aside0.mk A270
            clear A270
            by_cases c28 : (wrap64 (1000 * t800)) < (wrap64 ((ji17) + (wrap64 (1000 * a1_1))))
            ·
             rw [if_pos c28] at H
             have c28b0 : decide ((wrap64 (1000 * t800)) < (wrap64 ((ji17) + (wrap64 (1000 * a1_1))))) = true := decide_eq_true c28
             clear c28
             have H' := Aside0.mk H
             clear H
             have hnb29 := NB790_791.out
             have hnc29 := NB791_790.out
             obtain ⟨_, _, _⟩ := cz3 BK790
             have hfz30_0 := blk_frozen BK790.out
             obtain ⟨_, _, _, _, _, _, _⟩ := cz7 BK791
             have hfz31_0 := blk_frozen BK791.out
             go_wp2_with (first | (go_at_call 78; (with_reducible refine (swarflaw07_fact_depth.calls k3 _ _ l0_0 _ _ l0_1 _ _ l0_2 a1_0 a1_1 a1_2 _ _ l1_3 a1_4 _ _ l1_5 _ _ l1_6 x15_2 x14_3 t800 _ ?side1 ?side2 ?side3 ?side4 ?side5 ?side6 ?side7 ?side8 ?side9 ?side10 ?side11 ?side12 A27.out).mono ?_); (case side1 => exact Kd.C_x HR0_0.out HB.out); (case side2 => exact HC0_0.out); (case side3 => exact Kd.C_x HR0_1.out HB.out); (case side4 => exact HC0_1.out); (case side5 => exact Kd.C_x HR0_2.out HB.out); (case side6 => exact HC0_2.out); (case side7 => exact Kd.C_x HR1_3.out HB.out); (case side8 => exact HC1_3.out); (case side9 => exact Kd.C_x HR1_5.out HB.out); (case side10 => exact HC1_5.out); (case side11 => exact Kd.C_x HR1_6.out HB.out); (case side12 => exact HC1_6.out); rintro e w32 ⟨rfl, hb⟩; replace HO_13 := Aside0.mk (Kd.R_below (Kd.R_x HO_13.out) hb); replace BK790 := Aside0.mk (blk_below (blk_x BK790.out) hb); replace BK791 := Aside0.mk (blk_below (blk_x BK791.out) hb); replace HB := bl_x HB hb; (try clear hb); (try clear hk); (try clear hi)))
             repeat (go_quiet (first | (go_at_call 78; (with_reducible refine (swarflaw07_fact_depth.calls k3 _ _ l0_0 _ _ l0_1 _ _ l0_2 a1_0 a1_1 a1_2 _ _ l1_3 a1_4 _ _ l1_5 _ _ l1_6 x15_2 x14_3 t800 _ ?side1 ?side2 ?side3 ?side4 ?side5 ?side6 ?side7 ?side8 ?side9 ?side10 ?side11 ?side12 A27.out).mono ?_); (case side1 => exact Kd.C_x HR0_0.out HB.out); (case side2 => exact HC0_0.out); (case side3 => exact Kd.C_x HR0_1.out HB.out); (case side4 => exact HC0_1.out); (case side5 => exact Kd.C_x HR0_2.out HB.out); (case side6 => exact HC0_2.out); (case side7 => exact Kd.C_x HR1_3.out HB.out); (case side8 => exact HC1_3.out); (case side9 => exact Kd.C_x HR1_5.out HB.out); (case side10 => exact HC1_5.out); (case side11 => exact Kd.C_x HR1_6.out HB.out); (case side12 => exact HC1_6.out); rintro e w32 ⟨rfl, hb⟩; replace HO_13 := Aside0.mk (Kd.R_below (Kd.R_x HO_13.out) hb); replace BK790 := Aside0.mk (blk_below (blk_x BK790.out) hb); replace BK791 := Aside0.mk (blk_below (blk_x BK791.out) hb); replace HB := bl_x HB hb; (try clear hb); (try clear hk); (try clear hi))); try go_wp2_with (first | (go_at_call 78; (with_reducible refine (swarflaw07_fact_depth.calls k3 _ _ l0_0 _ _ l0_1 _ _ l0_2 a1_0 a1_1 a1_2 _ _ l1_3 a1_4 _ _ l1_5 _ _ l1_6 x15_2 x14_3 t800 _ ?side1 ?side2 ?side3 ?side4 ?side5 ?side6 ?side7 ?side8 ?side9 ?side10 ?side11 ?side12 A27.out).mono ?_); (case side1 => exact Kd.C_x HR0_0.out HB.out); (case side2 => exact HC0_0.out); (case side3 => exact Kd.C_x HR0_1.out HB.out); (case side4 => exact HC0_1.out); (case side5 => exact Kd.C_x HR0_2.out HB.out); (case side6 => exact HC0_2.out); (case side7 => exact Kd.C_x HR1_3.out HB.out); (case side8 => exact HC1_3.out); (case side9 => exact Kd.C_x HR1_5.out HB.out); (case side10 => exact HC1_5.out); (case side11 => exact Kd.C_x HR1_6.out HB.out); (case side12 => exact HC1_6.out); rintro e w32 ⟨rfl, hb⟩; replace HO_13 := Aside0.mk (Kd.R_below (Kd.R_x HO_13.out) hb); replace BK790 := Aside0.mk (blk_below (blk_x BK790.out) hb); replace BK791 := Aside0.mk (blk_below (blk_x BK791.out) hb); replace HB := bl_x HB hb; (try clear hb); (try clear hk); (try clear hi))))
             go_roundg k3
             case measure => have := HK1.out; have := HK2.out; have := HK3.out; omega
             case rel => exact ⟨(wrap64 (x14_3 + 1)), (by first | rfl | (simp; done) | (simp [*]; done)), H', ⟨by have := HK1.out; have := HK2.out; have := HK3.out; omega⟩, ⟨by (with_reducible repeat (first | apply Kd.R_alloc | apply Kd.R_drewN | apply Kd.R_drew)); exact HO_13.out⟩, ⟨blk_x BK790.out⟩, ⟨blk_x BK791.out⟩, ⟨by exact below_y HB.out⟩⟩
            ·
             rw [if_neg c28] at H
             have c28b0 : decide ((wrap64 (1000 * t800)) < (wrap64 ((ji17) + (wrap64 (1000 * a1_1))))) = false := decide_eq_false c28
             clear c28
             by_cases c33 : x14_3 > 2880
             ·
              rw [if_pos c33] at H
              have c33b0 : decide (2880 < x14_3) = true := decide_eq_true c33
              clear c33
              simp only [Option.some.injEq, Prod.mk.injEq] at H
              obtain ⟨rfl, rfl, rfl⟩ := H
              have hnb34 := NB790_791.out
              have hnc34 := NB791_790.out
              obtain ⟨_, _, _⟩ := cz3 BK790
              have hfz35_0 := blk_frozen BK790.out
              obtain ⟨_, _, _, _, _, _, _⟩ := cz7 BK791
              have hfz36_0 := blk_frozen BK791.out
              go_wp2_with (first | (go_at_call 78; (with_reducible refine (swarflaw07_fact_depth.calls k3 _ _ l0_0 _ _ l0_1 _ _ l0_2 a1_0 a1_1 a1_2 _ _ l1_3 a1_4 _ _ l1_5 _ _ l1_6 x15_2 x14_3 t800 _ ?side1 ?side2 ?side3 ?side4 ?side5 ?side6 ?side7 ?side8 ?side9 ?side10 ?side11 ?side12 A27.out).mono ?_); (case side1 => exact Kd.C_x HR0_0.out HB.out); (case side2 => exact HC0_0.out); (case side3 => exact Kd.C_x HR0_1.out HB.out); (case side4 => exact HC0_1.out); (case side5 => exact Kd.C_x HR0_2.out HB.out); (case side6 => exact HC0_2.out); (case side7 => exact Kd.C_x HR1_3.out HB.out); (case side8 => exact HC1_3.out); (case side9 => exact Kd.C_x HR1_5.out HB.out); (case side10 => exact HC1_5.out); (case side11 => exact Kd.C_x HR1_6.out HB.out); (case side12 => exact HC1_6.out); rintro e w37 ⟨rfl, hb⟩; replace HO_13 := Aside0.mk (Kd.R_below (Kd.R_x HO_13.out) hb); replace BK790 := Aside0.mk (blk_below (blk_x BK790.out) hb); replace BK791 := Aside0.mk (blk_below (blk_x BK791.out) hb); replace HB := bl_x HB hb; (try clear hb); (try clear hk); (try clear hi)))
              repeat (go_quiet (first | (go_at_call 78; (with_reducible refine (swarflaw07_fact_depth.calls k3 _ _ l0_0 _ _ l0_1 _ _ l0_2 a1_0 a1_1 a1_2 _ _ l1_3 a1_4 _ _ l1_5 _ _ l1_6 x15_2 x14_3 t800 _ ?side1 ?side2 ?side3 ?side4 ?side5 ?side6 ?side7 ?side8 ?side9 ?side10 ?side11 ?side12 A27.out).mono ?_); (case side1 => exact Kd.C_x HR0_0.out HB.out); (case side2 => exact HC0_0.out); (case side3 => exact Kd.C_x HR0_1.out HB.out); (case side4 => exact HC0_1.out); (case side5 => exact Kd.C_x HR0_2.out HB.out); (case side6 => exact HC0_2.out); (case side7 => exact Kd.C_x HR1_3.out HB.out); (case side8 => exact HC1_3.out); (case side9 => exact Kd.C_x HR1_5.out HB.out); (case side10 => exact HC1_5.out); (case side11 => exact Kd.C_x HR1_6.out HB.out); (case side12 => exact HC1_6.out); rintro e w37 ⟨rfl, hb⟩; replace HO_13 := Aside0.mk (Kd.R_below (Kd.R_x HO_13.out) hb); replace BK790 := Aside0.mk (blk_below (blk_x BK790.out) hb); replace BK791 := Aside0.mk (blk_below (blk_x BK791.out) hb); replace HB := bl_x HB hb; (try clear hb); (try clear hk); (try clear hi))); try go_wp2_with (first | (go_at_call 78; (with_reducible refine (swarflaw07_fact_depth.calls k3 _ _ l0_0 _ _ l0_1 _ _ l0_2 a1_0 a1_1 a1_2 _ _ l1_3 a1_4 _ _ l1_5 _ _ l1_6 x15_2 x14_3 t800 _ ?side1 ?side2 ?side3 ?side4 ?side5 ?side6 ?side7 ?side8 ?side9 ?side10 ?side11 ?side12 A27.out).mono ?_); (case side1 => exact Kd.C_x HR0_0.out HB.out); (case side2 => exact HC0_0.out); (case side3 => exact Kd.C_x HR0_1.out HB.out); (case side4 => exact HC0_1.out); (case side5 => exact Kd.C_x HR0_2.out HB.out); (case side6 => exact HC0_2.out); (case side7 => exact Kd.C_x HR1_3.out HB.out); (case side8 => exact HC1_3.out); (case side9 => exact Kd.C_x HR1_5.out HB.out); (case side10 => exact HC1_5.out); (case side11 => exact Kd.C_x HR1_6.out HB.out); (case side12 => exact HC1_6.out); rintro e w37 ⟨rfl, hb⟩; replace HO_13 := Aside0.mk (Kd.R_below (Kd.R_x HO_13.out) hb); replace BK790 := Aside0.mk (blk_below (blk_x BK790.out) hb); replace BK791 := Aside0.mk (blk_below (blk_x BK791.out) hb); replace HB := bl_x HB hb; (try clear hb); (try clear hk); (try clear hi))))
              go_ret3
              exact ⟨_, by first | rfl | (simp [errW_none, errW_some] <;> rfl) | (simp only [← hji17]; first | rfl | (simp [errW_none, errW_some] <;> rfl)) | (simp [*, errW_none, errW_some] <;> rfl), by (with_reducible repeat (first | apply Kd.R_alloc | apply Kd.R_drewN | apply Kd.R_drew)); exact HO_13.out, by exact below_y HB.out⟩
             ·
              rw [if_neg c33] at H
              have c33b0 : decide (2880 < x14_3) = false := decide_eq_false c33
              clear c33
              by_cases c38 : x13_2.length < 17592186044416
              ·
               rw [if_pos c38] at H
               have LMc38 := Aside0.mk c38
               clear c38
               obtain ⟨y801, hy801⟩ : ∃ y_ : List Int, y_ = (x13_2 ++ [x14_3]) := ⟨_, rfl⟩
               replace H : (swarflaw07_fact_sailed.l1 k3 x9_1 x10_1 (wrap64 ((ji17) + (wrap64 (1000 * a1_1)))) y801 x14_3 (wrap64 (x15_2 + 1)) l0_0 l0_1 l0_2 a1_0 a1_1 a1_2 l1_3 a1_4 l1_5 l1_6) = some (r1, r2, r3) := by first | (rw [hy801]; with_reducible exact H) | (have H2_ := (Option.bind_some _ _).symm.trans H; rw [hy801]; with_reducible exact H2_) | (have H2_ := (Option.bind_some _ _).symm.trans H; with_reducible exact H2_) | with_reducible exact H | (rw [hy801]; exact H) | exact H
               have Ny801 := Aside0.mk hy801
               clear hy801
               have H' := Aside0.mk H
               clear H
               have hnb39 := NB790_791.out
               have hnc39 := NB791_790.out
               obtain ⟨_, _, _⟩ := cz3 BK790
               have hfz40_0 := blk_frozen BK790.out
               obtain ⟨_, _, _, _, _, _, _⟩ := cz7 BK791
               have hfz41_0 := blk_frozen BK791.out
               go_wp2_with (first | (go_at_call 78; (with_reducible refine (swarflaw07_fact_depth.calls k3 _ _ l0_0 _ _ l0_1 _ _ l0_2 a1_0 a1_1 a1_2 _ _ l1_3 a1_4 _ _ l1_5 _ _ l1_6 x15_2 x14_3 t800 _ ?side1 ?side2 ?side3 ?side4 ?side5 ?side6 ?side7 ?side8 ?side9 ?side10 ?side11 ?side12 A27.out).mono ?_); (case side1 => exact Kd.C_x HR0_0.out HB.out); (case side2 => exact HC0_0.out); (case side3 => exact Kd.C_x HR0_1.out HB.out); (case side4 => exact HC0_1.out); (case side5 => exact Kd.C_x HR0_2.out HB.out); (case side6 => exact HC0_2.out); (case side7 => exact Kd.C_x HR1_3.out HB.out); (case side8 => exact HC1_3.out); (case side9 => exact Kd.C_x HR1_5.out HB.out); (case side10 => exact HC1_5.out); (case side11 => exact Kd.C_x HR1_6.out HB.out); (case side12 => exact HC1_6.out); rintro e w42 ⟨rfl, hb⟩; replace HO_13 := Aside0.mk (Kd.R_below (Kd.R_x HO_13.out) hb); replace BK790 := Aside0.mk (blk_below (blk_x BK790.out) hb); replace BK791 := Aside0.mk (blk_below (blk_x BK791.out) hb); replace HB := bl_x HB hb; (try clear hb); (try clear hk); (try clear hi)) | ((with_reducible refine gate_builtin (b := .append) (xs := #[.tmp 109, .tmp 111]) rfl ?_); at_builtin; refine Kd.R_append (Kd.int .i64) (w0 := w) w.heap.size rfl (.tmp 109) (.tmp 111) 27 3 (.int .i64 0) 8 rfl Try.underlying27 info3 rfl (by decide) (by omega) u13 x13_2 x14_3 [.int .i64 x14_3] (fun _ => True) (fun _ => False) rfl rfl ?aP (fun _ hk => hk.elim) ?aF ?aO ?aB ?aS ?aL ?_; (case aP => exact rfl); (case aB => exact (by exact below_y HB.out)); (case aF => exact (fun _ _ => trivial)); (case aO => exact (Kd.R_x HO_13.out)); (case aS => exact (below_size (by exact below_y HB.out))); (case aL => have := LMc38.out; omega); intro v802 w43 ho hb hg hat; rw [← Ny801.out] at ho; replace BK790 := Aside0.mk (blk_grown (blk_x BK790.out) hg (Kd.R_ne HO_13.out BK790.out (by decide))); replace BK791 := Aside0.mk (blk_grown (blk_x BK791.out) hg (Kd.R_ne HO_13.out BK791.out (by decide))); replace HB := Aside0.mk (hb); have HO803 := Aside0.mk (ho); clear HO_13; clear ho hb hg hat))
               repeat (go_quiet (first | (go_at_call 78; (with_reducible refine (swarflaw07_fact_depth.calls k3 _ _ l0_0 _ _ l0_1 _ _ l0_2 a1_0 a1_1 a1_2 _ _ l1_3 a1_4 _ _ l1_5 _ _ l1_6 x15_2 x14_3 t800 _ ?side1 ?side2 ?side3 ?side4 ?side5 ?side6 ?side7 ?side8 ?side9 ?side10 ?side11 ?side12 A27.out).mono ?_); (case side1 => exact Kd.C_x HR0_0.out HB.out); (case side2 => exact HC0_0.out); (case side3 => exact Kd.C_x HR0_1.out HB.out); (case side4 => exact HC0_1.out); (case side5 => exact Kd.C_x HR0_2.out HB.out); (case side6 => exact HC0_2.out); (case side7 => exact Kd.C_x HR1_3.out HB.out); (case side8 => exact HC1_3.out); (case side9 => exact Kd.C_x HR1_5.out HB.out); (case side10 => exact HC1_5.out); (case side11 => exact Kd.C_x HR1_6.out HB.out); (case side12 => exact HC1_6.out); rintro e w42 ⟨rfl, hb⟩; replace HO_13 := Aside0.mk (Kd.R_below (Kd.R_x HO_13.out) hb); replace BK790 := Aside0.mk (blk_below (blk_x BK790.out) hb); replace BK791 := Aside0.mk (blk_below (blk_x BK791.out) hb); replace HB := bl_x HB hb; (try clear hb); (try clear hk); (try clear hi)) | ((with_reducible refine gate_builtin (b := .append) (xs := #[.tmp 109, .tmp 111]) rfl ?_); at_builtin; refine Kd.R_append (Kd.int .i64) (w0 := w) w.heap.size rfl (.tmp 109) (.tmp 111) 27 3 (.int .i64 0) 8 rfl Try.underlying27 info3 rfl (by decide) (by omega) u13 x13_2 x14_3 [.int .i64 x14_3] (fun _ => True) (fun _ => False) rfl rfl ?aP (fun _ hk => hk.elim) ?aF ?aO ?aB ?aS ?aL ?_; (case aP => exact rfl); (case aB => exact (by exact below_y HB.out)); (case aF => exact (fun _ _ => trivial)); (case aO => exact (Kd.R_x HO_13.out)); (case aS => exact (below_size (by exact below_y HB.out))); (case aL => have := LMc38.out; omega); intro v802 w43 ho hb hg hat; rw [← Ny801.out] at ho; replace BK790 := Aside0.mk (blk_grown (blk_x BK790.out) hg (Kd.R_ne HO_13.out BK790.out (by decide))); replace BK791 := Aside0.mk (blk_grown (blk_x BK791.out) hg (Kd.R_ne HO_13.out BK791.out (by decide))); replace HB := Aside0.mk (hb); have HO803 := Aside0.mk (ho); clear HO_13; clear ho hb hg hat)); try go_wp2_with (first | (go_at_call 78; (with_reducible refine (swarflaw07_fact_depth.calls k3 _ _ l0_0 _ _ l0_1 _ _ l0_2 a1_0 a1_1 a1_2 _ _ l1_3 a1_4 _ _ l1_5 _ _ l1_6 x15_2 x14_3 t800 _ ?side1 ?side2 ?side3 ?side4 ?side5 ?side6 ?side7 ?side8 ?side9 ?side10 ?side11 ?side12 A27.out).mono ?_); (case side1 => exact Kd.C_x HR0_0.out HB.out); (case side2 => exact HC0_0.out); (case side3 => exact Kd.C_x HR0_1.out HB.out); (case side4 => exact HC0_1.out); (case side5 => exact Kd.C_x HR0_2.out HB.out); (case side6 => exact HC0_2.out); (case side7 => exact Kd.C_x HR1_3.out HB.out); (case side8 => exact HC1_3.out); (case side9 => exact Kd.C_x HR1_5.out HB.out); (case side10 => exact HC1_5.out); (case side11 => exact Kd.C_x HR1_6.out HB.out); (case side12 => exact HC1_6.out); rintro e w42 ⟨rfl, hb⟩; replace HO_13 := Aside0.mk (Kd.R_below (Kd.R_x HO_13.out) hb); replace BK790 := Aside0.mk (blk_below (blk_x BK790.out) hb); replace BK791 := Aside0.mk (blk_below (blk_x BK791.out) hb); replace HB := bl_x HB hb; (try clear hb); (try clear hk); (try clear hi)) | ((with_reducible refine gate_builtin (b := .append) (xs := #[.tmp 109, .tmp 111]) rfl ?_); at_builtin; refine Kd.R_append (Kd.int .i64) (w0 := w) w.heap.size rfl (.tmp 109) (.tmp 111) 27 3 (.int .i64 0) 8 rfl Try.underlying27 info3 rfl (by decide) (by omega) u13 x13_2 x14_3 [.int .i64 x14_3] (fun _ => True) (fun _ => False) rfl rfl ?aP (fun _ hk => hk.elim) ?aF ?aO ?aB ?aS ?aL ?_; (case aP => exact rfl); (case aB => exact (by exact below_y HB.out)); (case aF => exact (fun _ _ => trivial)); (case aO => exact (Kd.R_x HO_13.out)); (case aS => exact (below_size (by exact below_y HB.out))); (case aL => have := LMc38.out; omega); intro v802 w43 ho hb hg hat; rw [← Ny801.out] at ho; replace BK790 := Aside0.mk (blk_grown (blk_x BK790.out) hg (Kd.R_ne HO_13.out BK790.out (by decide))); replace BK791 := Aside0.mk (blk_grown (blk_x BK791.out) hg (Kd.R_ne HO_13.out BK791.out (by decide))); replace HB := Aside0.mk (hb); have HO803 := Aside0.mk (ho); clear HO_13; clear ho hb hg hat)))
               go_roundg k3
               case measure => have := HK1.out; have := HK2.out; have := HK3.out; omega
               case rel => exact ⟨(y801), (x14_3), (wrap64 (x15_2 + 1)), (by first | rfl | (simp; done) | (simp [*]; done)), (by first | rfl | (simp; done) | (simp [*]; done)), H', ⟨by have := HK1.out; have := HK2.out; have := HK3.out; omega⟩, ⟨by (with_reducible repeat (first | apply Kd.R_alloc | apply Kd.R_drewN | apply Kd.R_drew)); exact HO803.out⟩, ⟨blk_x BK790.out⟩, ⟨blk_x BK791.out⟩, ⟨by exact below_y HB.out⟩⟩
              ·
               rw [if_neg c38] at H
               exact absurd H (by simp)
           ·
            rw [if_neg c26] at H
            have c26b0 : decide (x14_3 ≤ 2880) = false := decide_eq_false c26
            clear c26
            by_cases c44 : x14_3 > 2880
            ·
             rw [if_pos c44] at H
             have c44b0 : decide (2880 < x14_3) = true := decide_eq_true c44
             clear c44
             simp only [Option.some.injEq, Prod.mk.injEq] at H
             obtain ⟨rfl, rfl, rfl⟩ := H
             go_wp2
             repeat (go_quiet (fail); try go_wp2)
             go_ret3
             exact ⟨_, by first | rfl | (simp [errW_none, errW_some] <;> rfl) | (simp only [← hji17]; first | rfl | (simp [errW_none, errW_some] <;> rfl)) | (simp [*, errW_none, errW_some] <;> rfl), by (with_reducible repeat (first | apply Kd.R_alloc | apply Kd.R_drewN | apply Kd.R_drew)); exact HO_13.out, by exact below_y HB.out⟩
            ·
             rw [if_neg c44] at H
             have c44b0 : decide (2880 < x14_3) = false := decide_eq_false c44
             clear c44
             by_cases c45 : x13_2.length < 17592186044416
             ·
              rw [if_pos c45] at H
              have LMc45 := Aside0.mk c45
              clear c45
              obtain ⟨y804, hy804⟩ : ∃ y_ : List Int, y_ = (x13_2 ++ [x14_3]) := ⟨_, rfl⟩
              replace H : (swarflaw07_fact_sailed.l1 k3 x9_1 x10_1 (wrap64 ((ji17) + (wrap64 (1000 * a1_1)))) y804 x14_3 (wrap64 (x15_2 + 1)) l0_0 l0_1 l0_2 a1_0 a1_1 a1_2 l1_3 a1_4 l1_5 l1_6) = some (r1, r2, r3) := by first | (rw [hy804]; with_reducible exact H) | (have H2_ := (Option.bind_some _ _).symm.trans H; rw [hy804]; with_reducible exact H2_) | (have H2_ := (Option.bind_some _ _).symm.trans H; with_reducible exact H2_) | with_reducible exact H | (rw [hy804]; exact H) | exact H
              have Ny804 := Aside0.mk hy804
              clear hy804
              have H' := Aside0.mk H
              clear H
              go_wp2_with (first | ((with_reducible refine gate_builtin (b := .append) (xs := #[.tmp 109, .tmp 111]) rfl ?_); at_builtin; refine Kd.R_append (Kd.int .i64) (w0 := w) w.heap.size rfl (.tmp 109) (.tmp 111) 27 3 (.int .i64 0) 8 rfl Try.underlying27 info3 rfl (by decide) (by omega) u13 x13_2 x14_3 [.int .i64 x14_3] (fun _ => True) (fun _ => False) rfl rfl ?aP (fun _ hk => hk.elim) ?aF ?aO ?aB ?aS ?aL ?_; (case aP => exact rfl); (case aB => exact (by exact below_y HB.out)); (case aF => exact (fun _ _ => trivial)); (case aO => exact (Kd.R_x HO_13.out)); (case aS => exact (below_size (by exact below_y HB.out))); (case aL => have := LMc45.out; omega); intro v805 w46 ho hb hg hat; rw [← Ny804.out] at ho; replace BK790 := Aside0.mk (blk_grown (blk_x BK790.out) hg (Kd.R_ne HO_13.out BK790.out (by decide))); replace BK791 := Aside0.mk (blk_grown (blk_x BK791.out) hg (Kd.R_ne HO_13.out BK791.out (by decide))); replace HB := Aside0.mk (hb); have HO806 := Aside0.mk (ho); clear HO_13; clear ho hb hg hat))
              repeat (go_quiet (first | ((with_reducible refine gate_builtin (b := .append) (xs := #[.tmp 109, .tmp 111]) rfl ?_); at_builtin; refine Kd.R_append (Kd.int .i64) (w0 := w) w.heap.size rfl (.tmp 109) (.tmp 111) 27 3 (.int .i64 0) 8 rfl Try.underlying27 info3 rfl (by decide) (by omega) u13 x13_2 x14_3 [.int .i64 x14_3] (fun _ => True) (fun _ => False) rfl rfl ?aP (fun _ hk => hk.elim) ?aF ?aO ?aB ?aS ?aL ?_; (case aP => exact rfl); (case aB => exact (by exact below_y HB.out)); (case aF => exact (fun _ _ => trivial)); (case aO => exact (Kd.R_x HO_13.out)); (case aS => exact (below_size (by exact below_y HB.out))); (case aL => have := LMc45.out; omega); intro v805 w46 ho hb hg hat; rw [← Ny804.out] at ho; replace BK790 := Aside0.mk (blk_grown (blk_x BK790.out) hg (Kd.R_ne HO_13.out BK790.out (by decide))); replace BK791 := Aside0.mk (blk_grown (blk_x BK791.out) hg (Kd.R_ne HO_13.out BK791.out (by decide))); replace HB := Aside0.mk (hb); have HO806 := Aside0.mk (ho); clear HO_13; clear ho hb hg hat)); try go_wp2_with (first | ((with_reducible refine gate_builtin (b := .append) (xs := #[.tmp 109, .tmp 111]) rfl ?_); at_builtin; refine Kd.R_append (Kd.int .i64) (w0 := w) w.heap.size rfl (.tmp 109) (.tmp 111) 27 3 (.int .i64 0) 8 rfl Try.underlying27 info3 rfl (by decide) (by omega) u13 x13_2 x14_3 [.int .i64 x14_3] (fun _ => True) (fun _ => False) rfl rfl ?aP (fun _ hk => hk.elim) ?aF ?aO ?aB ?aS ?aL ?_; (case aP => exact rfl); (case aB => exact (by exact below_y HB.out)); (case aF => exact (fun _ _ => trivial)); (case aO => exact (Kd.R_x HO_13.out)); (case aS => exact (below_size (by exact below_y HB.out))); (case aL => have := LMc45.out; omega); intro v805 w46 ho hb hg hat; rw [← Ny804.out] at ho; replace BK790 := Aside0.mk (blk_grown (blk_x BK790.out) hg (Kd.R_ne HO_13.out BK790.out (by decide))); replace BK791 := Aside0.mk (blk_grown (blk_x BK791.out) hg (Kd.R_ne HO_13.out BK791.out (by decide))); replace HB := Aside0.mk (hb); have HO806 := Aside0.mk (ho); clear HO_13; clear ho hb hg hat)))
              go_roundg k3
              case measure => have := HK1.out; have := HK2.out; have := HK3.out; omega
              case rel => exact ⟨(y804), (x14_3), (wrap64 (x15_2 + 1)), (by first | rfl | (simp; done) | (simp [*]; done)), (by first | rfl | (simp; done) | (simp [*]; done)), H', ⟨by have := HK1.out; have := HK2.out; have := HK3.out; omega⟩, ⟨by (with_reducible repeat (first | apply Kd.R_alloc | apply Kd.R_drewN | apply Kd.R_drew)); exact HO806.out⟩, ⟨blk_x BK790.out⟩, ⟨blk_x BK791.out⟩, ⟨by exact below_y HB.out⟩⟩
             ·
              rw [if_neg c45] at H
              exact absurd H (by simp)
        ·
         rw [if_neg c22] at H
         exact absurd H (by simp)
       ·
        rw [if_neg c21] at H
        exact absurd H (by simp)
      ·
       rw [if_neg c20] at H
       have c20b0 : decide (x15_2 < (l1_5.length : Int)) = false := decide_eq_false c20
       clear c20
       simp only [Option.some.injEq, Prod.mk.injEq] at H
       obtain ⟨rfl, rfl, rfl⟩ := H
       have hnb47 := NB791_790.out
       have hnc47 := NB790_791.out
       obtain ⟨_, _, _, _, _, _, _⟩ := cz7 BK791
       have hfz48_0 := blk_frozen BK791.out
       go_wp2
       repeat (go_quiet (fail); try go_wp2)
       go_ret3
       exact ⟨_, by first | rfl | (simp [errW_none, errW_some] <;> rfl) | (simp only [← hji17]; first | rfl | (simp [errW_none, errW_some] <;> rfl)) | (simp [*, errW_none, errW_some] <;> rfl), by (with_reducible repeat (first | apply Kd.R_alloc | apply Kd.R_drewN | apply Kd.R_drew)); exact HO_13.out, by exact below_y HB.out⟩
def swarfkit_Inside.f (a0_0 : Int) (a0_1 : Int) (a1 : Int) : Option (Bool) := if a1 ≥ a0_0 then (some (decide (a1 ≤ a0_1))) else (some false)
set_option maxHeartbeats 8000000 in
set_option maxRecDepth 100000 in
theorem swarfkit_Inside.calls (a0_0 : Int) (a0_1 : Int) (a1 : Int) (r : Bool) (w : World) (h : swarfkit_Inside.f a0_0 a0_1 a1 = some r) :
  Calls Try.prog 44 #[.agg #[.int .i64 a0_0, .int .i64 a0_1], .int .i64 a1] w fun e w' => e = .returned (.bool r) ∧ Below w.heap.size w w' := by
 have hu56 := Try.underlying56
 have HB := Aside0.mk (Below.refl w.heap.size w)
 have H : (if a1 ≥ a0_0 then (some (decide (a1 ≤ a0_1))) else (some false)) = some r := h
 clear h
 by_cases c3 : a1 ≥ a0_0
 ·
  rw [if_pos c3] at H
  have c3b0 : decide (a0_0 ≤ a1) = true := decide_eq_true c3
  clear c3
  obtain rfl := Option.some.inj H
  go_enter Try.func44, Try.ntmps44
  go_wp2_with (first | ((with_reducible refine gate_dst (N := 2) rfl ?_); refine box_event ?hg (N := 2) ?hd (cs := #[.int .i64 a0_0, .int .i64 a0_1]) (t := 56) ?hr ?_; (case hd => rfl); (case hg => rfl); (case hr => first | (go_simp; done) | (go_simp; rfl)); intro gb807 hg w4 hbox hb; have BK807 := Aside0.mk (hbox); have GW807 := Aside0.mk ((by rw [hg]; exact (below_size (below_x HB.out)) : w.heap.size ≤ gb807)); have GE807 := Aside0.mk ((by rw [hg]; exact (below_size (below_x HB.out)) : w.heap.size ≤ gb807)); replace HB := Aside0.mk (below_step (below_x HB.out) hb); clear hb hbox hg; obtain ⟨_, _⟩ := cz2 BK807; have hfz5_0 := blk_frozen BK807.out))
  go_ret
  exact ⟨by first | rfl | (simp [errW_none, errW_some] <;> rfl) | (simp [*, errW_none, errW_some] <;> rfl), by exact below_y HB.out⟩
 ·
  rw [if_neg c3] at H
  have c3b0 : decide (a0_0 ≤ a1) = false := decide_eq_false c3
  clear c3
  obtain rfl := Option.some.inj H
  go_enter Try.func44, Try.ntmps44
  go_wp2_with (first | ((with_reducible refine gate_dst (N := 2) rfl ?_); refine box_event ?hg (N := 2) ?hd (cs := #[.int .i64 a0_0, .int .i64 a0_1]) (t := 56) ?hr ?_; (case hd => rfl); (case hg => rfl); (case hr => first | (go_simp; done) | (go_simp; rfl)); intro gb807 hg w6 hbox hb; have BK807 := Aside0.mk (hbox); have GW807 := Aside0.mk ((by rw [hg]; exact (below_size (below_x HB.out)) : w.heap.size ≤ gb807)); have GE807 := Aside0.mk ((by rw [hg]; exact (below_size (below_x HB.out)) : w.heap.size ≤ gb807)); replace HB := Aside0.mk (below_step (below_x HB.out) hb); clear hb hbox hg; obtain ⟨_, _⟩ := cz2 BK807; have hfz7_0 := blk_frozen BK807.out))
  go_ret
  exact ⟨by first | rfl | (simp [errW_none, errW_some] <;> rfl) | (simp [*, errW_none, errW_some] <;> rfl), by exact below_y HB.out⟩
def swarflaw07_fits.f (a0 : Int) (a1 : Bool) : Option (Bool) := if a0 = 1 then (if a1 = true then (some true) else (if a0 = 2 then (some true) else (some (a0 == 3)))) else (if a0 = 2 then (if a1 = true then (some (a0 == 3)) else (some true)) else (some (a0 == 3)))
set_option maxHeartbeats 8000000 in
set_option maxRecDepth 100000 in
theorem swarflaw07_fits.calls (a0 : Int) (a1 : Bool) (r : Bool) (w : World) (h : swarflaw07_fits.f a0 a1 = some r) :
  Calls Try.prog 45 #[.int .i64 a0, .bool a1] w fun e w' => e = .returned (.bool r) ∧ Drawn0 w w' := by
 have H : (if a0 = 1 then (if a1 = true then (some true) else (if a0 = 2 then (some true) else (some (a0 == 3)))) else (if a0 = 2 then (if a1 = true then (some (a0 == 3)) else (some true)) else (some (a0 == 3)))) = some r := h
 clear h
 by_cases c3 : a0 = 1
 ·
  rw [if_pos c3] at H
  have c3b0 : (a0 == 1) = true := beq_iff_eq.mpr c3
  have c3b1 : (a0 != 1) = false := bne_eq_false_iff_eq.mpr c3
  clear c3
  by_cases c4 : a1 = true
  ·
   subst c4
   have H1 : (some true) = some r := by rw [if_pos rfl] at H; exact H
   clear H
   have H := H1
   clear H1
   obtain rfl := Option.some.inj H
   go_enter Try.func45, Try.ntmps45
   go_wp2
   go_ret
   exact ⟨by first | rfl | (simp; done) | (simp [*]; done), by repeat (first | exact Drawn0.refl _ | apply Drawn0.step)⟩
  ·
   replace c4 := Bool.eq_false_iff.mpr c4
   subst c4
   have H1 : (if a0 = 2 then (some true) else (some (a0 == 3))) = some r := by rw [if_neg (show ¬ (false = true) by decide)] at H; exact H
   clear H
   have H := H1
   clear H1
   by_cases c5 : a0 = 2
   ·
    rw [if_pos c5] at H
    have c5b0 : (a0 == 2) = true := beq_iff_eq.mpr c5
    have c5b1 : (a0 != 2) = false := bne_eq_false_iff_eq.mpr c5
    clear c5
    obtain rfl := Option.some.inj H
    go_enter Try.func45, Try.ntmps45
    go_wp2
    go_ret
    exact ⟨by first | rfl | (simp; done) | (simp [*]; done), by repeat (first | exact Drawn0.refl _ | apply Drawn0.step)⟩
   ·
    rw [if_neg c5] at H
    have c5b0 : (a0 == 2) = false := beq_eq_false_iff_ne.mpr c5
    have c5b1 : (a0 != 2) = true := bne_iff_ne.mpr c5
    obtain rfl := Option.some.inj H
    go_enter Try.func45, Try.ntmps45
    go_wp2
    go_ret
    exact ⟨by first | rfl | (simp; done) | (simp [*]; done), by repeat (first | exact Drawn0.refl _ | apply Drawn0.step)⟩
 ·
  rw [if_neg c3] at H
  have c3b0 : (a0 == 1) = false := beq_eq_false_iff_ne.mpr c3
  have c3b1 : (a0 != 1) = true := bne_iff_ne.mpr c3
  by_cases c6 : a0 = 2
  ·
   rw [if_pos c6] at H
   have c6b0 : (a0 == 2) = true := beq_iff_eq.mpr c6
   have c6b1 : (a0 != 2) = false := bne_eq_false_iff_eq.mpr c6
   clear c6
   by_cases c7 : a1 = true
   ·
    subst c7
    have H1 : (some (a0 == 3)) = some r := by rw [if_pos rfl] at H; exact H
    clear H
    have H := H1
    clear H1
    obtain rfl := Option.some.inj H
    go_enter Try.func45, Try.ntmps45
    go_wp2
    go_ret
    exact ⟨by first | rfl | (simp; done) | (simp [*]; done), by repeat (first | exact Drawn0.refl _ | apply Drawn0.step)⟩
   ·
    replace c7 := Bool.eq_false_iff.mpr c7
    subst c7
    have H1 : (some true) = some r := by rw [if_neg (show ¬ (false = true) by decide)] at H; exact H
    clear H
    have H := H1
    clear H1
    obtain rfl := Option.some.inj H
    go_enter Try.func45, Try.ntmps45
    go_wp2
    go_ret
    exact ⟨by first | rfl | (simp; done) | (simp [*]; done), by repeat (first | exact Drawn0.refl _ | apply Drawn0.step)⟩
  ·
   rw [if_neg c6] at H
   have c6b0 : (a0 == 2) = false := beq_eq_false_iff_ne.mpr c6
   have c6b1 : (a0 != 2) = true := bne_iff_ne.mpr c6
   obtain rfl := Option.some.inj H
   go_enter Try.func45, Try.ntmps45
   go_wp2
   go_ret
   exact ⟨by first | rfl | (simp; done) | (simp [*]; done), by repeat (first | exact Drawn0.refl _ | apply Drawn0.step)⟩
end Go.Proofs.Ytodmemndaaiolaa.PC7
