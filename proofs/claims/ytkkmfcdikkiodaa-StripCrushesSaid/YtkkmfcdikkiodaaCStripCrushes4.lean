/- Lemmas on the way to this: Crush says what the reference says, for every car, every list of papers and every list of numbers. -/
import Derived.Test.YtkkmfcdikkiodaaCStripCrushes1
import Derived.Test.YtkkmfcdikkiodaaCStripCrushes2
import Derived.Test.YtkkmfcdikkiodaaCStripCrushes3
import Derived.RegionTactic
import Derived.BigRegion
import Derived.Outline
namespace Go.Proofs.Ytkkmfcdikkiodaa.PC4
open Go.RowKit Go.Proofs.YtkkmfcdikkiodaaW.PrintWords Go.Proofs.YtkkmfcdikkiodaaW.PrintLast Go.Proofs.YtkkmfcdikkiodaaW.PrintMore
attribute [local go_sem] max2_int min2_int max_two min_two max_three min_three max_four min_four
set_option linter.unusedVariables false
set_option linter.unusedSimpArgs false
def swarfkit_Feed_Order.l0 : Nat → List Int → Int → Int → Option (List Int × Int)
 | 0, _, _, _ => none
 | k + 1, x5, x6, x1000 => if x6 < (x5.length : Int) then ((swarfkit_Feed_Below.f x1000 (wrap64 (x6 + 1))).bind fun bt600 => (if 0 ≤ bt600.1 then (if bt600.1 < (x5.length : Int) then (if 0 ≤ x6 then (swarfkit_Feed_Order.l0 k ((x5.set (x6 : Int).toNat (rd x5 bt600.1)).set (bt600.1 : Int).toNat x6) (wrap64 (x6 + 1)) bt600.2) else (none)) else (none)) else (none))) else (some (x5, x1000))
def swarfkit_Feed_Order.f (k : Nat) (s0_0 : Int) (a1 : Int) : Option (List Int × Int) := if 0 ≤ (mx 0 a1) then (if (mx 0 a1 : Int).toNat ≤ 35184372088832 then (swarfkit_Feed_Order.l0 k (List.replicate (mx 0 a1 : Int).toNat 0) 0 s0_0) else (none)) else (none)
set_option maxHeartbeats 8000000 in
set_option maxRecDepth 100000 in
theorem swarfkit_Feed_Order.calls (k : Nat) (g : Nat) (s0_0 : Int) (a1 : Int) (r1 : List Int) (r2 : Int) (w0 w : World) (hI : IsS79 w0 w g s0_0) (hB : Below w0.heap.size w0 w) (h : swarfkit_Feed_Order.f k s0_0 a1 = some (r1, r2)) :
  Calls Try.prog 42 #[.pointer (some ⟨g, 0, none⟩), .int .i64 a1] w fun e w' => ∃ v0_ : Value, e = .returned (v0_) ∧ Kd.R (Kd.int .i64) 3 w' w.heap.size (fun _ => True) v0_ r1 ∧ IsS79 w0 w' g r2 ∧ Below w0.heap.size w0 w' ∧ KeepBut w w' g none := by
 have HI0 := Aside0.mk hI
 have HK := Aside0.mk (KeepBut.refl w g none)
 have HL := Aside0.mk hB.size
 clear hI
 have HW0 := Aside0.mk hB.size
 have HB := Aside0.mk hB
 clear hB
 have H : (if 0 ≤ (mx 0 a1) then (if (mx 0 a1 : Int).toNat ≤ 35184372088832 then (swarfkit_Feed_Order.l0 k (List.replicate (mx 0 a1 : Int).toNat 0) 0 s0_0) else (none)) else (none)) = some (r1, r2) := h
 clear h
 obtain ⟨ji3, hji3⟩ : ∃ j_ : Int, (mx 0 a1) = j_ := ⟨_, rfl⟩
 replace H : (if 0 ≤ (ji3) then (if (ji3 : Int).toNat ≤ 35184372088832 then (swarfkit_Feed_Order.l0 k (List.replicate (ji3 : Int).toNat 0) 0 s0_0) else (none)) else (none)) = some (r1, r2) := by first | (rw [hji3] at H; exact H) | (simp only [hji3] at H ⊢; exact H)
 (try (have hji3l : 0 ≤ ji3 := by (rw [← hji3]; unfold mx; (repeat' split) <;> omega)))
 (try (have hji3m : 0 ≤ ji3 := by omega))
 have hji3_ : (if 0 < a1 then a1 else 0) = ji3 := hji3
 by_cases c4 : 0 ≤ (ji3)
 ·
  rw [if_pos c4] at H
  have c4b0 := eq_true c4
  have c4b1 : decide (0 ≤ (ji3)) = true := decide_eq_true c4
  clear c4
  by_cases c5 : (ji3 : Int).toNat ≤ 35184372088832
  ·
   rw [if_pos c5] at H
   have c5b0 := eq_true c5
   have c5b1 : decide ((ji3 : Int).toNat ≤ 35184372088832) = true := decide_eq_true c5
   clear c5
   obtain ⟨y597, hy597⟩ : ∃ y_ : List Int, y_ = (List.replicate (ji3 : Int).toNat 0) := ⟨_, rfl⟩
   replace H : (swarfkit_Feed_Order.l0 k y597 0 s0_0) = some (r1, r2) := by first | (rw [hy597]; with_reducible exact H) | (have H2_ := (Option.bind_some _ _).symm.trans H; rw [hy597]; with_reducible exact H2_) | (have H2_ := (Option.bind_some _ _).symm.trans H; with_reducible exact H2_) | with_reducible exact H | (rw [hy597]; exact H) | exact H
   have Ny597 := Aside0.mk hy597
   clear hy597
   have H' := Aside0.mk H
   clear H
   go_enter Try.func42, Try.ntmps42
   go_wp2_with (first | ((with_reducible refine gate_dst (N := 10) rfl ?_); refine Kd.R_make (Kd.int .i64) _ 3 rfl (N := 10) rfl 24 _ _ rfl ji3 rfl rfl Try.underlying24 (.int .i64 0) 8 info3 rfl (by decide) (by omega) 0 (ok := fun _ => True) (okp := fun _ => True) rfl (fun _ hk => hk) trivial (of_x) (Nat.le_trans (Nat.mul_le_mul_right _ (of_x : ji3.toNat ≤ 35184372088832)) (by omega)) (Below.refl _ _) (Nat.le_refl _) ?_; intro v598 w6 ho7 hb hg_ hnew_; clear hg_ hnew_; (first | rw [← Ny597.out] at ho7 | (simp only [Int.reduceToNat] at ho7; rw [← Ny597.out] at ho7)); have HO599 := Aside0.mk (Kd.R_lower ho7 (keep_size (w := w) (g := g) (row := none) (by exact keep_y HK.out))); replace HI0 := Aside0.mk (IsS79.below (by exact IsS79.up HI0.out) hb); replace HK := Aside0.mk (KeepBut.trans (by exact keep_y HK.out) (KeepBut.of_below hb g none) (.inl rfl)); replace HB := bl_x HB hb; clear hb ho7))
   go_loopg [6] k (fun kq v6 w' => ∃ (x5_1 : List Int) (x6_1 : Int) (x1000_1 : Int), v6 = .int .i64 x6_1 ∧ Aside0 (swarfkit_Feed_Order.l0 kq x5_1 x6_1 x1000_1 = some (r1, r2)) ∧ Aside0 (kq ≤ k) ∧ Aside0 (Kd.R (Kd.int .i64) 3 w' w.heap.size (fun _ => True) v598 x5_1) ∧ Aside0 (IsS79 w0 w' g x1000_1) ∧ Aside0 (KeepBut w w' g none) ∧ Aside0 (Below w0.heap.size w0 w'))
   case atStart => exact ⟨(y597), (0), (s0_0), (by first | rfl | (simp; done) | (simp [*]; done)), H', ⟨Nat.le_refl _⟩, ⟨by (with_reducible repeat (first | apply Kd.R_alloc | apply Kd.R_drewN | apply Kd.R_drew)); exact HO599.out⟩, ⟨by exact IsS79.up HI0.out⟩, ⟨by exact keep_y HK.out⟩, ⟨by exact below_y HB.out⟩⟩
   case round =>
    clear H'
    obtain ⟨x5_1, x6_1, x1000_1, rfl, HA, HK1, HO_5, HI0, HK, HB⟩ := hrel
    cases gk with
    | zero => exact absurd HA.out (by simp [swarfkit_Feed_Order.l0])
    | succ k1 =>
     have H := HA.out
     clear HA
     simp only [swarfkit_Feed_Order.l0] at H
     by_cases c8 : x6_1 < (x5_1.length : Int)
     ·
      rw [if_pos c8] at H
      have c8b0 : decide (x6_1 < (x5_1.length : Int)) = true := decide_eq_true c8
      clear c8
      replace H := Option.bind_eq_some_iff.mp H
      obtain ⟨⟨t600, t601⟩, A90, H⟩ := H
      try dsimp only at H
      have A9 := Aside0.mk A90
      clear A90
      by_cases c10 : 0 ≤ t600
      ·
       rw [if_pos c10] at H
       have c10b0 : decide (0 ≤ t600) = true := decide_eq_true c10
       clear c10
       by_cases c11 : t600 < (x5_1.length : Int)
       ·
        rw [if_pos c11] at H
        have c11b0 : decide (t600 < (x5_1.length : Int)) = true := decide_eq_true c11
        clear c11
        by_cases c12 : 0 ≤ x6_1
        ·
         rw [if_pos c12] at H
         have c12b0 : decide (0 ≤ x6_1) = true := decide_eq_true c12
         clear c12
         obtain ⟨y603, hy603⟩ : ∃ y_ : List Int, y_ = (x5_1.set (x6_1 : Int).toNat (rd x5_1 t600)) := ⟨_, rfl⟩
         replace H : (swarfkit_Feed_Order.l0 k1 (y603.set (t600 : Int).toNat x6_1) (wrap64 (x6_1 + 1)) t601) = some (r1, r2) := by first | (rw [hy603]; with_reducible exact H) | (have H2_ := (Option.bind_some _ _).symm.trans H; rw [hy603]; with_reducible exact H2_) | (have H2_ := (Option.bind_some _ _).symm.trans H; with_reducible exact H2_) | with_reducible exact H | (rw [hy603]; exact H) | exact H
         have Ny603 := Aside0.mk hy603
         clear hy603
         obtain ⟨y604, hy604⟩ : ∃ y_ : List Int, y_ = (y603.set (t600 : Int).toNat x6_1) := ⟨_, rfl⟩
         replace H : (swarfkit_Feed_Order.l0 k1 y604 (wrap64 (x6_1 + 1)) t601) = some (r1, r2) := by first | (rw [hy604]; with_reducible exact H) | (have H2_ := (Option.bind_some _ _).symm.trans H; rw [hy604]; with_reducible exact H2_) | (have H2_ := (Option.bind_some _ _).symm.trans H; with_reducible exact H2_) | with_reducible exact H | (rw [hy604]; exact H) | exact H
         have Ny604 := Aside0.mk hy604
         clear hy604
         have H' := Aside0.mk H
         clear H
         obtain ⟨Ao15, co15, eo15⟩ := Kd.R_slice HO_5.out
         subst eo15
         go_wp2_with (first | ((with_reducible refine gate_callee (f := 25) rfl ?_); refine goesL_ (some 20) rfl rfl Try.func25 (by kernel_rfl) rfl #[.pointer (some ⟨g, 0, none⟩), .int .i64 (wrap64 (x6_1 + 1))] rfl (by (try simp only [List.map_toArray, List.map_cons, List.map_nil]); first | done | rfl | (simp only [List.length_drop, List.length_take]; rfl)) ?_; (with_reducible refine (swarfkit_Feed_Below.calls g x1000_1 (wrap64 (x6_1 + 1)) t600 t601 w0 _ ?side1 ?side2 A9.out).mono ?_); (case side1 => exact IsS79.up HI0.out); (case side2 => exact below_y HB.out); rintro e w16 ⟨rfl, hi, hb, hk⟩; refine ⟨_, rfl, ?_⟩; replace HO_5 := Aside0.mk (Kd.R_mono (Kd.R_keep (IsS79.apart (show IsS79 w0 _ g x1000_1 from by exact IsS79.up HI0.out) (Kd.R_x HO_5.out) (by decide)) hk (fun _ h => h.2)) (fun _ h => h.1)); replace HK := Aside0.mk (KeepBut.trans (by exact keep_y HK.out) hk (.inl rfl)); replace HB := Aside0.mk (hb); replace HI0 := Aside0.mk (hi); (try clear hb); (try clear hk); (try clear hi); have p602 : 0 ≤ (t600 : Int) := of_x; have q602 : t600 < (x5_1.length : Int) := of_x; obtain ⟨ad602, e602, hx602_0⟩ := Kd.at_int (Kd.R_reads' HO_5.out).2.2 t600 p602 q602; cases e602; replace p602 := eq_true p602; replace q602 := eq_true q602; have p13 : 0 ≤ (x6_1 : Int) := of_x; have q13 : (x6_1 : Int) < ((x5_1.length : Int) : Int) := of_x; obtain ⟨go13, co13, eo13, gb13, gl13, cl13, HG13⟩ := Kd.R_form HO_5.out (by omega); (first | cases eo13 | (injection eo13 with ea_ en_ ec_; (first | subst ea_ | (injection ea_ with ea_; subst ea_)); subst ec_; clear en_)); have GB13 := Aside0.mk gb13; have GG13 := Aside0.mk HG13; clear gb13 gl13 HG13; (first | simp only [add_plain] at hx602_0 | skip); obtain ⟨hx13_0, hf13_0⟩ := Kd.R_celln 0 HO_5.out (x6_1 : Int) p13 q13; replace p13 := eq_true p13; replace q13 := eq_true q13; obtain ⟨hy17_, hz17_⟩ := Kd.R_celln 0 HO_5.out (x6_1 : Int) (of_x) (of_x); have HP17 := Kd.R_putg HO_5.out (x6_1 : Int) (rd x5_1 t600)) | ((with_reducible refine gate_store (t := 3) (p := 27) rfl ?_); refine store_event (t := 3) (p := 27) (v := ?vo_w18) (w1 := (w16.setCell ⟨go13, (x6_1 : Int).toNat, none⟩ (.int .i64 (rd x5_1 t600)))) ?hg ?ho ?hn ?hr ?_; (case ho => rfl); (case hg => rfl); (case hn => rfl); (case hr => first | (go_simp; done) | (go_simp; rfl)); intro w18 hw; have hg : w16.grownBy w18 (some go13) := (by rw [hw]; exact HP17.2); have hp_ : Kd.R (Kd.int .i64) 3 w18 w.heap.size (fun _ => True) (.slice (some ⟨go13, 0, none⟩) x5_1.length co15) y603 := (by rw [hw, Ny603.out]; exact HP17.1); clear HP17; replace HI0 := Aside0.mk (IsS79.grown (by exact IsS79.up HI0.out) hg (IsS79.own_ne HI0.out HO_5.out (by decide))); replace HB := Aside0.mk ((by rw [hw]; exact below_set (HB.out) (Nat.le_trans HL.out GB13.out) : Below w0.heap.size w0 w18)); replace HK := Aside0.mk (KeepBut.trans (by exact keep_y HK.out) (KeepBut.of_grown hg g) (Kd.R_base2 HO_5.out)); replace HO_5 := Aside0.mk (hp_); clear hg hw hp_; have p14 : 0 ≤ (t600 : Int) := of_x; have q14 : (t600 : Int) < ((x5_1.length : Int) : Int) := of_x; obtain ⟨hx14_0, hf14_0⟩ := Kd.R_celln 0 HO_5.out (t600 : Int) p14 q14; replace p14 := eq_true p14; replace q14 := eq_true q14; obtain ⟨hy19_, hz19_⟩ := Kd.R_celln 0 HO_5.out (t600 : Int) (of_x) (of_x); have HP19 := Kd.R_putg HO_5.out (t600 : Int) x6_1) | ((with_reducible refine gate_store (t := 3) (p := 31) rfl ?_); refine store_event (t := 3) (p := 31) (v := ?vo_w20) (w1 := (w18.setCell ⟨go13, (t600 : Int).toNat, none⟩ (.int .i64 x6_1))) ?hg ?ho ?hn ?hr ?_; (case ho => rfl); (case hg => rfl); (case hn => rfl); (case hr => first | (go_simp; done) | (go_simp; rfl)); intro w20 hw; have hg : w18.grownBy w20 (some go13) := (by rw [hw]; exact HP19.2); have hp_ : Kd.R (Kd.int .i64) 3 w20 w.heap.size (fun _ => True) (.slice (some ⟨go13, 0, none⟩) x5_1.length co15) y604 := (by rw [hw, Ny604.out]; exact HP19.1); clear HP19; replace HI0 := Aside0.mk (IsS79.grown (by exact IsS79.up HI0.out) hg (IsS79.own_ne HI0.out HO_5.out (by decide))); replace HB := Aside0.mk ((by rw [hw]; exact below_set (HB.out) (Nat.le_trans HL.out GB13.out) : Below w0.heap.size w0 w20)); replace HK := Aside0.mk (KeepBut.trans (by exact keep_y HK.out) (KeepBut.of_grown hg g) (Kd.R_base2 HO_5.out)); replace HO_5 := Aside0.mk (hp_); clear hg hw hp_))
         go_roundg k1
         case measure => have := HK1.out; omega
         case rel => exact ⟨(y604), (wrap64 (x6_1 + 1)), (t601), (by first | rfl | (simp; done) | (simp [*]; done)), H', ⟨by have := HK1.out; omega⟩, ⟨by (with_reducible repeat (first | apply Kd.R_alloc | apply Kd.R_drewN | apply Kd.R_drew)); exact HO_5.out⟩, ⟨by exact IsS79.up HI0.out⟩, ⟨by exact keep_y HK.out⟩, ⟨by exact below_y HB.out⟩⟩
        ·
         rw [if_neg c12] at H
         exact absurd H (by simp)
       ·
        rw [if_neg c11] at H
        exact absurd H (by simp)
      ·
       rw [if_neg c10] at H
       exact absurd H (by simp)
     ·
      rw [if_neg c8] at H
      have c8b0 : decide (x6_1 < (x5_1.length : Int)) = false := decide_eq_false c8
      clear c8
      simp only [Option.some.injEq, Prod.mk.injEq] at H
      obtain ⟨rfl, rfl⟩ := H
      obtain ⟨Ao21, co21, eo21⟩ := Kd.R_slice HO_5.out
      subst eo21
      go_wp2
      go_ret
      exact ⟨_, by first | rfl | (simp [errW_none, errW_some] <;> rfl) | (simp only [← hji3]; first | rfl | (simp [errW_none, errW_some] <;> rfl)) | (simp [*, errW_none, errW_some] <;> rfl), by (with_reducible repeat (first | apply Kd.R_alloc | apply Kd.R_drewN | apply Kd.R_drew)); exact HO_5.out, by exact IsS79.up HI0.out, by exact below_y HB.out, by exact keep_y HK.out⟩
  ·
   rw [if_neg c5] at H
   exact absurd H (by simp)
 ·
  rw [if_neg c4] at H
  exact absurd H (by simp)
def swarfref04_from.f (a0 : Int) (a1 : Int) (a2 : Int) : Option (Bool) := if a0 ≥ a1 then (some (decide (a0 ≤ a2))) else (some false)
set_option maxHeartbeats 8000000 in
set_option maxRecDepth 100000 in
theorem swarfref04_from.calls (a0 : Int) (a1 : Int) (a2 : Int) (r : Bool) (w : World) (h : swarfref04_from.f a0 a1 a2 = some r) :
  Calls Try.prog 54 #[.int .i64 a0, .int .i64 a1, .int .i64 a2] w fun e w' => e = .returned (.bool r) ∧ Drawn0 w w' := by
 have H : (if a0 ≥ a1 then (some (decide (a0 ≤ a2))) else (some false)) = some r := h
 clear h
 by_cases c4 : a0 ≥ a1
 ·
  rw [if_pos c4] at H
  have c4b0 : decide (a1 ≤ a0) = true := decide_eq_true c4
  clear c4
  obtain rfl := Option.some.inj H
  go_enter Try.func54, Try.ntmps54
  go_wp2
  go_ret
  exact ⟨by first | rfl | (simp; done) | (simp [*]; done), by repeat (first | exact Drawn0.refl _ | apply Drawn0.step)⟩
 ·
  rw [if_neg c4] at H
  have c4b0 : decide (a1 ≤ a0) = false := decide_eq_false c4
  clear c4
  obtain rfl := Option.some.inj H
  go_enter Try.func54, Try.ntmps54
  go_wp2
  go_ret
  exact ⟨by first | rfl | (simp; done) | (simp [*]; done), by repeat (first | exact Drawn0.refl _ | apply Drawn0.step)⟩
def swarfref04_checkPart.l0 : Nat → Int → Int → List Int → Bool → Int → Int → Option (Int)
 | 0, _, _, _, _, _, _ => none
 | k + 1, x1, x5, x769000, x769001, x769002, x769003 => if x5 < (x769000.length : Int) then (if 0 ≤ x5 then ((swarfref04_from.f (rd x769000 x5) 0 (wrap64 (x1 - 1))).bind fun t770 => (if t770 = true then (if x5 > 0 then (if 0 ≤ (wrap64 (x5 - 1)) then (if (wrap64 (x5 - 1)) < (x769000.length : Int) then (if (rd x769000 x5) ≤ (rd x769000 (wrap64 (x5 - 1))) then (some 5) else (swarfref04_checkPart.l0 k x1 (wrap64 (x5 + 1)) x769000 x769001 x769002 x769003)) else (none)) else (none)) else (swarfref04_checkPart.l0 k x1 (wrap64 (x5 + 1)) x769000 x769001 x769002 x769003)) else (some 3))) else (none)) else ((swarfref04_from.f x769002 1 4).bind fun t773 => (if t773 = true then ((swarfref04_from.f x769003 0 1000).bind fun t774 => (if t774 = true then (some 0) else (some 1))) else (some 1)))
def swarfref04_checkPart.f (k : Nat) (l0_0 : List Int) (a0_1 : Bool) (a0_2 : Int) (a0_3 : Int) (a1 : Int) : Option (Int) := swarfref04_checkPart.l0 k a1 0 l0_0 a0_1 a0_2 a0_3
set_option maxHeartbeats 8000000 in
set_option maxRecDepth 100000 in
theorem swarfref04_checkPart.calls (k : Nat) (A0_0 : Option Addr) (c0_0 : Nat) (l0_0 : List Int) (a0_1 : Bool) (a0_2 : Int) (a0_3 : Int) (a1 : Int) (r : Int) (w : World) (hr0_0 : Kd.C (Kd.int .i64) w A0_0 l0_0.length l0_0) (hc0_0 : l0_0.length ≤ c0_0) (h : swarfref04_checkPart.f k l0_0 a0_1 a0_2 a0_3 a1 = some r) :
  Calls Try.prog 53 #[.agg #[.slice A0_0 l0_0.length c0_0, .bool a0_1, .int .i64 a0_2, .int .i64 a0_3], .int .i64 a1] w fun e w' => e = .returned (.int .i64 r) ∧ Below w.heap.size w w' := by
 have hu50 := Try.underlying50
 have HR0_0 := Aside0.mk hr0_0
 have HC0_0 := Aside0.mk hc0_0
 clear hr0_0 hc0_0
 have HB := Aside0.mk (Below.refl w.heap.size w)
 have H : (swarfref04_checkPart.l0 k a1 0 l0_0 a0_1 a0_2 a0_3) = some r := h
 clear h
 have H' := Aside0.mk H
 clear H
 go_enter Try.func53, Try.ntmps53
 go_wp2_with (first | ((with_reducible refine gate_dst (N := 2) rfl ?_); refine box_event ?hg (N := 2) ?hd (cs := #[.slice A0_0 l0_0.length c0_0, .bool a0_1, .int .i64 a0_2, .int .i64 a0_3]) (t := 50) ?hr ?_; (case hd => rfl); (case hg => rfl); (case hr => first | (go_simp; done) | (go_simp; rfl)); intro gb768 hg w3 hbox hb; have BK768 := Aside0.mk (hbox); have GW768 := Aside0.mk ((by rw [hg]; exact (below_size (below_x HB.out)) : w.heap.size ≤ gb768)); have GE768 := Aside0.mk ((by rw [hg]; exact (below_size (below_x HB.out)) : w.heap.size ≤ gb768)); replace HB := Aside0.mk (below_step (below_x HB.out) hb); clear hb hbox hg))
 repeat (go_quiet (first | ((with_reducible refine gate_dst (N := 2) rfl ?_); refine box_event ?hg (N := 2) ?hd (cs := #[.slice A0_0 l0_0.length c0_0, .bool a0_1, .int .i64 a0_2, .int .i64 a0_3]) (t := 50) ?hr ?_; (case hd => rfl); (case hg => rfl); (case hr => first | (go_simp; done) | (go_simp; rfl)); intro gb768 hg w3 hbox hb; have BK768 := Aside0.mk (hbox); have GW768 := Aside0.mk ((by rw [hg]; exact (below_size (below_x HB.out)) : w.heap.size ≤ gb768)); have GE768 := Aside0.mk ((by rw [hg]; exact (below_size (below_x HB.out)) : w.heap.size ≤ gb768)); replace HB := Aside0.mk (below_step (below_x HB.out) hb); clear hb hbox hg)); try go_wp2_with (first | ((with_reducible refine gate_dst (N := 2) rfl ?_); refine box_event ?hg (N := 2) ?hd (cs := #[.slice A0_0 l0_0.length c0_0, .bool a0_1, .int .i64 a0_2, .int .i64 a0_3]) (t := 50) ?hr ?_; (case hd => rfl); (case hg => rfl); (case hr => first | (go_simp; done) | (go_simp; rfl)); intro gb768 hg w3 hbox hb; have BK768 := Aside0.mk (hbox); have GW768 := Aside0.mk ((by rw [hg]; exact (below_size (below_x HB.out)) : w.heap.size ≤ gb768)); have GE768 := Aside0.mk ((by rw [hg]; exact (below_size (below_x HB.out)) : w.heap.size ≤ gb768)); replace HB := Aside0.mk (below_step (below_x HB.out) hb); clear hb hbox hg)))
 go_loopg [5] k (fun kq v5 w' => ∃ (x5_1 : Int), v5 = .int .i64 x5_1 ∧ Aside0 (swarfref04_checkPart.l0 kq a1 x5_1 l0_0 a0_1 a0_2 a0_3 = some r) ∧ Aside0 (kq ≤ k) ∧ Aside0 (w'.heap[gb768]? = some (.cells #[(.slice A0_0 l0_0.length c0_0), .bool a0_1, .int .i64 a0_2, .int .i64 a0_3] 50 (0, 0))) ∧ Aside0 (Below w.heap.size w w'))
 case atStart => exact ⟨(0), (by first | rfl | (simp; done) | (simp [*]; done)), H', ⟨Nat.le_refl _⟩, ⟨blk_x BK768.out⟩, ⟨by exact below_y HB.out⟩⟩
 case round =>
  clear H'
  obtain ⟨x5_1, rfl, HA, HK1, BK768, HB⟩ := hrel
  cases gk with
  | zero => exact absurd HA.out (by simp [swarfref04_checkPart.l0])
  | succ k1 =>
   have H := HA.out
   clear HA
   simp only [swarfref04_checkPart.l0] at H
   by_cases c4 : x5_1 < (l0_0.length : Int)
   ·
    rw [if_pos c4] at H
    have c4b0 : decide (x5_1 < (l0_0.length : Int)) = true := decide_eq_true c4
    clear c4
    by_cases c5 : 0 ≤ x5_1
    ·
     rw [if_pos c5] at H
     have c5b0 : decide (0 ≤ x5_1) = true := decide_eq_true c5
     clear c5
     replace H := Option.bind_eq_some_iff.mp H
     obtain ⟨t770, A60, H⟩ := H
     try dsimp only at H
     have A6 := Aside0.mk A60
     clear A60
     by_cases c7 : t770 = true
     ·
      subst c7
      have H1 : (if x5_1 > 0 then (if 0 ≤ (wrap64 (x5_1 - 1)) then (if (wrap64 (x5_1 - 1)) < (l0_0.length : Int) then (if (rd l0_0 x5_1) ≤ (rd l0_0 (wrap64 (x5_1 - 1))) then (some 5) else (swarfref04_checkPart.l0 k1 a1 (wrap64 (x5_1 + 1)) l0_0 a0_1 a0_2 a0_3)) else (none)) else (none)) else (swarfref04_checkPart.l0 k1 a1 (wrap64 (x5_1 + 1)) l0_0 a0_1 a0_2 a0_3)) = some r := by rw [if_pos rfl] at H; exact H
      clear H
      have H := H1
      clear H1
      by_cases c8 : x5_1 > 0
      ·
       rw [if_pos c8] at H
       have c8b0 : decide (0 < x5_1) = true := decide_eq_true c8
       clear c8
       obtain ⟨ji9, hji9⟩ : ∃ j_ : Int, (wrap64 (x5_1 - 1)) = j_ := ⟨_, rfl⟩
       replace H : (if 0 ≤ (ji9) then (if (ji9) < (l0_0.length : Int) then (if (rd l0_0 x5_1) ≤ (rd l0_0 (ji9)) then (some 5) else (swarfref04_checkPart.l0 k1 a1 (wrap64 (x5_1 + 1)) l0_0 a0_1 a0_2 a0_3)) else (none)) else (none)) = some r := by first | (rw [hji9] at H; exact H) | (simp only [hji9] at H ⊢; exact H)
       (try rw [hji9] at A6)
       have hji9w : (IntKind.i64.wrap (x5_1 - 1)) = ji9 := (i64_w _).trans hji9
       by_cases c10 : 0 ≤ (ji9)
       ·
        rw [if_pos c10] at H
        have c10b0 : decide (0 ≤ (ji9)) = true := decide_eq_true c10
        clear c10
        by_cases c11 : (ji9) < (l0_0.length : Int)
        ·
         rw [if_pos c11] at H
         have c11b0 : decide ((ji9) < (l0_0.length : Int)) = true := decide_eq_true c11
         clear c11
         by_cases c12 : (rd l0_0 x5_1) ≤ (rd l0_0 (ji9))
         ·
          rw [if_pos c12] at H
          have c12b0 : decide ((rd l0_0 x5_1) ≤ (rd l0_0 (ji9))) = true := decide_eq_true c12
          clear c12
          obtain rfl := Option.some.inj H
          obtain ⟨_, _, _, _⟩ := cz4 BK768
          have hfz13_0 := blk_frozen BK768.out
          have p769 : 0 ≤ (x5_1 : Int) := of_x
          have q769 : x5_1 < (l0_0.length : Int) := of_x
          obtain ⟨ad769, e769, hx769_0⟩ := Kd.at_int HR0_0.out x5_1 p769 q769
          cases e769
          replace hx769_0 := cell_x HB hx769_0
          replace p769 := eq_true p769
          replace q769 := eq_true q769
          go_wp2_with (first | (go_at_call 54; (with_reducible refine (swarfref04_from.calls (rd l0_0 x5_1) 0 (wrap64 (a1 - 1)) true _ A6.out).mono ?_); rintro e w' ⟨rfl, ⟨nd, rfl⟩⟩; (try first | exact ⟨rfl, _, World.drewN_drewN _ _ _⟩ | exact ⟨rfl, _, Eq.trans (World.drewN_drewN _ _ _) (congrArg (World.drewN _) (Nat.add_assoc _ _ _))⟩); have p771 : 0 ≤ (x5_1 : Int) := of_x; have q771 : x5_1 < (l0_0.length : Int) := of_x; obtain ⟨ad771, e771, hx771_0⟩ := Kd.at_int HR0_0.out x5_1 p771 q771; obtain rfl : ad769 = ad771 := (by injection e771); replace hx771_0 := cell_x HB hx771_0; replace p771 := eq_true p771; replace q771 := eq_true q771; have p772 : 0 ≤ ((ji9) : Int) := of_x; have q772 : (ji9) < (l0_0.length : Int) := of_x; obtain ⟨ad772, e772, hx772_0⟩ := Kd.at_int HR0_0.out (ji9) p772 q772; obtain rfl : ad769 = ad772 := (by injection e772); replace hx772_0 := cell_x HB hx772_0; replace p772 := eq_true p772; replace q772 := eq_true q772))
          repeat (go_quiet (first | (go_at_call 54; (with_reducible refine (swarfref04_from.calls (rd l0_0 x5_1) 0 (wrap64 (a1 - 1)) true _ A6.out).mono ?_); rintro e w' ⟨rfl, ⟨nd, rfl⟩⟩; (try first | exact ⟨rfl, _, World.drewN_drewN _ _ _⟩ | exact ⟨rfl, _, Eq.trans (World.drewN_drewN _ _ _) (congrArg (World.drewN _) (Nat.add_assoc _ _ _))⟩); have p771 : 0 ≤ (x5_1 : Int) := of_x; have q771 : x5_1 < (l0_0.length : Int) := of_x; obtain ⟨ad771, e771, hx771_0⟩ := Kd.at_int HR0_0.out x5_1 p771 q771; obtain rfl : ad769 = ad771 := (by injection e771); replace hx771_0 := cell_x HB hx771_0; replace p771 := eq_true p771; replace q771 := eq_true q771; have p772 : 0 ≤ ((ji9) : Int) := of_x; have q772 : (ji9) < (l0_0.length : Int) := of_x; obtain ⟨ad772, e772, hx772_0⟩ := Kd.at_int HR0_0.out (ji9) p772 q772; obtain rfl : ad769 = ad772 := (by injection e772); replace hx772_0 := cell_x HB hx772_0; replace p772 := eq_true p772; replace q772 := eq_true q772)); try go_wp2_with (first | (go_at_call 54; (with_reducible refine (swarfref04_from.calls (rd l0_0 x5_1) 0 (wrap64 (a1 - 1)) true _ A6.out).mono ?_); rintro e w' ⟨rfl, ⟨nd, rfl⟩⟩; (try first | exact ⟨rfl, _, World.drewN_drewN _ _ _⟩ | exact ⟨rfl, _, Eq.trans (World.drewN_drewN _ _ _) (congrArg (World.drewN _) (Nat.add_assoc _ _ _))⟩); have p771 : 0 ≤ (x5_1 : Int) := of_x; have q771 : x5_1 < (l0_0.length : Int) := of_x; obtain ⟨ad771, e771, hx771_0⟩ := Kd.at_int HR0_0.out x5_1 p771 q771; obtain rfl : ad769 = ad771 := (by injection e771); replace hx771_0 := cell_x HB hx771_0; replace p771 := eq_true p771; replace q771 := eq_true q771; have p772 : 0 ≤ ((ji9) : Int) := of_x; have q772 : (ji9) < (l0_0.length : Int) := of_x; obtain ⟨ad772, e772, hx772_0⟩ := Kd.at_int HR0_0.out (ji9) p772 q772; obtain rfl : ad769 = ad772 := (by injection e772); replace hx772_0 := cell_x HB hx772_0; replace p772 := eq_true p772; replace q772 := eq_true q772)))
          go_ret
          exact ⟨by first | rfl | (simp [errW_none, errW_some] <;> rfl) | (simp only [← hji9]; first | rfl | (simp [errW_none, errW_some] <;> rfl)) | (simp [*, errW_none, errW_some] <;> rfl), by exact below_y HB.out⟩
         ·
          rw [if_neg c12] at H
          have c12b0 : decide ((rd l0_0 x5_1) ≤ (rd l0_0 (ji9))) = false := decide_eq_false c12
          clear c12
          have H' := Aside0.mk H
          clear H
          obtain ⟨_, _, _, _⟩ := cz4 BK768
          have hfz14_0 := blk_frozen BK768.out
          have p769 : 0 ≤ (x5_1 : Int) := of_x
          have q769 : x5_1 < (l0_0.length : Int) := of_x
          obtain ⟨ad769, e769, hx769_0⟩ := Kd.at_int HR0_0.out x5_1 p769 q769
          cases e769
          replace hx769_0 := cell_x HB hx769_0
          replace p769 := eq_true p769
          replace q769 := eq_true q769
          go_wp2_with (first | (go_at_call 54; (with_reducible refine (swarfref04_from.calls (rd l0_0 x5_1) 0 (wrap64 (a1 - 1)) true _ A6.out).mono ?_); rintro e w' ⟨rfl, ⟨nd, rfl⟩⟩; (try first | exact ⟨rfl, _, World.drewN_drewN _ _ _⟩ | exact ⟨rfl, _, Eq.trans (World.drewN_drewN _ _ _) (congrArg (World.drewN _) (Nat.add_assoc _ _ _))⟩); have p771 : 0 ≤ (x5_1 : Int) := of_x; have q771 : x5_1 < (l0_0.length : Int) := of_x; obtain ⟨ad771, e771, hx771_0⟩ := Kd.at_int HR0_0.out x5_1 p771 q771; obtain rfl : ad769 = ad771 := (by injection e771); replace hx771_0 := cell_x HB hx771_0; replace p771 := eq_true p771; replace q771 := eq_true q771; have p772 : 0 ≤ ((ji9) : Int) := of_x; have q772 : (ji9) < (l0_0.length : Int) := of_x; obtain ⟨ad772, e772, hx772_0⟩ := Kd.at_int HR0_0.out (ji9) p772 q772; obtain rfl : ad769 = ad772 := (by injection e772); replace hx772_0 := cell_x HB hx772_0; replace p772 := eq_true p772; replace q772 := eq_true q772))
          repeat (go_quiet (first | (go_at_call 54; (with_reducible refine (swarfref04_from.calls (rd l0_0 x5_1) 0 (wrap64 (a1 - 1)) true _ A6.out).mono ?_); rintro e w' ⟨rfl, ⟨nd, rfl⟩⟩; (try first | exact ⟨rfl, _, World.drewN_drewN _ _ _⟩ | exact ⟨rfl, _, Eq.trans (World.drewN_drewN _ _ _) (congrArg (World.drewN _) (Nat.add_assoc _ _ _))⟩); have p771 : 0 ≤ (x5_1 : Int) := of_x; have q771 : x5_1 < (l0_0.length : Int) := of_x; obtain ⟨ad771, e771, hx771_0⟩ := Kd.at_int HR0_0.out x5_1 p771 q771; obtain rfl : ad769 = ad771 := (by injection e771); replace hx771_0 := cell_x HB hx771_0; replace p771 := eq_true p771; replace q771 := eq_true q771; have p772 : 0 ≤ ((ji9) : Int) := of_x; have q772 : (ji9) < (l0_0.length : Int) := of_x; obtain ⟨ad772, e772, hx772_0⟩ := Kd.at_int HR0_0.out (ji9) p772 q772; obtain rfl : ad769 = ad772 := (by injection e772); replace hx772_0 := cell_x HB hx772_0; replace p772 := eq_true p772; replace q772 := eq_true q772)); try go_wp2_with (first | (go_at_call 54; (with_reducible refine (swarfref04_from.calls (rd l0_0 x5_1) 0 (wrap64 (a1 - 1)) true _ A6.out).mono ?_); rintro e w' ⟨rfl, ⟨nd, rfl⟩⟩; (try first | exact ⟨rfl, _, World.drewN_drewN _ _ _⟩ | exact ⟨rfl, _, Eq.trans (World.drewN_drewN _ _ _) (congrArg (World.drewN _) (Nat.add_assoc _ _ _))⟩); have p771 : 0 ≤ (x5_1 : Int) := of_x; have q771 : x5_1 < (l0_0.length : Int) := of_x; obtain ⟨ad771, e771, hx771_0⟩ := Kd.at_int HR0_0.out x5_1 p771 q771; obtain rfl : ad769 = ad771 := (by injection e771); replace hx771_0 := cell_x HB hx771_0; replace p771 := eq_true p771; replace q771 := eq_true q771; have p772 : 0 ≤ ((ji9) : Int) := of_x; have q772 : (ji9) < (l0_0.length : Int) := of_x; obtain ⟨ad772, e772, hx772_0⟩ := Kd.at_int HR0_0.out (ji9) p772 q772; obtain rfl : ad769 = ad772 := (by injection e772); replace hx772_0 := cell_x HB hx772_0; replace p772 := eq_true p772; replace q772 := eq_true q772)))
          go_roundg k1
          case measure => have := HK1.out; omega
          case rel => exact ⟨(wrap64 (x5_1 + 1)), (by first | rfl | (simp; done) | (simp [*]; done)), H', ⟨by have := HK1.out; omega⟩, ⟨blk_x BK768.out⟩, ⟨by exact below_y HB.out⟩⟩
        ·
         rw [if_neg c11] at H
         exact absurd H (by simp)
       ·
        rw [if_neg c10] at H
        exact absurd H (by simp)
      ·
       rw [if_neg c8] at H
       have c8b0 : decide (0 < x5_1) = false := decide_eq_false c8
       clear c8
       have H' := Aside0.mk H
       clear H
       obtain ⟨_, _, _, _⟩ := cz4 BK768
       have hfz15_0 := blk_frozen BK768.out
       have p769 : 0 ≤ (x5_1 : Int) := of_x
       have q769 : x5_1 < (l0_0.length : Int) := of_x
       obtain ⟨ad769, e769, hx769_0⟩ := Kd.at_int HR0_0.out x5_1 p769 q769
       cases e769
       replace hx769_0 := cell_x HB hx769_0
       replace p769 := eq_true p769
       replace q769 := eq_true q769
       go_wp2_with (first | (go_at_call 54; (with_reducible refine (swarfref04_from.calls (rd l0_0 x5_1) 0 (wrap64 (a1 - 1)) true _ A6.out).mono ?_); rintro e w' ⟨rfl, ⟨nd, rfl⟩⟩; (try first | exact ⟨rfl, _, World.drewN_drewN _ _ _⟩ | exact ⟨rfl, _, Eq.trans (World.drewN_drewN _ _ _) (congrArg (World.drewN _) (Nat.add_assoc _ _ _))⟩)))
       repeat (go_quiet (first | (go_at_call 54; (with_reducible refine (swarfref04_from.calls (rd l0_0 x5_1) 0 (wrap64 (a1 - 1)) true _ A6.out).mono ?_); rintro e w' ⟨rfl, ⟨nd, rfl⟩⟩; (try first | exact ⟨rfl, _, World.drewN_drewN _ _ _⟩ | exact ⟨rfl, _, Eq.trans (World.drewN_drewN _ _ _) (congrArg (World.drewN _) (Nat.add_assoc _ _ _))⟩))); try go_wp2_with (first | (go_at_call 54; (with_reducible refine (swarfref04_from.calls (rd l0_0 x5_1) 0 (wrap64 (a1 - 1)) true _ A6.out).mono ?_); rintro e w' ⟨rfl, ⟨nd, rfl⟩⟩; (try first | exact ⟨rfl, _, World.drewN_drewN _ _ _⟩ | exact ⟨rfl, _, Eq.trans (World.drewN_drewN _ _ _) (congrArg (World.drewN _) (Nat.add_assoc _ _ _))⟩))))
       go_roundg k1
       case measure => have := HK1.out; omega
       case rel => exact ⟨(wrap64 (x5_1 + 1)), (by first | rfl | (simp; done) | (simp [*]; done)), H', ⟨by have := HK1.out; omega⟩, ⟨blk_x BK768.out⟩, ⟨by exact below_y HB.out⟩⟩
     ·
      replace c7 := Bool.eq_false_iff.mpr c7
      subst c7
      have H1 : (some 3) = some r := by rw [if_neg (show ¬ (false = true) by decide)] at H; exact H
      clear H
      have H := H1
      clear H1
      obtain rfl := Option.some.inj H
      obtain ⟨_, _, _, _⟩ := cz4 BK768
      have hfz16_0 := blk_frozen BK768.out
      have p769 : 0 ≤ (x5_1 : Int) := of_x
      have q769 : x5_1 < (l0_0.length : Int) := of_x
      obtain ⟨ad769, e769, hx769_0⟩ := Kd.at_int HR0_0.out x5_1 p769 q769
      cases e769
      replace hx769_0 := cell_x HB hx769_0
      replace p769 := eq_true p769
      replace q769 := eq_true q769
      go_wp2_with (first | (go_at_call 54; (with_reducible refine (swarfref04_from.calls (rd l0_0 x5_1) 0 (wrap64 (a1 - 1)) false _ A6.out).mono ?_); rintro e w' ⟨rfl, ⟨nd, rfl⟩⟩; (try first | exact ⟨rfl, _, World.drewN_drewN _ _ _⟩ | exact ⟨rfl, _, Eq.trans (World.drewN_drewN _ _ _) (congrArg (World.drewN _) (Nat.add_assoc _ _ _))⟩)))
      repeat (go_quiet (first | (go_at_call 54; (with_reducible refine (swarfref04_from.calls (rd l0_0 x5_1) 0 (wrap64 (a1 - 1)) false _ A6.out).mono ?_); rintro e w' ⟨rfl, ⟨nd, rfl⟩⟩; (try first | exact ⟨rfl, _, World.drewN_drewN _ _ _⟩ | exact ⟨rfl, _, Eq.trans (World.drewN_drewN _ _ _) (congrArg (World.drewN _) (Nat.add_assoc _ _ _))⟩))); try go_wp2_with (first | (go_at_call 54; (with_reducible refine (swarfref04_from.calls (rd l0_0 x5_1) 0 (wrap64 (a1 - 1)) false _ A6.out).mono ?_); rintro e w' ⟨rfl, ⟨nd, rfl⟩⟩; (try first | exact ⟨rfl, _, World.drewN_drewN _ _ _⟩ | exact ⟨rfl, _, Eq.trans (World.drewN_drewN _ _ _) (congrArg (World.drewN _) (Nat.add_assoc _ _ _))⟩))))
      go_ret
      exact ⟨by first | rfl | (simp [errW_none, errW_some] <;> rfl) | (simp [*, errW_none, errW_some] <;> rfl), by exact below_y HB.out⟩
    ·
     rw [if_neg c5] at H
     exact absurd H (by simp)
   ·
    rw [if_neg c4] at H
    have c4b0 : decide (x5_1 < (l0_0.length : Int)) = false := decide_eq_false c4
    clear c4
    replace H := Option.bind_eq_some_iff.mp H
    obtain ⟨t773, A170, H⟩ := H
    try dsimp only at H
    have A17 := Aside0.mk A170
    clear A170
    by_cases c18 : t773 = true
    ·
     subst c18
     have H1 : ((swarfref04_from.f a0_3 0 1000).bind fun t774 => (if t774 = true then (some 0) else (some 1))) = some r := by rw [if_pos rfl] at H; exact H
     clear H
     have H := H1
     clear H1
     replace H := Option.bind_eq_some_iff.mp H
     obtain ⟨t774, A190, H⟩ := H
     replace H : (if t774 = true then (some 0) else (some 1)) = some r := H
     have A19 := Aside0.mk A190
     clear A190
     by_cases c20 : t774 = true
     ·
      subst c20
      have H1 : (some 0) = some r := by rw [if_pos rfl] at H; exact H
      clear H
      have H := H1
      clear H1
      obtain rfl := Option.some.inj H
      obtain ⟨_, _, _, _⟩ := cz4 BK768
      have hfz21_0 := blk_frozen BK768.out
      go_wp2_with (first | (go_at_call 54; (with_reducible refine (swarfref04_from.calls a0_2 1 4 true _ A17.out).mono ?_); rintro e w' ⟨rfl, ⟨nd, rfl⟩⟩; (try first | exact ⟨rfl, _, World.drewN_drewN _ _ _⟩ | exact ⟨rfl, _, Eq.trans (World.drewN_drewN _ _ _) (congrArg (World.drewN _) (Nat.add_assoc _ _ _))⟩)) | (go_at_call 54; (with_reducible refine (swarfref04_from.calls a0_3 0 1000 true _ A19.out).mono ?_); rintro e w' ⟨rfl, ⟨nd, rfl⟩⟩; (try first | exact ⟨rfl, _, World.drewN_drewN _ _ _⟩ | exact ⟨rfl, _, Eq.trans (World.drewN_drewN _ _ _) (congrArg (World.drewN _) (Nat.add_assoc _ _ _))⟩)))
      repeat (go_quiet (first | (go_at_call 54; (with_reducible refine (swarfref04_from.calls a0_2 1 4 true _ A17.out).mono ?_); rintro e w' ⟨rfl, ⟨nd, rfl⟩⟩; (try first | exact ⟨rfl, _, World.drewN_drewN _ _ _⟩ | exact ⟨rfl, _, Eq.trans (World.drewN_drewN _ _ _) (congrArg (World.drewN _) (Nat.add_assoc _ _ _))⟩)) | (go_at_call 54; (with_reducible refine (swarfref04_from.calls a0_3 0 1000 true _ A19.out).mono ?_); rintro e w' ⟨rfl, ⟨nd, rfl⟩⟩; (try first | exact ⟨rfl, _, World.drewN_drewN _ _ _⟩ | exact ⟨rfl, _, Eq.trans (World.drewN_drewN _ _ _) (congrArg (World.drewN _) (Nat.add_assoc _ _ _))⟩))); try go_wp2_with (first | (go_at_call 54; (with_reducible refine (swarfref04_from.calls a0_2 1 4 true _ A17.out).mono ?_); rintro e w' ⟨rfl, ⟨nd, rfl⟩⟩; (try first | exact ⟨rfl, _, World.drewN_drewN _ _ _⟩ | exact ⟨rfl, _, Eq.trans (World.drewN_drewN _ _ _) (congrArg (World.drewN _) (Nat.add_assoc _ _ _))⟩)) | (go_at_call 54; (with_reducible refine (swarfref04_from.calls a0_3 0 1000 true _ A19.out).mono ?_); rintro e w' ⟨rfl, ⟨nd, rfl⟩⟩; (try first | exact ⟨rfl, _, World.drewN_drewN _ _ _⟩ | exact ⟨rfl, _, Eq.trans (World.drewN_drewN _ _ _) (congrArg (World.drewN _) (Nat.add_assoc _ _ _))⟩))))
      go_ret
      exact ⟨by first | rfl | (simp [errW_none, errW_some] <;> rfl) | (simp [*, errW_none, errW_some] <;> rfl), by exact below_y HB.out⟩
     ·
      replace c20 := Bool.eq_false_iff.mpr c20
      subst c20
      have H1 : (some 1) = some r := by rw [if_neg (show ¬ (false = true) by decide)] at H; exact H
      clear H
      have H := H1
      clear H1
      obtain rfl := Option.some.inj H
      obtain ⟨_, _, _, _⟩ := cz4 BK768
      have hfz22_0 := blk_frozen BK768.out
      go_wp2_with (first | (go_at_call 54; (with_reducible refine (swarfref04_from.calls a0_2 1 4 true _ A17.out).mono ?_); rintro e w' ⟨rfl, ⟨nd, rfl⟩⟩; (try first | exact ⟨rfl, _, World.drewN_drewN _ _ _⟩ | exact ⟨rfl, _, Eq.trans (World.drewN_drewN _ _ _) (congrArg (World.drewN _) (Nat.add_assoc _ _ _))⟩)) | (go_at_call 54; (with_reducible refine (swarfref04_from.calls a0_3 0 1000 false _ A19.out).mono ?_); rintro e w' ⟨rfl, ⟨nd, rfl⟩⟩; (try first | exact ⟨rfl, _, World.drewN_drewN _ _ _⟩ | exact ⟨rfl, _, Eq.trans (World.drewN_drewN _ _ _) (congrArg (World.drewN _) (Nat.add_assoc _ _ _))⟩)))
      repeat (go_quiet (first | (go_at_call 54; (with_reducible refine (swarfref04_from.calls a0_2 1 4 true _ A17.out).mono ?_); rintro e w' ⟨rfl, ⟨nd, rfl⟩⟩; (try first | exact ⟨rfl, _, World.drewN_drewN _ _ _⟩ | exact ⟨rfl, _, Eq.trans (World.drewN_drewN _ _ _) (congrArg (World.drewN _) (Nat.add_assoc _ _ _))⟩)) | (go_at_call 54; (with_reducible refine (swarfref04_from.calls a0_3 0 1000 false _ A19.out).mono ?_); rintro e w' ⟨rfl, ⟨nd, rfl⟩⟩; (try first | exact ⟨rfl, _, World.drewN_drewN _ _ _⟩ | exact ⟨rfl, _, Eq.trans (World.drewN_drewN _ _ _) (congrArg (World.drewN _) (Nat.add_assoc _ _ _))⟩))); try go_wp2_with (first | (go_at_call 54; (with_reducible refine (swarfref04_from.calls a0_2 1 4 true _ A17.out).mono ?_); rintro e w' ⟨rfl, ⟨nd, rfl⟩⟩; (try first | exact ⟨rfl, _, World.drewN_drewN _ _ _⟩ | exact ⟨rfl, _, Eq.trans (World.drewN_drewN _ _ _) (congrArg (World.drewN _) (Nat.add_assoc _ _ _))⟩)) | (go_at_call 54; (with_reducible refine (swarfref04_from.calls a0_3 0 1000 false _ A19.out).mono ?_); rintro e w' ⟨rfl, ⟨nd, rfl⟩⟩; (try first | exact ⟨rfl, _, World.drewN_drewN _ _ _⟩ | exact ⟨rfl, _, Eq.trans (World.drewN_drewN _ _ _) (congrArg (World.drewN _) (Nat.add_assoc _ _ _))⟩))))
      go_ret
      exact ⟨by first | rfl | (simp [errW_none, errW_some] <;> rfl) | (simp [*, errW_none, errW_some] <;> rfl), by exact below_y HB.out⟩
    ·
     replace c18 := Bool.eq_false_iff.mpr c18
     subst c18
     have H1 : (some 1) = some r := by rw [if_neg (show ¬ (false = true) by decide)] at H; exact H
     clear H
     have H := H1
     clear H1
     obtain rfl := Option.some.inj H
     obtain ⟨_, _, _, _⟩ := cz4 BK768
     have hfz23_0 := blk_frozen BK768.out
     go_wp2_with (first | (go_at_call 54; (with_reducible refine (swarfref04_from.calls a0_2 1 4 false _ A17.out).mono ?_); rintro e w' ⟨rfl, ⟨nd, rfl⟩⟩; (try first | exact ⟨rfl, _, World.drewN_drewN _ _ _⟩ | exact ⟨rfl, _, Eq.trans (World.drewN_drewN _ _ _) (congrArg (World.drewN _) (Nat.add_assoc _ _ _))⟩)))
     repeat (go_quiet (first | (go_at_call 54; (with_reducible refine (swarfref04_from.calls a0_2 1 4 false _ A17.out).mono ?_); rintro e w' ⟨rfl, ⟨nd, rfl⟩⟩; (try first | exact ⟨rfl, _, World.drewN_drewN _ _ _⟩ | exact ⟨rfl, _, Eq.trans (World.drewN_drewN _ _ _) (congrArg (World.drewN _) (Nat.add_assoc _ _ _))⟩))); try go_wp2_with (first | (go_at_call 54; (with_reducible refine (swarfref04_from.calls a0_2 1 4 false _ A17.out).mono ?_); rintro e w' ⟨rfl, ⟨nd, rfl⟩⟩; (try first | exact ⟨rfl, _, World.drewN_drewN _ _ _⟩ | exact ⟨rfl, _, Eq.trans (World.drewN_drewN _ _ _) (congrArg (World.drewN _) (Nat.add_assoc _ _ _))⟩))))
     go_ret
     exact ⟨by first | rfl | (simp [errW_none, errW_some] <;> rfl) | (simp [*, errW_none, errW_some] <;> rfl), by exact below_y HB.out⟩
mutual
def swarfref04_Check.l0 : Nat → Int → List (S50) → Int → List (S61) → Int → List Int → Option (Int)
 | 0, _, _, _, _, _, _ => none
 | k + 1, x3, x776000, x776001, x776002, x776003, x776004 => if x3 < (x776000.length : Int) then (if 0 ≤ x3 then ((swarfref04_checkPart.f k ((rd_T50 x776000 x3).f0) ((rd_T50 x776000 x3).f1) ((rd_T50 x776000 x3).f2) ((rd_T50 x776000 x3).f3) x3).bind fun t777 => (if t777 = 0 then (swarfref04_Check.l0 k (wrap64 (x3 + 1)) x776000 x776001 x776002 x776003 x776004) else (some t777))) else (none)) else ((swarfref04_from.f x776001 0 1000).bind fun t778 => (if t778 = true then (if (x776002.length : Int) > 12 then (some 6) else (swarfref04_Check.l1 k 0 x776000 x776001 x776002 x776003 x776004)) else (some 1)))
def swarfref04_Check.l1 : Nat → Int → List (S50) → Int → List (S61) → Int → List Int → Option (Int)
 | 0, _, _, _, _, _, _ => none
 | k + 1, x5, x776000, x776001, x776002, x776003, x776004 => if x5 < (x776002.length : Int) then (if 0 ≤ x5 then ((swarfref04_from.f ((rd_T61 x776002 x5).f0) 0 (wrap64 ((x776000.length : Int) - 1))).bind fun t780 => (if t780 = true then (swarfref04_Check.l1 k (wrap64 (x5 + 1)) x776000 x776001 x776002 x776003 x776004) else (some 3))) else (none)) else ((swarfref04_from.f x776003 0 12).bind fun t781 => (if t781 = true then (if (x776004.length : Int) > 8 then (some 6) else (swarfref04_Check.l2 k 0 x776000 x776001 x776002 x776003 x776004)) else (some 1)))
def swarfref04_Check.l2 : Nat → Int → List (S50) → Int → List (S61) → Int → List Int → Option (Int)
 | 0, _, _, _, _, _, _ => none
 | k + 1, x6, x776000, x776001, x776002, x776003, x776004 => if x6 < (x776004.length : Int) then (if 0 ≤ x6 then ((swarfref04_from.f (rd x776004 x6) 0 8).bind fun t783 => (if t783 = true then (if x6 > 0 then (if 0 ≤ (wrap64 (x6 - 1)) then (if (wrap64 (x6 - 1)) < (x776004.length : Int) then (if (rd x776004 x6) ≤ (rd x776004 (wrap64 (x6 - 1))) then (some 5) else (swarfref04_Check.l2 k (wrap64 (x6 + 1)) x776000 x776001 x776002 x776003 x776004)) else (none)) else (none)) else (swarfref04_Check.l2 k (wrap64 (x6 + 1)) x776000 x776001 x776002 x776003 x776004)) else (some 1))) else (none)) else (some 0)
end
def swarfref04_Check.f (k : Nat) (l0_0 : List (S50)) (a0_1 : Int) (l0_2 : List (S61)) (a0_3 : Int) (l0_4 : List Int) : Option (Int) := if (l0_0.length : Int) = 0 then (some 7) else (if (l0_0.length : Int) > 9 then (some 6) else (swarfref04_Check.l0 k 0 l0_0 a0_1 l0_2 a0_3 l0_4))
set_option maxHeartbeats 8000000 in
set_option maxRecDepth 100000 in
theorem swarfref04_Check.calls (k : Nat) (A0_0 : Option Addr) (c0_0 : Nat) (l0_0 : List (S50)) (a0_1 : Int) (A0_2 : Option Addr) (c0_2 : Nat) (l0_2 : List (S61)) (a0_3 : Int) (A0_4 : Option Addr) (c0_4 : Nat) (l0_4 : List Int) (r : Int) (w : World) (hr0_0 : Kd.C k50 w A0_0 l0_0.length l0_0) (hc0_0 : l0_0.length ≤ c0_0) (hr0_2 : Kd.C k61 w A0_2 l0_2.length l0_2) (hc0_2 : l0_2.length ≤ c0_2) (hr0_4 : Kd.C (Kd.int .i64) w A0_4 l0_4.length l0_4) (hc0_4 : l0_4.length ≤ c0_4) (h : swarfref04_Check.f k l0_0 a0_1 l0_2 a0_3 l0_4 = some r) :
  Calls Try.prog 15 #[.agg #[.slice A0_0 l0_0.length c0_0, .int .i64 a0_1, .slice A0_2 l0_2.length c0_2, .int .i64 a0_3, .slice A0_4 l0_4.length c0_4]] w fun e w' => e = .returned (.int .i64 r) ∧ Below w.heap.size w w' := by
 have hu26 := Try.underlying26
 have hu50 := Try.underlying50
 have HR0_0 := Aside0.mk hr0_0
 have HC0_0 := Aside0.mk hc0_0
 clear hr0_0 hc0_0
 have HR0_2 := Aside0.mk hr0_2
 have HC0_2 := Aside0.mk hc0_2
 clear hr0_2 hc0_2
 have HR0_4 := Aside0.mk hr0_4
 have HC0_4 := Aside0.mk hc0_4
 clear hr0_4 hc0_4
 have HB := Aside0.mk (Below.refl w.heap.size w)
 have H : (if (l0_0.length : Int) = 0 then (some 7) else (if (l0_0.length : Int) > 9 then (some 6) else (swarfref04_Check.l0 k 0 l0_0 a0_1 l0_2 a0_3 l0_4))) = some r := h
 clear h
 by_cases c2 : (l0_0.length : Int) = 0
 ·
  rw [if_pos c2] at H
  have c2b0 : ((l0_0.length : Int) == 0) = true := beq_iff_eq.mpr c2
  have c2b1 : ((l0_0.length : Int) != 0) = false := bne_eq_false_iff_eq.mpr c2
  clear c2
  obtain rfl := Option.some.inj H
  go_enter Try.func15, Try.ntmps15
  go_wp2_with (first | ((with_reducible refine gate_dst (N := 1) rfl ?_); refine box_event ?hg (N := 1) ?hd (cs := #[.slice A0_0 l0_0.length c0_0, .int .i64 a0_1, .slice A0_2 l0_2.length c0_2, .int .i64 a0_3, .slice A0_4 l0_4.length c0_4]) (t := 26) ?hr ?_; (case hd => rfl); (case hg => rfl); (case hr => first | (go_simp; done) | (go_simp; rfl)); intro gb775 hg w3 hbox hb; have BK775 := Aside0.mk (hbox); have GW775 := Aside0.mk ((by rw [hg]; exact (below_size (below_x HB.out)) : w.heap.size ≤ gb775)); have GE775 := Aside0.mk ((by rw [hg]; exact (below_size (below_x HB.out)) : w.heap.size ≤ gb775)); replace HB := Aside0.mk (below_step (below_x HB.out) hb); clear hb hbox hg; obtain ⟨_, _, _, _, _⟩ := cz5 BK775; have hfz4_0 := blk_frozen BK775.out))
  repeat (go_quiet (first | ((with_reducible refine gate_dst (N := 1) rfl ?_); refine box_event ?hg (N := 1) ?hd (cs := #[.slice A0_0 l0_0.length c0_0, .int .i64 a0_1, .slice A0_2 l0_2.length c0_2, .int .i64 a0_3, .slice A0_4 l0_4.length c0_4]) (t := 26) ?hr ?_; (case hd => rfl); (case hg => rfl); (case hr => first | (go_simp; done) | (go_simp; rfl)); intro gb775 hg w3 hbox hb; have BK775 := Aside0.mk (hbox); have GW775 := Aside0.mk ((by rw [hg]; exact (below_size (below_x HB.out)) : w.heap.size ≤ gb775)); have GE775 := Aside0.mk ((by rw [hg]; exact (below_size (below_x HB.out)) : w.heap.size ≤ gb775)); replace HB := Aside0.mk (below_step (below_x HB.out) hb); clear hb hbox hg; obtain ⟨_, _, _, _, _⟩ := cz5 BK775; have hfz4_0 := blk_frozen BK775.out)); try go_wp2_with (first | ((with_reducible refine gate_dst (N := 1) rfl ?_); refine box_event ?hg (N := 1) ?hd (cs := #[.slice A0_0 l0_0.length c0_0, .int .i64 a0_1, .slice A0_2 l0_2.length c0_2, .int .i64 a0_3, .slice A0_4 l0_4.length c0_4]) (t := 26) ?hr ?_; (case hd => rfl); (case hg => rfl); (case hr => first | (go_simp; done) | (go_simp; rfl)); intro gb775 hg w3 hbox hb; have BK775 := Aside0.mk (hbox); have GW775 := Aside0.mk ((by rw [hg]; exact (below_size (below_x HB.out)) : w.heap.size ≤ gb775)); have GE775 := Aside0.mk ((by rw [hg]; exact (below_size (below_x HB.out)) : w.heap.size ≤ gb775)); replace HB := Aside0.mk (below_step (below_x HB.out) hb); clear hb hbox hg; obtain ⟨_, _, _, _, _⟩ := cz5 BK775; have hfz4_0 := blk_frozen BK775.out)))
  go_ret
  exact ⟨by first | rfl | (simp [errW_none, errW_some] <;> rfl) | (simp [*, errW_none, errW_some] <;> rfl), by exact below_y HB.out⟩
 ·
  rw [if_neg c2] at H
  have c2b0 : ((l0_0.length : Int) == 0) = false := beq_eq_false_iff_ne.mpr c2
  have c2b1 : ((l0_0.length : Int) != 0) = true := bne_iff_ne.mpr c2
  have c2b2 : ¬ (l0_0 = []) := fun h_ => c2 (by rw [h_]; rfl)
  by_cases c5 : (l0_0.length : Int) > 9
  ·
   rw [if_pos c5] at H
   have c5b0 : decide (9 < (l0_0.length : Int)) = true := decide_eq_true c5
   have c5b1 : decide (9 < l0_0.length) = true := decide_eq_true (by omega)
   clear c5
   obtain rfl := Option.some.inj H
   go_enter Try.func15, Try.ntmps15
   go_wp2_with (first | ((with_reducible refine gate_dst (N := 1) rfl ?_); refine box_event ?hg (N := 1) ?hd (cs := #[.slice A0_0 l0_0.length c0_0, .int .i64 a0_1, .slice A0_2 l0_2.length c0_2, .int .i64 a0_3, .slice A0_4 l0_4.length c0_4]) (t := 26) ?hr ?_; (case hd => rfl); (case hg => rfl); (case hr => first | (go_simp; done) | (go_simp; rfl)); intro gb775 hg w6 hbox hb; have BK775 := Aside0.mk (hbox); have GW775 := Aside0.mk ((by rw [hg]; exact (below_size (below_x HB.out)) : w.heap.size ≤ gb775)); have GE775 := Aside0.mk ((by rw [hg]; exact (below_size (below_x HB.out)) : w.heap.size ≤ gb775)); replace HB := Aside0.mk (below_step (below_x HB.out) hb); clear hb hbox hg; obtain ⟨_, _, _, _, _⟩ := cz5 BK775; have hfz7_0 := blk_frozen BK775.out))
   repeat (go_quiet (first | ((with_reducible refine gate_dst (N := 1) rfl ?_); refine box_event ?hg (N := 1) ?hd (cs := #[.slice A0_0 l0_0.length c0_0, .int .i64 a0_1, .slice A0_2 l0_2.length c0_2, .int .i64 a0_3, .slice A0_4 l0_4.length c0_4]) (t := 26) ?hr ?_; (case hd => rfl); (case hg => rfl); (case hr => first | (go_simp; done) | (go_simp; rfl)); intro gb775 hg w6 hbox hb; have BK775 := Aside0.mk (hbox); have GW775 := Aside0.mk ((by rw [hg]; exact (below_size (below_x HB.out)) : w.heap.size ≤ gb775)); have GE775 := Aside0.mk ((by rw [hg]; exact (below_size (below_x HB.out)) : w.heap.size ≤ gb775)); replace HB := Aside0.mk (below_step (below_x HB.out) hb); clear hb hbox hg; obtain ⟨_, _, _, _, _⟩ := cz5 BK775; have hfz7_0 := blk_frozen BK775.out)); try go_wp2_with (first | ((with_reducible refine gate_dst (N := 1) rfl ?_); refine box_event ?hg (N := 1) ?hd (cs := #[.slice A0_0 l0_0.length c0_0, .int .i64 a0_1, .slice A0_2 l0_2.length c0_2, .int .i64 a0_3, .slice A0_4 l0_4.length c0_4]) (t := 26) ?hr ?_; (case hd => rfl); (case hg => rfl); (case hr => first | (go_simp; done) | (go_simp; rfl)); intro gb775 hg w6 hbox hb; have BK775 := Aside0.mk (hbox); have GW775 := Aside0.mk ((by rw [hg]; exact (below_size (below_x HB.out)) : w.heap.size ≤ gb775)); have GE775 := Aside0.mk ((by rw [hg]; exact (below_size (below_x HB.out)) : w.heap.size ≤ gb775)); replace HB := Aside0.mk (below_step (below_x HB.out) hb); clear hb hbox hg; obtain ⟨_, _, _, _, _⟩ := cz5 BK775; have hfz7_0 := blk_frozen BK775.out)))
   go_ret
   exact ⟨by first | rfl | (simp [errW_none, errW_some] <;> rfl) | (simp [*, errW_none, errW_some] <;> rfl), by exact below_y HB.out⟩
  ·
   rw [if_neg c5] at H
   have c5b0 : decide (9 < (l0_0.length : Int)) = false := decide_eq_false c5
   have c5b1 : decide (9 < l0_0.length) = false := decide_eq_false (by omega)
   clear c5
   have H' := Aside0.mk H
   clear H
   go_enter Try.func15, Try.ntmps15
   go_wp2_with (first | ((with_reducible refine gate_dst (N := 1) rfl ?_); refine box_event ?hg (N := 1) ?hd (cs := #[.slice A0_0 l0_0.length c0_0, .int .i64 a0_1, .slice A0_2 l0_2.length c0_2, .int .i64 a0_3, .slice A0_4 l0_4.length c0_4]) (t := 26) ?hr ?_; (case hd => rfl); (case hg => rfl); (case hr => first | (go_simp; done) | (go_simp; rfl)); intro gb775 hg w8 hbox hb; have BK775 := Aside0.mk (hbox); have GW775 := Aside0.mk ((by rw [hg]; exact (below_size (below_x HB.out)) : w.heap.size ≤ gb775)); have GE775 := Aside0.mk ((by rw [hg]; exact (below_size (below_x HB.out)) : w.heap.size ≤ gb775)); replace HB := Aside0.mk (below_step (below_x HB.out) hb); clear hb hbox hg; obtain ⟨_, _, _, _, _⟩ := cz5 BK775; have hfz9_0 := blk_frozen BK775.out))
   repeat (go_quiet (first | ((with_reducible refine gate_dst (N := 1) rfl ?_); refine box_event ?hg (N := 1) ?hd (cs := #[.slice A0_0 l0_0.length c0_0, .int .i64 a0_1, .slice A0_2 l0_2.length c0_2, .int .i64 a0_3, .slice A0_4 l0_4.length c0_4]) (t := 26) ?hr ?_; (case hd => rfl); (case hg => rfl); (case hr => first | (go_simp; done) | (go_simp; rfl)); intro gb775 hg w8 hbox hb; have BK775 := Aside0.mk (hbox); have GW775 := Aside0.mk ((by rw [hg]; exact (below_size (below_x HB.out)) : w.heap.size ≤ gb775)); have GE775 := Aside0.mk ((by rw [hg]; exact (below_size (below_x HB.out)) : w.heap.size ≤ gb775)); replace HB := Aside0.mk (below_step (below_x HB.out) hb); clear hb hbox hg; obtain ⟨_, _, _, _, _⟩ := cz5 BK775; have hfz9_0 := blk_frozen BK775.out)); try go_wp2_with (first | ((with_reducible refine gate_dst (N := 1) rfl ?_); refine box_event ?hg (N := 1) ?hd (cs := #[.slice A0_0 l0_0.length c0_0, .int .i64 a0_1, .slice A0_2 l0_2.length c0_2, .int .i64 a0_3, .slice A0_4 l0_4.length c0_4]) (t := 26) ?hr ?_; (case hd => rfl); (case hg => rfl); (case hr => first | (go_simp; done) | (go_simp; rfl)); intro gb775 hg w8 hbox hb; have BK775 := Aside0.mk (hbox); have GW775 := Aside0.mk ((by rw [hg]; exact (below_size (below_x HB.out)) : w.heap.size ≤ gb775)); have GE775 := Aside0.mk ((by rw [hg]; exact (below_size (below_x HB.out)) : w.heap.size ≤ gb775)); replace HB := Aside0.mk (below_step (below_x HB.out) hb); clear hb hbox hg; obtain ⟨_, _, _, _, _⟩ := cz5 BK775; have hfz9_0 := blk_frozen BK775.out)))
   go_loopg [3] k (fun kq v3 w' => ∃ (x3_1 : Int), v3 = .int .i64 x3_1 ∧ Aside0 (swarfref04_Check.l0 kq x3_1 l0_0 a0_1 l0_2 a0_3 l0_4 = some r) ∧ Aside0 (kq ≤ k) ∧ Aside0 (w'.heap[gb775]? = some (.cells #[(.slice A0_0 l0_0.length c0_0), .int .i64 a0_1, (.slice A0_2 l0_2.length c0_2), .int .i64 a0_3, (.slice A0_4 l0_4.length c0_4)] 26 (0, 0))) ∧ Aside0 (Below w.heap.size w w'))
   case atStart => exact ⟨(0), (by first | rfl | (simp; done) | (simp [*]; done)), H', ⟨Nat.le_refl _⟩, ⟨blk_x BK775.out⟩, ⟨by exact below_y HB.out⟩⟩
   case round =>
    clear H'
    obtain ⟨x3_1, rfl, HA, HK1, BK775, HB⟩ := hrel
    cases gk with
    | zero => exact absurd HA.out (by simp [swarfref04_Check.l0])
    | succ k1 =>
     have H := HA.out
     clear HA
     simp only [swarfref04_Check.l0] at H
     by_cases c10 : x3_1 < (l0_0.length : Int)
     ·
      rw [if_pos c10] at H
      have c10b0 : decide (x3_1 < (l0_0.length : Int)) = true := decide_eq_true c10
      clear c10
      by_cases c11 : 0 ≤ x3_1
      ·
       rw [if_pos c11] at H
       have c11b0 : decide (0 ≤ x3_1) = true := decide_eq_true c11
       clear c11
       replace H := Option.bind_eq_some_iff.mp H
       obtain ⟨t777, A120, H⟩ := H
       try dsimp only at H
       have A12 := Aside0.mk A120
       clear A120
       by_cases c13 : t777 = 0
       ·
        rw [if_pos c13] at H
        have c13b0 : (t777 == 0) = true := beq_iff_eq.mpr c13
        have c13b1 : (t777 != 0) = false := bne_eq_false_iff_eq.mpr c13
        clear c13
        have H' := Aside0.mk H
        clear H
        obtain ⟨_, _, _, _, _⟩ := cz5 BK775
        have hfz14_0 := blk_frozen BK775.out
        have p776 : 0 ≤ (x3_1 : Int) := of_x
        have q776 : x3_1 < (l0_0.length : Int) := of_x
        obtain ⟨ad776, A776_0, c776_0, e776, hx776_0, hx776_1, hx776_2, hx776_3, hl776_0, hi776_0⟩ := at_T50 HR0_0.out x3_1 p776 q776
        cases e776
        replace hx776_0 := cell_x HB hx776_0
        replace hx776_1 := cell_x HB hx776_1
        replace hx776_2 := cell_x HB hx776_2
        replace hx776_3 := cell_x HB hx776_3
        have HR776_0 := Aside0.mk hi776_0
        have HC776_0 := Aside0.mk hl776_0
        clear hi776_0 hl776_0
        replace p776 := eq_true p776
        replace q776 := eq_true q776
        go_wp2_with (first | (go_at_call 53; (with_reducible refine (swarfref04_checkPart.calls k1 _ _ ((rd_T50 l0_0 x3_1).f0) ((rd_T50 l0_0 x3_1).f1) ((rd_T50 l0_0 x3_1).f2) ((rd_T50 l0_0 x3_1).f3) x3_1 t777 _ ?side1 ?side2 A12.out).mono ?_); (case side1 => exact Kd.C_x HR776_0.out HB.out); (case side2 => exact HC776_0.out); rintro e w15 ⟨rfl, hb⟩; replace BK775 := Aside0.mk (blk_below (blk_x BK775.out) hb); replace HB := bl_x HB hb; (try clear hb); (try clear hk); (try clear hi)))
        repeat (go_quiet (first | (go_at_call 53; (with_reducible refine (swarfref04_checkPart.calls k1 _ _ ((rd_T50 l0_0 x3_1).f0) ((rd_T50 l0_0 x3_1).f1) ((rd_T50 l0_0 x3_1).f2) ((rd_T50 l0_0 x3_1).f3) x3_1 t777 _ ?side1 ?side2 A12.out).mono ?_); (case side1 => exact Kd.C_x HR776_0.out HB.out); (case side2 => exact HC776_0.out); rintro e w15 ⟨rfl, hb⟩; replace BK775 := Aside0.mk (blk_below (blk_x BK775.out) hb); replace HB := bl_x HB hb; (try clear hb); (try clear hk); (try clear hi))); try go_wp2_with (first | (go_at_call 53; (with_reducible refine (swarfref04_checkPart.calls k1 _ _ ((rd_T50 l0_0 x3_1).f0) ((rd_T50 l0_0 x3_1).f1) ((rd_T50 l0_0 x3_1).f2) ((rd_T50 l0_0 x3_1).f3) x3_1 t777 _ ?side1 ?side2 A12.out).mono ?_); (case side1 => exact Kd.C_x HR776_0.out HB.out); (case side2 => exact HC776_0.out); rintro e w15 ⟨rfl, hb⟩; replace BK775 := Aside0.mk (blk_below (blk_x BK775.out) hb); replace HB := bl_x HB hb; (try clear hb); (try clear hk); (try clear hi))))
        go_roundg k1
        case measure => have := HK1.out; omega
        case rel => exact ⟨(wrap64 (x3_1 + 1)), (by first | rfl | (simp; done) | (simp [*]; done)), H', ⟨by have := HK1.out; omega⟩, ⟨blk_x BK775.out⟩, ⟨by exact below_y HB.out⟩⟩
       ·
        rw [if_neg c13] at H
        have c13b0 : (t777 == 0) = false := beq_eq_false_iff_ne.mpr c13
        have c13b1 : (t777 != 0) = true := bne_iff_ne.mpr c13
        obtain rfl := Option.some.inj H
        obtain ⟨_, _, _, _, _⟩ := cz5 BK775
        have hfz16_0 := blk_frozen BK775.out
        have p776 : 0 ≤ (x3_1 : Int) := of_x
        have q776 : x3_1 < (l0_0.length : Int) := of_x
        obtain ⟨ad776, A776_0, c776_0, e776, hx776_0, hx776_1, hx776_2, hx776_3, hl776_0, hi776_0⟩ := at_T50 HR0_0.out x3_1 p776 q776
        cases e776
        replace hx776_0 := cell_x HB hx776_0
        replace hx776_1 := cell_x HB hx776_1
        replace hx776_2 := cell_x HB hx776_2
        replace hx776_3 := cell_x HB hx776_3
        have HR776_0 := Aside0.mk hi776_0
        have HC776_0 := Aside0.mk hl776_0
        clear hi776_0 hl776_0
        replace p776 := eq_true p776
        replace q776 := eq_true q776
        go_wp2_with (first | (go_at_call 53; (with_reducible refine (swarfref04_checkPart.calls k1 _ _ ((rd_T50 l0_0 x3_1).f0) ((rd_T50 l0_0 x3_1).f1) ((rd_T50 l0_0 x3_1).f2) ((rd_T50 l0_0 x3_1).f3) x3_1 t777 _ ?side1 ?side2 A12.out).mono ?_); (case side1 => exact Kd.C_x HR776_0.out HB.out); (case side2 => exact HC776_0.out); rintro e w17 ⟨rfl, hb⟩; replace BK775 := Aside0.mk (blk_below (blk_x BK775.out) hb); replace HB := bl_x HB hb; (try clear hb); (try clear hk); (try clear hi)))
        repeat (go_quiet (first | (go_at_call 53; (with_reducible refine (swarfref04_checkPart.calls k1 _ _ ((rd_T50 l0_0 x3_1).f0) ((rd_T50 l0_0 x3_1).f1) ((rd_T50 l0_0 x3_1).f2) ((rd_T50 l0_0 x3_1).f3) x3_1 t777 _ ?side1 ?side2 A12.out).mono ?_); (case side1 => exact Kd.C_x HR776_0.out HB.out); (case side2 => exact HC776_0.out); rintro e w17 ⟨rfl, hb⟩; replace BK775 := Aside0.mk (blk_below (blk_x BK775.out) hb); replace HB := bl_x HB hb; (try clear hb); (try clear hk); (try clear hi))); try go_wp2_with (first | (go_at_call 53; (with_reducible refine (swarfref04_checkPart.calls k1 _ _ ((rd_T50 l0_0 x3_1).f0) ((rd_T50 l0_0 x3_1).f1) ((rd_T50 l0_0 x3_1).f2) ((rd_T50 l0_0 x3_1).f3) x3_1 t777 _ ?side1 ?side2 A12.out).mono ?_); (case side1 => exact Kd.C_x HR776_0.out HB.out); (case side2 => exact HC776_0.out); rintro e w17 ⟨rfl, hb⟩; replace BK775 := Aside0.mk (blk_below (blk_x BK775.out) hb); replace HB := bl_x HB hb; (try clear hb); (try clear hk); (try clear hi))))
        go_ret
        exact ⟨by first | rfl | (simp [errW_none, errW_some] <;> rfl) | (simp [*, errW_none, errW_some] <;> rfl), by exact below_y HB.out⟩
      ·
       rw [if_neg c11] at H
       exact absurd H (by simp)
     ·
      rw [if_neg c10] at H
      have c10b0 : decide (x3_1 < (l0_0.length : Int)) = false := decide_eq_false c10
      clear c10
      replace H := Option.bind_eq_some_iff.mp H
      obtain ⟨t778, A180, H⟩ := H
      try dsimp only at H
      have A18 := Aside0.mk A180
      clear A180
      by_cases c19 : t778 = true
      ·
       subst c19
       have H1 : (if (l0_2.length : Int) > 12 then (some 6) else (swarfref04_Check.l1 k1 0 l0_0 a0_1 l0_2 a0_3 l0_4)) = some r := by rw [if_pos rfl] at H; exact H
       clear H
       have H := H1
       clear H1
       by_cases c20 : (l0_2.length : Int) > 12
       ·
        rw [if_pos c20] at H
        have c20b0 : decide (12 < (l0_2.length : Int)) = true := decide_eq_true c20
        have c20b1 : decide (12 < l0_2.length) = true := decide_eq_true (by omega)
        clear c20
        obtain rfl := Option.some.inj H
        obtain ⟨_, _, _, _, _⟩ := cz5 BK775
        have hfz21_0 := blk_frozen BK775.out
        go_wp2_with (first | (go_at_call 54; (with_reducible refine (swarfref04_from.calls a0_1 0 1000 true _ A18.out).mono ?_); rintro e w' ⟨rfl, ⟨nd, rfl⟩⟩; (try first | exact ⟨rfl, _, World.drewN_drewN _ _ _⟩ | exact ⟨rfl, _, Eq.trans (World.drewN_drewN _ _ _) (congrArg (World.drewN _) (Nat.add_assoc _ _ _))⟩)))
        repeat (go_quiet (first | (go_at_call 54; (with_reducible refine (swarfref04_from.calls a0_1 0 1000 true _ A18.out).mono ?_); rintro e w' ⟨rfl, ⟨nd, rfl⟩⟩; (try first | exact ⟨rfl, _, World.drewN_drewN _ _ _⟩ | exact ⟨rfl, _, Eq.trans (World.drewN_drewN _ _ _) (congrArg (World.drewN _) (Nat.add_assoc _ _ _))⟩))); try go_wp2_with (first | (go_at_call 54; (with_reducible refine (swarfref04_from.calls a0_1 0 1000 true _ A18.out).mono ?_); rintro e w' ⟨rfl, ⟨nd, rfl⟩⟩; (try first | exact ⟨rfl, _, World.drewN_drewN _ _ _⟩ | exact ⟨rfl, _, Eq.trans (World.drewN_drewN _ _ _) (congrArg (World.drewN _) (Nat.add_assoc _ _ _))⟩))))
        go_ret
        exact ⟨by first | rfl | (simp [errW_none, errW_some] <;> rfl) | (simp [*, errW_none, errW_some] <;> rfl), by exact below_y HB.out⟩
       ·
        rw [if_neg c20] at H
        have c20b0 : decide (12 < (l0_2.length : Int)) = false := decide_eq_false c20
        have c20b1 : decide (12 < l0_2.length) = false := decide_eq_false (by omega)
        clear c20
        have H' := Aside0.mk H
        clear H
        obtain ⟨_, _, _, _, _⟩ := cz5 BK775
        have hfz22_0 := blk_frozen BK775.out
        go_wp2_with (first | (go_at_call 54; (with_reducible refine (swarfref04_from.calls a0_1 0 1000 true _ A18.out).mono ?_); rintro e w' ⟨rfl, ⟨nd, rfl⟩⟩; (try first | exact ⟨rfl, _, World.drewN_drewN _ _ _⟩ | exact ⟨rfl, _, Eq.trans (World.drewN_drewN _ _ _) (congrArg (World.drewN _) (Nat.add_assoc _ _ _))⟩)))
        repeat (go_quiet (first | (go_at_call 54; (with_reducible refine (swarfref04_from.calls a0_1 0 1000 true _ A18.out).mono ?_); rintro e w' ⟨rfl, ⟨nd, rfl⟩⟩; (try first | exact ⟨rfl, _, World.drewN_drewN _ _ _⟩ | exact ⟨rfl, _, Eq.trans (World.drewN_drewN _ _ _) (congrArg (World.drewN _) (Nat.add_assoc _ _ _))⟩))); try go_wp2_with (first | (go_at_call 54; (with_reducible refine (swarfref04_from.calls a0_1 0 1000 true _ A18.out).mono ?_); rintro e w' ⟨rfl, ⟨nd, rfl⟩⟩; (try first | exact ⟨rfl, _, World.drewN_drewN _ _ _⟩ | exact ⟨rfl, _, Eq.trans (World.drewN_drewN _ _ _) (congrArg (World.drewN _) (Nat.add_assoc _ _ _))⟩))))
        go_loopg [5] k1 (fun kq v5 w' => ∃ (x5_2 : Int), v5 = .int .i64 x5_2 ∧ Aside0 (swarfref04_Check.l1 kq x5_2 l0_0 a0_1 l0_2 a0_3 l0_4 = some r) ∧ Aside0 (kq ≤ k1) ∧ Aside0 (w'.heap[gb775]? = some (.cells #[(.slice A0_0 l0_0.length c0_0), .int .i64 a0_1, (.slice A0_2 l0_2.length c0_2), .int .i64 a0_3, (.slice A0_4 l0_4.length c0_4)] 26 (0, 0))) ∧ Aside0 (Below w.heap.size w w'))
        case atStart => exact ⟨(0), (by first | rfl | (simp; done) | (simp [*]; done)), H', ⟨Nat.le_refl _⟩, ⟨blk_x BK775.out⟩, ⟨by exact below_y HB.out⟩⟩
        case round =>
         clear H'
         obtain ⟨x5_2, rfl, HA, HK2, BK775, HB⟩ := hrel
         cases gk with
         | zero => exact absurd HA.out (by simp [swarfref04_Check.l1])
         | succ k2 =>
          have H := HA.out
          clear HA
          simp only [swarfref04_Check.l1] at H
          by_cases c23 : x5_2 < (l0_2.length : Int)
          ·
           rw [if_pos c23] at H
           have c23b0 : decide (x5_2 < (l0_2.length : Int)) = true := decide_eq_true c23
           clear c23
           by_cases c24 : 0 ≤ x5_2
           ·
            rw [if_pos c24] at H
            have c24b0 : decide (0 ≤ x5_2) = true := decide_eq_true c24
            clear c24
            replace H := Option.bind_eq_some_iff.mp H
            obtain ⟨t780, A250, H⟩ := H
            try dsimp only at H
            have A25 := Aside0.mk A250
            clear A250
            by_cases c26 : t780 = true
            ·
             subst c26
             have H1 : (swarfref04_Check.l1 k2 (wrap64 (x5_2 + 1)) l0_0 a0_1 l0_2 a0_3 l0_4) = some r := by rw [if_pos rfl] at H; exact H
             clear H
             have H := H1
             clear H1
             have H' := Aside0.mk H
             clear H
             obtain ⟨_, _, _, _, _⟩ := cz5 BK775
             have hfz27_0 := blk_frozen BK775.out
             have p779 : 0 ≤ (x5_2 : Int) := of_x
             have q779 : x5_2 < (l0_2.length : Int) := of_x
             obtain ⟨ad779, e779, hx779_0, hx779_1⟩ := at_T61 HR0_2.out x5_2 p779 q779
             cases e779
             replace hx779_0 := cell_x HB hx779_0
             replace hx779_1 := cell_x HB hx779_1
             replace p779 := eq_true p779
             replace q779 := eq_true q779
             go_wp2_with (first | (go_at_call 54; (with_reducible refine (swarfref04_from.calls ((rd_T61 l0_2 x5_2).f0) 0 (wrap64 ((l0_0.length : Int) - 1)) true _ A25.out).mono ?_); rintro e w' ⟨rfl, ⟨nd, rfl⟩⟩; (try first | exact ⟨rfl, _, World.drewN_drewN _ _ _⟩ | exact ⟨rfl, _, Eq.trans (World.drewN_drewN _ _ _) (congrArg (World.drewN _) (Nat.add_assoc _ _ _))⟩)))
             repeat (go_quiet (first | (go_at_call 54; (with_reducible refine (swarfref04_from.calls ((rd_T61 l0_2 x5_2).f0) 0 (wrap64 ((l0_0.length : Int) - 1)) true _ A25.out).mono ?_); rintro e w' ⟨rfl, ⟨nd, rfl⟩⟩; (try first | exact ⟨rfl, _, World.drewN_drewN _ _ _⟩ | exact ⟨rfl, _, Eq.trans (World.drewN_drewN _ _ _) (congrArg (World.drewN _) (Nat.add_assoc _ _ _))⟩))); try go_wp2_with (first | (go_at_call 54; (with_reducible refine (swarfref04_from.calls ((rd_T61 l0_2 x5_2).f0) 0 (wrap64 ((l0_0.length : Int) - 1)) true _ A25.out).mono ?_); rintro e w' ⟨rfl, ⟨nd, rfl⟩⟩; (try first | exact ⟨rfl, _, World.drewN_drewN _ _ _⟩ | exact ⟨rfl, _, Eq.trans (World.drewN_drewN _ _ _) (congrArg (World.drewN _) (Nat.add_assoc _ _ _))⟩))))
             go_roundg k2
             case measure => have := HK1.out; have := HK2.out; omega
             case rel => exact ⟨(wrap64 (x5_2 + 1)), (by first | rfl | (simp; done) | (simp [*]; done)), H', ⟨by have := HK1.out; have := HK2.out; omega⟩, ⟨blk_x BK775.out⟩, ⟨by exact below_y HB.out⟩⟩
            ·
             replace c26 := Bool.eq_false_iff.mpr c26
             subst c26
             have H1 : (some 3) = some r := by rw [if_neg (show ¬ (false = true) by decide)] at H; exact H
             clear H
             have H := H1
             clear H1
             obtain rfl := Option.some.inj H
             obtain ⟨_, _, _, _, _⟩ := cz5 BK775
             have hfz28_0 := blk_frozen BK775.out
             have p779 : 0 ≤ (x5_2 : Int) := of_x
             have q779 : x5_2 < (l0_2.length : Int) := of_x
             obtain ⟨ad779, e779, hx779_0, hx779_1⟩ := at_T61 HR0_2.out x5_2 p779 q779
             cases e779
             replace hx779_0 := cell_x HB hx779_0
             replace hx779_1 := cell_x HB hx779_1
             replace p779 := eq_true p779
             replace q779 := eq_true q779
             go_wp2_with (first | (go_at_call 54; (with_reducible refine (swarfref04_from.calls ((rd_T61 l0_2 x5_2).f0) 0 (wrap64 ((l0_0.length : Int) - 1)) false _ A25.out).mono ?_); rintro e w' ⟨rfl, ⟨nd, rfl⟩⟩; (try first | exact ⟨rfl, _, World.drewN_drewN _ _ _⟩ | exact ⟨rfl, _, Eq.trans (World.drewN_drewN _ _ _) (congrArg (World.drewN _) (Nat.add_assoc _ _ _))⟩)))
             repeat (go_quiet (first | (go_at_call 54; (with_reducible refine (swarfref04_from.calls ((rd_T61 l0_2 x5_2).f0) 0 (wrap64 ((l0_0.length : Int) - 1)) false _ A25.out).mono ?_); rintro e w' ⟨rfl, ⟨nd, rfl⟩⟩; (try first | exact ⟨rfl, _, World.drewN_drewN _ _ _⟩ | exact ⟨rfl, _, Eq.trans (World.drewN_drewN _ _ _) (congrArg (World.drewN _) (Nat.add_assoc _ _ _))⟩))); try go_wp2_with (first | (go_at_call 54; (with_reducible refine (swarfref04_from.calls ((rd_T61 l0_2 x5_2).f0) 0 (wrap64 ((l0_0.length : Int) - 1)) false _ A25.out).mono ?_); rintro e w' ⟨rfl, ⟨nd, rfl⟩⟩; (try first | exact ⟨rfl, _, World.drewN_drewN _ _ _⟩ | exact ⟨rfl, _, Eq.trans (World.drewN_drewN _ _ _) (congrArg (World.drewN _) (Nat.add_assoc _ _ _))⟩))))
             go_ret
             exact ⟨by first | rfl | (simp [errW_none, errW_some] <;> rfl) | (simp [*, errW_none, errW_some] <;> rfl), by exact below_y HB.out⟩
           ·
            rw [if_neg c24] at H
            exact absurd H (by simp)
          ·
           rw [if_neg c23] at H
           have c23b0 : decide (x5_2 < (l0_2.length : Int)) = false := decide_eq_false c23
           clear c23
           replace H := Option.bind_eq_some_iff.mp H
           obtain ⟨t781, A290, H⟩ := H
           try dsimp only at H
           have A29 := Aside0.mk A290
           clear A290
           by_cases c30 : t781 = true
           ·
            subst c30
            have H1 : (if (l0_4.length : Int) > 8 then (some 6) else (swarfref04_Check.l2 k2 0 l0_0 a0_1 l0_2 a0_3 l0_4)) = some r := by rw [if_pos rfl] at H; exact H
            clear H
            have H := H1
            clear H1
            by_cases c31 : (l0_4.length : Int) > 8
            ·
             rw [if_pos c31] at H
             have c31b0 : decide (8 < (l0_4.length : Int)) = true := decide_eq_true c31
             have c31b1 : decide (8 < l0_4.length) = true := decide_eq_true (by omega)
             clear c31
             obtain rfl := Option.some.inj H
             obtain ⟨_, _, _, _, _⟩ := cz5 BK775
             have hfz32_0 := blk_frozen BK775.out
             go_wp2_with (first | (go_at_call 54; (with_reducible refine (swarfref04_from.calls a0_3 0 12 true _ A29.out).mono ?_); rintro e w' ⟨rfl, ⟨nd, rfl⟩⟩; (try first | exact ⟨rfl, _, World.drewN_drewN _ _ _⟩ | exact ⟨rfl, _, Eq.trans (World.drewN_drewN _ _ _) (congrArg (World.drewN _) (Nat.add_assoc _ _ _))⟩)))
             repeat (go_quiet (first | (go_at_call 54; (with_reducible refine (swarfref04_from.calls a0_3 0 12 true _ A29.out).mono ?_); rintro e w' ⟨rfl, ⟨nd, rfl⟩⟩; (try first | exact ⟨rfl, _, World.drewN_drewN _ _ _⟩ | exact ⟨rfl, _, Eq.trans (World.drewN_drewN _ _ _) (congrArg (World.drewN _) (Nat.add_assoc _ _ _))⟩))); try go_wp2_with (first | (go_at_call 54; (with_reducible refine (swarfref04_from.calls a0_3 0 12 true _ A29.out).mono ?_); rintro e w' ⟨rfl, ⟨nd, rfl⟩⟩; (try first | exact ⟨rfl, _, World.drewN_drewN _ _ _⟩ | exact ⟨rfl, _, Eq.trans (World.drewN_drewN _ _ _) (congrArg (World.drewN _) (Nat.add_assoc _ _ _))⟩))))
             go_ret
             exact ⟨by first | rfl | (simp [errW_none, errW_some] <;> rfl) | (simp [*, errW_none, errW_some] <;> rfl), by exact below_y HB.out⟩
            ·
             rw [if_neg c31] at H
             have c31b0 : decide (8 < (l0_4.length : Int)) = false := decide_eq_false c31
             have c31b1 : decide (8 < l0_4.length) = false := decide_eq_false (by omega)
             clear c31
             have H' := Aside0.mk H
             clear H
             obtain ⟨_, _, _, _, _⟩ := cz5 BK775
             have hfz33_0 := blk_frozen BK775.out
             go_wp2_with (first | (go_at_call 54; (with_reducible refine (swarfref04_from.calls a0_3 0 12 true _ A29.out).mono ?_); rintro e w' ⟨rfl, ⟨nd, rfl⟩⟩; (try first | exact ⟨rfl, _, World.drewN_drewN _ _ _⟩ | exact ⟨rfl, _, Eq.trans (World.drewN_drewN _ _ _) (congrArg (World.drewN _) (Nat.add_assoc _ _ _))⟩)))
             repeat (go_quiet (first | (go_at_call 54; (with_reducible refine (swarfref04_from.calls a0_3 0 12 true _ A29.out).mono ?_); rintro e w' ⟨rfl, ⟨nd, rfl⟩⟩; (try first | exact ⟨rfl, _, World.drewN_drewN _ _ _⟩ | exact ⟨rfl, _, Eq.trans (World.drewN_drewN _ _ _) (congrArg (World.drewN _) (Nat.add_assoc _ _ _))⟩))); try go_wp2_with (first | (go_at_call 54; (with_reducible refine (swarfref04_from.calls a0_3 0 12 true _ A29.out).mono ?_); rintro e w' ⟨rfl, ⟨nd, rfl⟩⟩; (try first | exact ⟨rfl, _, World.drewN_drewN _ _ _⟩ | exact ⟨rfl, _, Eq.trans (World.drewN_drewN _ _ _) (congrArg (World.drewN _) (Nat.add_assoc _ _ _))⟩))))
             go_loopg [6] k2 (fun kq v6 w' => ∃ (x6_3 : Int), v6 = .int .i64 x6_3 ∧ Aside0 (swarfref04_Check.l2 kq x6_3 l0_0 a0_1 l0_2 a0_3 l0_4 = some r) ∧ Aside0 (kq ≤ k2) ∧ Aside0 (w'.heap[gb775]? = some (.cells #[(.slice A0_0 l0_0.length c0_0), .int .i64 a0_1, (.slice A0_2 l0_2.length c0_2), .int .i64 a0_3, (.slice A0_4 l0_4.length c0_4)] 26 (0, 0))) ∧ Aside0 (Below w.heap.size w w'))
             case atStart => exact ⟨(0), (by first | rfl | (simp; done) | (simp [*]; done)), H', ⟨Nat.le_refl _⟩, ⟨blk_x BK775.out⟩, ⟨by exact below_y HB.out⟩⟩
             case round =>
              clear H'
              obtain ⟨x6_3, rfl, HA, HK3, BK775, HB⟩ := hrel
              cases gk with
              | zero => exact absurd HA.out (by simp [swarfref04_Check.l2])
              | succ k3 =>
               have H := HA.out
               clear HA
               simp only [swarfref04_Check.l2] at H
               by_cases c34 : x6_3 < (l0_4.length : Int)
               ·
                rw [if_pos c34] at H
                have c34b0 : decide (x6_3 < (l0_4.length : Int)) = true := decide_eq_true c34
                clear c34
                by_cases c35 : 0 ≤ x6_3
                ·
                 rw [if_pos c35] at H
                 have c35b0 : decide (0 ≤ x6_3) = true := decide_eq_true c35
                 clear c35
                 replace H := Option.bind_eq_some_iff.mp H
                 obtain ⟨t783, A360, H⟩ := H
                 try dsimp only at H
                 have A36 := Aside0.mk A360
                 clear A360
                 by_cases c37 : t783 = true
                 ·
                  subst c37
                  have H1 : (if x6_3 > 0 then (if 0 ≤ (wrap64 (x6_3 - 1)) then (if (wrap64 (x6_3 - 1)) < (l0_4.length : Int) then (if (rd l0_4 x6_3) ≤ (rd l0_4 (wrap64 (x6_3 - 1))) then (some 5) else (swarfref04_Check.l2 k3 (wrap64 (x6_3 + 1)) l0_0 a0_1 l0_2 a0_3 l0_4)) else (none)) else (none)) else (swarfref04_Check.l2 k3 (wrap64 (x6_3 + 1)) l0_0 a0_1 l0_2 a0_3 l0_4)) = some r := by rw [if_pos rfl] at H; exact H
                  clear H
                  have H := H1
                  clear H1
                  by_cases c38 : x6_3 > 0
                  ·
                   rw [if_pos c38] at H
                   have c38b0 : decide (0 < x6_3) = true := decide_eq_true c38
                   clear c38
                   obtain ⟨ji39, hji39⟩ : ∃ j_ : Int, (wrap64 (x6_3 - 1)) = j_ := ⟨_, rfl⟩
                   replace H : (if 0 ≤ (ji39) then (if (ji39) < (l0_4.length : Int) then (if (rd l0_4 x6_3) ≤ (rd l0_4 (ji39)) then (some 5) else (swarfref04_Check.l2 k3 (wrap64 (x6_3 + 1)) l0_0 a0_1 l0_2 a0_3 l0_4)) else (none)) else (none)) = some r := by first | (rw [hji39] at H; exact H) | (simp only [hji39] at H ⊢; exact H)
                   (try rw [hji39] at A36)
                   have hji39w : (IntKind.i64.wrap (x6_3 - 1)) = ji39 := (i64_w _).trans hji39
                   by_cases c40 : 0 ≤ (ji39)
                   ·
                    rw [if_pos c40] at H
                    have c40b0 : decide (0 ≤ (ji39)) = true := decide_eq_true c40
                    clear c40
                    by_cases c41 : (ji39) < (l0_4.length : Int)
                    ·
                     rw [if_pos c41] at H
                     have c41b0 : decide ((ji39) < (l0_4.length : Int)) = true := decide_eq_true c41
                     clear c41
                     by_cases c42 : (rd l0_4 x6_3) ≤ (rd l0_4 (ji39))
                     ·
                      rw [if_pos c42] at H
                      have c42b0 : decide ((rd l0_4 x6_3) ≤ (rd l0_4 (ji39))) = true := decide_eq_true c42
                      clear c42
                      obtain rfl := Option.some.inj H
                      obtain ⟨_, _, _, _, _⟩ := cz5 BK775
                      have hfz43_0 := blk_frozen BK775.out
                      have p782 : 0 ≤ (x6_3 : Int) := of_x
                      have q782 : x6_3 < (l0_4.length : Int) := of_x
                      obtain ⟨ad782, e782, hx782_0⟩ := Kd.at_int HR0_4.out x6_3 p782 q782
                      cases e782
                      replace hx782_0 := cell_x HB hx782_0
                      replace p782 := eq_true p782
                      replace q782 := eq_true q782
                      go_wp2_with (first | (go_at_call 54; (with_reducible refine (swarfref04_from.calls (rd l0_4 x6_3) 0 8 true _ A36.out).mono ?_); rintro e w' ⟨rfl, ⟨nd, rfl⟩⟩; (try first | exact ⟨rfl, _, World.drewN_drewN _ _ _⟩ | exact ⟨rfl, _, Eq.trans (World.drewN_drewN _ _ _) (congrArg (World.drewN _) (Nat.add_assoc _ _ _))⟩); have p784 : 0 ≤ (x6_3 : Int) := of_x; have q784 : x6_3 < (l0_4.length : Int) := of_x; obtain ⟨ad784, e784, hx784_0⟩ := Kd.at_int HR0_4.out x6_3 p784 q784; obtain rfl : ad782 = ad784 := (by injection e784); replace hx784_0 := cell_x HB hx784_0; replace p784 := eq_true p784; replace q784 := eq_true q784; have p785 : 0 ≤ ((ji39) : Int) := of_x; have q785 : (ji39) < (l0_4.length : Int) := of_x; obtain ⟨ad785, e785, hx785_0⟩ := Kd.at_int HR0_4.out (ji39) p785 q785; obtain rfl : ad782 = ad785 := (by injection e785); replace hx785_0 := cell_x HB hx785_0; replace p785 := eq_true p785; replace q785 := eq_true q785))
                      repeat (go_quiet (first | (go_at_call 54; (with_reducible refine (swarfref04_from.calls (rd l0_4 x6_3) 0 8 true _ A36.out).mono ?_); rintro e w' ⟨rfl, ⟨nd, rfl⟩⟩; (try first | exact ⟨rfl, _, World.drewN_drewN _ _ _⟩ | exact ⟨rfl, _, Eq.trans (World.drewN_drewN _ _ _) (congrArg (World.drewN _) (Nat.add_assoc _ _ _))⟩); have p784 : 0 ≤ (x6_3 : Int) := of_x; have q784 : x6_3 < (l0_4.length : Int) := of_x; obtain ⟨ad784, e784, hx784_0⟩ := Kd.at_int HR0_4.out x6_3 p784 q784; obtain rfl : ad782 = ad784 := (by injection e784); replace hx784_0 := cell_x HB hx784_0; replace p784 := eq_true p784; replace q784 := eq_true q784; have p785 : 0 ≤ ((ji39) : Int) := of_x; have q785 : (ji39) < (l0_4.length : Int) := of_x; obtain ⟨ad785, e785, hx785_0⟩ := Kd.at_int HR0_4.out (ji39) p785 q785; obtain rfl : ad782 = ad785 := (by injection e785); replace hx785_0 := cell_x HB hx785_0; replace p785 := eq_true p785; replace q785 := eq_true q785)); try go_wp2_with (first | (go_at_call 54; (with_reducible refine (swarfref04_from.calls (rd l0_4 x6_3) 0 8 true _ A36.out).mono ?_); rintro e w' ⟨rfl, ⟨nd, rfl⟩⟩; (try first | exact ⟨rfl, _, World.drewN_drewN _ _ _⟩ | exact ⟨rfl, _, Eq.trans (World.drewN_drewN _ _ _) (congrArg (World.drewN _) (Nat.add_assoc _ _ _))⟩); have p784 : 0 ≤ (x6_3 : Int) := of_x; have q784 : x6_3 < (l0_4.length : Int) := of_x; obtain ⟨ad784, e784, hx784_0⟩ := Kd.at_int HR0_4.out x6_3 p784 q784; obtain rfl : ad782 = ad784 := (by injection e784); replace hx784_0 := cell_x HB hx784_0; replace p784 := eq_true p784; replace q784 := eq_true q784; have p785 : 0 ≤ ((ji39) : Int) := of_x; have q785 : (ji39) < (l0_4.length : Int) := of_x; obtain ⟨ad785, e785, hx785_0⟩ := Kd.at_int HR0_4.out (ji39) p785 q785; obtain rfl : ad782 = ad785 := (by injection e785); replace hx785_0 := cell_x HB hx785_0; replace p785 := eq_true p785; replace q785 := eq_true q785)))
                      go_ret
                      exact ⟨by first | rfl | (simp [errW_none, errW_some] <;> rfl) | (simp only [← hji39]; first | rfl | (simp [errW_none, errW_some] <;> rfl)) | (simp [*, errW_none, errW_some] <;> rfl), by exact below_y HB.out⟩
                     ·
                      rw [if_neg c42] at H
                      have c42b0 : decide ((rd l0_4 x6_3) ≤ (rd l0_4 (ji39))) = false := decide_eq_false c42
                      clear c42
                      have H' := Aside0.mk H
                      clear H
                      obtain ⟨_, _, _, _, _⟩ := cz5 BK775
                      have hfz44_0 := blk_frozen BK775.out
                      have p782 : 0 ≤ (x6_3 : Int) := of_x
                      have q782 : x6_3 < (l0_4.length : Int) := of_x
                      obtain ⟨ad782, e782, hx782_0⟩ := Kd.at_int HR0_4.out x6_3 p782 q782
                      cases e782
                      replace hx782_0 := cell_x HB hx782_0
                      replace p782 := eq_true p782
                      replace q782 := eq_true q782
                      go_wp2_with (first | (go_at_call 54; (with_reducible refine (swarfref04_from.calls (rd l0_4 x6_3) 0 8 true _ A36.out).mono ?_); rintro e w' ⟨rfl, ⟨nd, rfl⟩⟩; (try first | exact ⟨rfl, _, World.drewN_drewN _ _ _⟩ | exact ⟨rfl, _, Eq.trans (World.drewN_drewN _ _ _) (congrArg (World.drewN _) (Nat.add_assoc _ _ _))⟩); have p784 : 0 ≤ (x6_3 : Int) := of_x; have q784 : x6_3 < (l0_4.length : Int) := of_x; obtain ⟨ad784, e784, hx784_0⟩ := Kd.at_int HR0_4.out x6_3 p784 q784; obtain rfl : ad782 = ad784 := (by injection e784); replace hx784_0 := cell_x HB hx784_0; replace p784 := eq_true p784; replace q784 := eq_true q784; have p785 : 0 ≤ ((ji39) : Int) := of_x; have q785 : (ji39) < (l0_4.length : Int) := of_x; obtain ⟨ad785, e785, hx785_0⟩ := Kd.at_int HR0_4.out (ji39) p785 q785; obtain rfl : ad782 = ad785 := (by injection e785); replace hx785_0 := cell_x HB hx785_0; replace p785 := eq_true p785; replace q785 := eq_true q785))
                      repeat (go_quiet (first | (go_at_call 54; (with_reducible refine (swarfref04_from.calls (rd l0_4 x6_3) 0 8 true _ A36.out).mono ?_); rintro e w' ⟨rfl, ⟨nd, rfl⟩⟩; (try first | exact ⟨rfl, _, World.drewN_drewN _ _ _⟩ | exact ⟨rfl, _, Eq.trans (World.drewN_drewN _ _ _) (congrArg (World.drewN _) (Nat.add_assoc _ _ _))⟩); have p784 : 0 ≤ (x6_3 : Int) := of_x; have q784 : x6_3 < (l0_4.length : Int) := of_x; obtain ⟨ad784, e784, hx784_0⟩ := Kd.at_int HR0_4.out x6_3 p784 q784; obtain rfl : ad782 = ad784 := (by injection e784); replace hx784_0 := cell_x HB hx784_0; replace p784 := eq_true p784; replace q784 := eq_true q784; have p785 : 0 ≤ ((ji39) : Int) := of_x; have q785 : (ji39) < (l0_4.length : Int) := of_x; obtain ⟨ad785, e785, hx785_0⟩ := Kd.at_int HR0_4.out (ji39) p785 q785; obtain rfl : ad782 = ad785 := (by injection e785); replace hx785_0 := cell_x HB hx785_0; replace p785 := eq_true p785; replace q785 := eq_true q785)); try go_wp2_with (first | (go_at_call 54; (with_reducible refine (swarfref04_from.calls (rd l0_4 x6_3) 0 8 true _ A36.out).mono ?_); rintro e w' ⟨rfl, ⟨nd, rfl⟩⟩; (try first | exact ⟨rfl, _, World.drewN_drewN _ _ _⟩ | exact ⟨rfl, _, Eq.trans (World.drewN_drewN _ _ _) (congrArg (World.drewN _) (Nat.add_assoc _ _ _))⟩); have p784 : 0 ≤ (x6_3 : Int) := of_x; have q784 : x6_3 < (l0_4.length : Int) := of_x; obtain ⟨ad784, e784, hx784_0⟩ := Kd.at_int HR0_4.out x6_3 p784 q784; obtain rfl : ad782 = ad784 := (by injection e784); replace hx784_0 := cell_x HB hx784_0; replace p784 := eq_true p784; replace q784 := eq_true q784; have p785 : 0 ≤ ((ji39) : Int) := of_x; have q785 : (ji39) < (l0_4.length : Int) := of_x; obtain ⟨ad785, e785, hx785_0⟩ := Kd.at_int HR0_4.out (ji39) p785 q785; obtain rfl : ad782 = ad785 := (by injection e785); replace hx785_0 := cell_x HB hx785_0; replace p785 := eq_true p785; replace q785 := eq_true q785)))
                      go_roundg k3
                      case measure => have := HK1.out; have := HK2.out; have := HK3.out; omega
                      case rel => exact ⟨(wrap64 (x6_3 + 1)), (by first | rfl | (simp; done) | (simp [*]; done)), H', ⟨by have := HK1.out; have := HK2.out; have := HK3.out; omega⟩, ⟨blk_x BK775.out⟩, ⟨by exact below_y HB.out⟩⟩
                    ·
                     rw [if_neg c41] at H
                     exact absurd H (by simp)
                   ·
                    rw [if_neg c40] at H
                    exact absurd H (by simp)
                  ·
                   rw [if_neg c38] at H
                   have c38b0 : decide (0 < x6_3) = false := decide_eq_false c38
                   clear c38
                   have H' := Aside0.mk H
                   clear H
                   obtain ⟨_, _, _, _, _⟩ := cz5 BK775
                   have hfz45_0 := blk_frozen BK775.out
                   have p782 : 0 ≤ (x6_3 : Int) := of_x
                   have q782 : x6_3 < (l0_4.length : Int) := of_x
                   obtain ⟨ad782, e782, hx782_0⟩ := Kd.at_int HR0_4.out x6_3 p782 q782
                   cases e782
                   replace hx782_0 := cell_x HB hx782_0
                   replace p782 := eq_true p782
                   replace q782 := eq_true q782
                   go_wp2_with (first | (go_at_call 54; (with_reducible refine (swarfref04_from.calls (rd l0_4 x6_3) 0 8 true _ A36.out).mono ?_); rintro e w' ⟨rfl, ⟨nd, rfl⟩⟩; (try first | exact ⟨rfl, _, World.drewN_drewN _ _ _⟩ | exact ⟨rfl, _, Eq.trans (World.drewN_drewN _ _ _) (congrArg (World.drewN _) (Nat.add_assoc _ _ _))⟩)))
                   repeat (go_quiet (first | (go_at_call 54; (with_reducible refine (swarfref04_from.calls (rd l0_4 x6_3) 0 8 true _ A36.out).mono ?_); rintro e w' ⟨rfl, ⟨nd, rfl⟩⟩; (try first | exact ⟨rfl, _, World.drewN_drewN _ _ _⟩ | exact ⟨rfl, _, Eq.trans (World.drewN_drewN _ _ _) (congrArg (World.drewN _) (Nat.add_assoc _ _ _))⟩))); try go_wp2_with (first | (go_at_call 54; (with_reducible refine (swarfref04_from.calls (rd l0_4 x6_3) 0 8 true _ A36.out).mono ?_); rintro e w' ⟨rfl, ⟨nd, rfl⟩⟩; (try first | exact ⟨rfl, _, World.drewN_drewN _ _ _⟩ | exact ⟨rfl, _, Eq.trans (World.drewN_drewN _ _ _) (congrArg (World.drewN _) (Nat.add_assoc _ _ _))⟩))))
                   go_roundg k3
                   case measure => have := HK1.out; have := HK2.out; have := HK3.out; omega
                   case rel => exact ⟨(wrap64 (x6_3 + 1)), (by first | rfl | (simp; done) | (simp [*]; done)), H', ⟨by have := HK1.out; have := HK2.out; have := HK3.out; omega⟩, ⟨blk_x BK775.out⟩, ⟨by exact below_y HB.out⟩⟩
                 ·
                  replace c37 := Bool.eq_false_iff.mpr c37
                  subst c37
                  have H1 : (some 1) = some r := by rw [if_neg (show ¬ (false = true) by decide)] at H; exact H
                  clear H
                  have H := H1
                  clear H1
                  obtain rfl := Option.some.inj H
                  obtain ⟨_, _, _, _, _⟩ := cz5 BK775
                  have hfz46_0 := blk_frozen BK775.out
                  have p782 : 0 ≤ (x6_3 : Int) := of_x
                  have q782 : x6_3 < (l0_4.length : Int) := of_x
                  obtain ⟨ad782, e782, hx782_0⟩ := Kd.at_int HR0_4.out x6_3 p782 q782
                  cases e782
                  replace hx782_0 := cell_x HB hx782_0
                  replace p782 := eq_true p782
                  replace q782 := eq_true q782
                  go_wp2_with (first | (go_at_call 54; (with_reducible refine (swarfref04_from.calls (rd l0_4 x6_3) 0 8 false _ A36.out).mono ?_); rintro e w' ⟨rfl, ⟨nd, rfl⟩⟩; (try first | exact ⟨rfl, _, World.drewN_drewN _ _ _⟩ | exact ⟨rfl, _, Eq.trans (World.drewN_drewN _ _ _) (congrArg (World.drewN _) (Nat.add_assoc _ _ _))⟩)))
                  repeat (go_quiet (first | (go_at_call 54; (with_reducible refine (swarfref04_from.calls (rd l0_4 x6_3) 0 8 false _ A36.out).mono ?_); rintro e w' ⟨rfl, ⟨nd, rfl⟩⟩; (try first | exact ⟨rfl, _, World.drewN_drewN _ _ _⟩ | exact ⟨rfl, _, Eq.trans (World.drewN_drewN _ _ _) (congrArg (World.drewN _) (Nat.add_assoc _ _ _))⟩))); try go_wp2_with (first | (go_at_call 54; (with_reducible refine (swarfref04_from.calls (rd l0_4 x6_3) 0 8 false _ A36.out).mono ?_); rintro e w' ⟨rfl, ⟨nd, rfl⟩⟩; (try first | exact ⟨rfl, _, World.drewN_drewN _ _ _⟩ | exact ⟨rfl, _, Eq.trans (World.drewN_drewN _ _ _) (congrArg (World.drewN _) (Nat.add_assoc _ _ _))⟩))))
                  go_ret
                  exact ⟨by first | rfl | (simp [errW_none, errW_some] <;> rfl) | (simp [*, errW_none, errW_some] <;> rfl), by exact below_y HB.out⟩
                ·
                 rw [if_neg c35] at H
                 exact absurd H (by simp)
               ·
                rw [if_neg c34] at H
                have c34b0 : decide (x6_3 < (l0_4.length : Int)) = false := decide_eq_false c34
                clear c34
                obtain rfl := Option.some.inj H
                obtain ⟨_, _, _, _, _⟩ := cz5 BK775
                have hfz47_0 := blk_frozen BK775.out
                go_wp2
                repeat (go_quiet (fail); try go_wp2)
                go_ret
                exact ⟨by first | rfl | (simp [errW_none, errW_some] <;> rfl) | (simp [*, errW_none, errW_some] <;> rfl), by exact below_y HB.out⟩
           ·
            replace c30 := Bool.eq_false_iff.mpr c30
            subst c30
            have H1 : (some 1) = some r := by rw [if_neg (show ¬ (false = true) by decide)] at H; exact H
            clear H
            have H := H1
            clear H1
            obtain rfl := Option.some.inj H
            obtain ⟨_, _, _, _, _⟩ := cz5 BK775
            have hfz48_0 := blk_frozen BK775.out
            go_wp2_with (first | (go_at_call 54; (with_reducible refine (swarfref04_from.calls a0_3 0 12 false _ A29.out).mono ?_); rintro e w' ⟨rfl, ⟨nd, rfl⟩⟩; (try first | exact ⟨rfl, _, World.drewN_drewN _ _ _⟩ | exact ⟨rfl, _, Eq.trans (World.drewN_drewN _ _ _) (congrArg (World.drewN _) (Nat.add_assoc _ _ _))⟩)))
            repeat (go_quiet (first | (go_at_call 54; (with_reducible refine (swarfref04_from.calls a0_3 0 12 false _ A29.out).mono ?_); rintro e w' ⟨rfl, ⟨nd, rfl⟩⟩; (try first | exact ⟨rfl, _, World.drewN_drewN _ _ _⟩ | exact ⟨rfl, _, Eq.trans (World.drewN_drewN _ _ _) (congrArg (World.drewN _) (Nat.add_assoc _ _ _))⟩))); try go_wp2_with (first | (go_at_call 54; (with_reducible refine (swarfref04_from.calls a0_3 0 12 false _ A29.out).mono ?_); rintro e w' ⟨rfl, ⟨nd, rfl⟩⟩; (try first | exact ⟨rfl, _, World.drewN_drewN _ _ _⟩ | exact ⟨rfl, _, Eq.trans (World.drewN_drewN _ _ _) (congrArg (World.drewN _) (Nat.add_assoc _ _ _))⟩))))
            go_ret
            exact ⟨by first | rfl | (simp [errW_none, errW_some] <;> rfl) | (simp [*, errW_none, errW_some] <;> rfl), by exact below_y HB.out⟩
      ·
       replace c19 := Bool.eq_false_iff.mpr c19
       subst c19
       have H1 : (some 1) = some r := by rw [if_neg (show ¬ (false = true) by decide)] at H; exact H
       clear H
       have H := H1
       clear H1
       obtain rfl := Option.some.inj H
       obtain ⟨_, _, _, _, _⟩ := cz5 BK775
       have hfz49_0 := blk_frozen BK775.out
       go_wp2_with (first | (go_at_call 54; (with_reducible refine (swarfref04_from.calls a0_1 0 1000 false _ A18.out).mono ?_); rintro e w' ⟨rfl, ⟨nd, rfl⟩⟩; (try first | exact ⟨rfl, _, World.drewN_drewN _ _ _⟩ | exact ⟨rfl, _, Eq.trans (World.drewN_drewN _ _ _) (congrArg (World.drewN _) (Nat.add_assoc _ _ _))⟩)))
       repeat (go_quiet (first | (go_at_call 54; (with_reducible refine (swarfref04_from.calls a0_1 0 1000 false _ A18.out).mono ?_); rintro e w' ⟨rfl, ⟨nd, rfl⟩⟩; (try first | exact ⟨rfl, _, World.drewN_drewN _ _ _⟩ | exact ⟨rfl, _, Eq.trans (World.drewN_drewN _ _ _) (congrArg (World.drewN _) (Nat.add_assoc _ _ _))⟩))); try go_wp2_with (first | (go_at_call 54; (with_reducible refine (swarfref04_from.calls a0_1 0 1000 false _ A18.out).mono ?_); rintro e w' ⟨rfl, ⟨nd, rfl⟩⟩; (try first | exact ⟨rfl, _, World.drewN_drewN _ _ _⟩ | exact ⟨rfl, _, Eq.trans (World.drewN_drewN _ _ _) (congrArg (World.drewN _) (Nat.add_assoc _ _ _))⟩))))
       go_ret
       exact ⟨by first | rfl | (simp [errW_none, errW_some] <;> rfl) | (simp [*, errW_none, errW_some] <;> rfl), by exact below_y HB.out⟩
def swarfref04_IsClean.l0 : Nat → List Bool → Int → List (S50) → Int → List (S61) → Int → List Int → Option (Bool)
 | 0, _, _, _, _, _, _, _ => none
 | k + 1, x1, x5, x271000, x271001, x271002, x271003, x271004 => if x5 < (x1.length : Int) then (if 0 ≤ x5 then (if x5 < (x271000.length : Int) then (if (rd_T50 x271000 x5).f1 = true then (if rdOf false x1 x5 = true then (swarfref04_IsClean.l0 k x1 (wrap64 (x5 + 1)) x271000 x271001 x271002 x271003 x271004) else (some false)) else (swarfref04_IsClean.l0 k x1 (wrap64 (x5 + 1)) x271000 x271001 x271002 x271003 x271004)) else (none)) else (none)) else (some true)
def swarfref04_IsClean.f (k : Nat) (l0_0 : List (S50)) (a0_1 : Int) (l0_2 : List (S61)) (a0_3 : Int) (l0_4 : List Int) (l1 : List Bool) : Option (Bool) := swarfref04_IsClean.l0 k l1 0 l0_0 a0_1 l0_2 a0_3 l0_4
set_option maxHeartbeats 8000000 in
set_option maxRecDepth 100000 in
theorem swarfref04_IsClean.calls (k : Nat) (A0_0 : Option Addr) (c0_0 : Nat) (l0_0 : List (S50)) (a0_1 : Int) (A0_2 : Option Addr) (c0_2 : Nat) (l0_2 : List (S61)) (a0_3 : Int) (A0_4 : Option Addr) (c0_4 : Nat) (l0_4 : List Int) (A1 : Option Addr) (c1 : Nat) (l1 : List Bool) (r : Bool) (w : World) (hr0_0 : Kd.C k50 w A0_0 l0_0.length l0_0) (hc0_0 : l0_0.length ≤ c0_0) (hr0_2 : Kd.C k61 w A0_2 l0_2.length l0_2) (hc0_2 : l0_2.length ≤ c0_2) (hr0_4 : Kd.C (Kd.int .i64) w A0_4 l0_4.length l0_4) (hc0_4 : l0_4.length ≤ c0_4) (hr1 : Kd.C Kd.bool w A1 l1.length l1) (hc1 : l1.length ≤ c1) (h : swarfref04_IsClean.f k l0_0 a0_1 l0_2 a0_3 l0_4 l1 = some r) :
  Calls Try.prog 29 #[.agg #[.slice A0_0 l0_0.length c0_0, .int .i64 a0_1, .slice A0_2 l0_2.length c0_2, .int .i64 a0_3, .slice A0_4 l0_4.length c0_4], .slice A1 l1.length c1] w fun e w' => e = .returned (.bool r) ∧ Below w.heap.size w w' := by
 have hu26 := Try.underlying26
 have HR0_0 := Aside0.mk hr0_0
 have HC0_0 := Aside0.mk hc0_0
 clear hr0_0 hc0_0
 have HR0_2 := Aside0.mk hr0_2
 have HC0_2 := Aside0.mk hc0_2
 clear hr0_2 hc0_2
 have HR0_4 := Aside0.mk hr0_4
 have HC0_4 := Aside0.mk hc0_4
 clear hr0_4 hc0_4
 have HR1 := Aside0.mk hr1
 have HC1 := Aside0.mk hc1
 clear hr1 hc1
 have HB := Aside0.mk (Below.refl w.heap.size w)
 have H : (swarfref04_IsClean.l0 k l1 0 l0_0 a0_1 l0_2 a0_3 l0_4) = some r := h
 clear h
 have H' := Aside0.mk H
 clear H
 go_enter Try.func29, Try.ntmps29
 go_wp2_with (first | ((with_reducible refine gate_dst (N := 2) rfl ?_); refine box_event ?hg (N := 2) ?hd (cs := #[.slice A0_0 l0_0.length c0_0, .int .i64 a0_1, .slice A0_2 l0_2.length c0_2, .int .i64 a0_3, .slice A0_4 l0_4.length c0_4]) (t := 26) ?hr ?_; (case hd => rfl); (case hg => rfl); (case hr => first | (go_simp; done) | (go_simp; rfl)); intro gb270 hg w3 hbox hb; have BK270 := Aside0.mk (hbox); have GW270 := Aside0.mk ((by rw [hg]; exact (below_size (below_x HB.out)) : w.heap.size ≤ gb270)); have GE270 := Aside0.mk ((by rw [hg]; exact (below_size (below_x HB.out)) : w.heap.size ≤ gb270)); replace HB := Aside0.mk (below_step (below_x HB.out) hb); clear hb hbox hg))
 go_loopg [5] k (fun kq v5 w' => ∃ (x5_1 : Int), v5 = .int .i64 x5_1 ∧ Aside0 (swarfref04_IsClean.l0 kq l1 x5_1 l0_0 a0_1 l0_2 a0_3 l0_4 = some r) ∧ Aside0 (kq ≤ k) ∧ Aside0 (w'.heap[gb270]? = some (.cells #[(.slice A0_0 l0_0.length c0_0), .int .i64 a0_1, (.slice A0_2 l0_2.length c0_2), .int .i64 a0_3, (.slice A0_4 l0_4.length c0_4)] 26 (0, 0))) ∧ Aside0 (Below w.heap.size w w'))
 case atStart => exact ⟨(0), (by first | rfl | (simp; done) | (simp [*]; done)), H', ⟨Nat.le_refl _⟩, ⟨blk_x BK270.out⟩, ⟨by exact below_y HB.out⟩⟩
 case round =>
  clear H'
  obtain ⟨x5_1, rfl, HA, HK1, BK270, HB⟩ := hrel
  cases gk with
  | zero => exact absurd HA.out (by simp [swarfref04_IsClean.l0])
  | succ k1 =>
   have H := HA.out
   clear HA
   simp only [swarfref04_IsClean.l0] at H
   by_cases c4 : x5_1 < (l1.length : Int)
   ·
    rw [if_pos c4] at H
    have c4b0 : decide (x5_1 < (l1.length : Int)) = true := decide_eq_true c4
    clear c4
    by_cases c5 : 0 ≤ x5_1
    ·
     rw [if_pos c5] at H
     have c5b0 : decide (0 ≤ x5_1) = true := decide_eq_true c5
     clear c5
     by_cases c6 : x5_1 < (l0_0.length : Int)
     ·
      rw [if_pos c6] at H
      have c6b0 : decide (x5_1 < (l0_0.length : Int)) = true := decide_eq_true c6
      clear c6
      obtain ⟨bq7, hbq7⟩ : ∃ b_ : Bool, b_ = ((rd_T50 l0_0 x5_1).f1) := ⟨_, rfl⟩
      replace H : (if bq7 = true then (if rdOf false l1 x5_1 = true then (swarfref04_IsClean.l0 k1 l1 (wrap64 (x5_1 + 1)) l0_0 a0_1 l0_2 a0_3 l0_4) else (some false)) else (swarfref04_IsClean.l0 k1 l1 (wrap64 (x5_1 + 1)) l0_0 a0_1 l0_2 a0_3 l0_4)) = some r := by rw [← hbq7] at H; exact H
      have Nbq7 := Aside0.mk hbq7
      clear hbq7
      by_cases c8 : bq7 = true
      ·
       subst c8
       have H1 : (if rdOf false l1 x5_1 = true then (swarfref04_IsClean.l0 k1 l1 (wrap64 (x5_1 + 1)) l0_0 a0_1 l0_2 a0_3 l0_4) else (some false)) = some r := by rw [if_pos rfl] at H; exact H
       clear H
       have H := H1
       clear H1
       obtain ⟨bq9, hbq9⟩ : ∃ b_ : Bool, b_ = (rdOf false l1 x5_1) := ⟨_, rfl⟩
       replace H : (if bq9 = true then (swarfref04_IsClean.l0 k1 l1 (wrap64 (x5_1 + 1)) l0_0 a0_1 l0_2 a0_3 l0_4) else (some false)) = some r := by rw [← hbq9] at H; exact H
       have Nbq9 := Aside0.mk hbq9
       clear hbq9
       by_cases c10 : bq9 = true
       ·
        subst c10
        have H1 : (swarfref04_IsClean.l0 k1 l1 (wrap64 (x5_1 + 1)) l0_0 a0_1 l0_2 a0_3 l0_4) = some r := by rw [if_pos rfl] at H; exact H
        clear H
        have H := H1
        clear H1
        have H' := Aside0.mk H
        clear H
        obtain ⟨_, _, _, _, _⟩ := cz5 BK270
        have hfz11_0 := blk_frozen BK270.out
        have p271 : 0 ≤ (x5_1 : Int) := of_x
        have q271 : x5_1 < (l0_0.length : Int) := of_x
        obtain ⟨ad271, A271_0, c271_0, e271, hx271_0, hx271_1, hx271_2, hx271_3, hl271_0, hi271_0⟩ := at_T50 HR0_0.out x5_1 p271 q271
        (try rw [← Nbq7.out] at hx271_1)
        (try rw [← Nbq9.out] at hx271_1)
        cases e271
        replace hx271_0 := cell_x HB hx271_0
        replace hx271_1 := cell_x HB hx271_1
        replace hx271_2 := cell_x HB hx271_2
        replace hx271_3 := cell_x HB hx271_3
        have HR271_0 := Aside0.mk hi271_0
        have HC271_0 := Aside0.mk hl271_0
        clear hi271_0 hl271_0
        replace p271 := eq_true p271
        replace q271 := eq_true q271
        have p272 : 0 ≤ (x5_1 : Int) := of_x
        have q272 : x5_1 < (l1.length : Int) := of_x
        obtain ⟨ad272, e272, hx272_0⟩ := Kd.at_bool HR1.out x5_1 p272 q272
        (try rw [← Nbq7.out] at hx272_0)
        (try rw [← Nbq9.out] at hx272_0)
        cases e272
        replace hx272_0 := cell_x HB hx272_0
        replace p272 := eq_true p272
        replace q272 := eq_true q272
        go_wp2
        go_roundg k1
        case measure => have := HK1.out; omega
        case rel => exact ⟨(wrap64 (x5_1 + 1)), (by first | rfl | (simp; done) | (simp [*]; done)), H', ⟨by have := HK1.out; omega⟩, ⟨blk_x BK270.out⟩, ⟨by exact below_y HB.out⟩⟩
       ·
        replace c10 := Bool.eq_false_iff.mpr c10
        subst c10
        have H1 : (some false) = some r := by rw [if_neg (show ¬ (false = true) by decide)] at H; exact H
        clear H
        have H := H1
        clear H1
        obtain rfl := Option.some.inj H
        obtain ⟨_, _, _, _, _⟩ := cz5 BK270
        have hfz12_0 := blk_frozen BK270.out
        have p271 : 0 ≤ (x5_1 : Int) := of_x
        have q271 : x5_1 < (l0_0.length : Int) := of_x
        obtain ⟨ad271, A271_0, c271_0, e271, hx271_0, hx271_1, hx271_2, hx271_3, hl271_0, hi271_0⟩ := at_T50 HR0_0.out x5_1 p271 q271
        (try rw [← Nbq7.out] at hx271_1)
        (try rw [← Nbq9.out] at hx271_1)
        cases e271
        replace hx271_0 := cell_x HB hx271_0
        replace hx271_1 := cell_x HB hx271_1
        replace hx271_2 := cell_x HB hx271_2
        replace hx271_3 := cell_x HB hx271_3
        have HR271_0 := Aside0.mk hi271_0
        have HC271_0 := Aside0.mk hl271_0
        clear hi271_0 hl271_0
        replace p271 := eq_true p271
        replace q271 := eq_true q271
        have p272 : 0 ≤ (x5_1 : Int) := of_x
        have q272 : x5_1 < (l1.length : Int) := of_x
        obtain ⟨ad272, e272, hx272_0⟩ := Kd.at_bool HR1.out x5_1 p272 q272
        (try rw [← Nbq7.out] at hx272_0)
        (try rw [← Nbq9.out] at hx272_0)
        cases e272
        replace hx272_0 := cell_x HB hx272_0
        replace p272 := eq_true p272
        replace q272 := eq_true q272
        go_wp2
        go_ret
        exact ⟨by first | rfl | (simp [errW_none, errW_some] <;> rfl) | (simp [*, errW_none, errW_some] <;> rfl), by exact below_y HB.out⟩
      ·
       replace c8 := Bool.eq_false_iff.mpr c8
       subst c8
       have H1 : (swarfref04_IsClean.l0 k1 l1 (wrap64 (x5_1 + 1)) l0_0 a0_1 l0_2 a0_3 l0_4) = some r := by rw [if_neg (show ¬ (false = true) by decide)] at H; exact H
       clear H
       have H := H1
       clear H1
       have H' := Aside0.mk H
       clear H
       obtain ⟨_, _, _, _, _⟩ := cz5 BK270
       have hfz13_0 := blk_frozen BK270.out
       have p271 : 0 ≤ (x5_1 : Int) := of_x
       have q271 : x5_1 < (l0_0.length : Int) := of_x
       obtain ⟨ad271, A271_0, c271_0, e271, hx271_0, hx271_1, hx271_2, hx271_3, hl271_0, hi271_0⟩ := at_T50 HR0_0.out x5_1 p271 q271
       (try rw [← Nbq7.out] at hx271_1)
       cases e271
       replace hx271_0 := cell_x HB hx271_0
       replace hx271_1 := cell_x HB hx271_1
       replace hx271_2 := cell_x HB hx271_2
       replace hx271_3 := cell_x HB hx271_3
       have HR271_0 := Aside0.mk hi271_0
       have HC271_0 := Aside0.mk hl271_0
       clear hi271_0 hl271_0
       replace p271 := eq_true p271
       replace q271 := eq_true q271
       go_wp2
       go_roundg k1
       case measure => have := HK1.out; omega
       case rel => exact ⟨(wrap64 (x5_1 + 1)), (by first | rfl | (simp; done) | (simp [*]; done)), H', ⟨by have := HK1.out; omega⟩, ⟨blk_x BK270.out⟩, ⟨by exact below_y HB.out⟩⟩
     ·
      rw [if_neg c6] at H
      exact absurd H (by simp)
    ·
     rw [if_neg c5] at H
     exact absurd H (by simp)
   ·
    rw [if_neg c4] at H
    have c4b0 : decide (x5_1 < (l1.length : Int)) = false := decide_eq_false c4
    clear c4
    obtain rfl := Option.some.inj H
    go_wp2
    go_ret
    exact ⟨by first | rfl | (simp [errW_none, errW_some] <;> rfl) | (simp [*, errW_none, errW_some] <;> rfl), by exact below_y HB.out⟩
mutual
def swarfref04_States.l0 : Nat → List (List Bool) → Int → List (S50) → Int → List (S61) → Int → List Int → Option ((List (List Bool)))
 | 0, _, _, _, _, _, _, _ => none
 | k + 1, x3, x4, x607000, x607001, x607002, x607003, x607004 => if x4 < (x607000.length : Int) then (swarfref04_States.l1 k x3 x4 ([] : List (List Bool)) 0 x607000 x607001 x607002 x607003 x607004) else (some x3)
def swarfref04_States.l1 : Nat → List (List Bool) → Int → List (List Bool) → Int → List (S50) → Int → List (S61) → Int → List Int → Option ((List (List Bool)))
 | 0, _, _, _, _, _, _, _, _, _ => none
 | k + 1, x3, x4, x5, x6, x607000, x607001, x607002, x607003, x607004 => if x6 < (x3.length : Int) then (swarfref04_States.l2 k x3 x4 x5 x6 true 0 x607000 x607001 x607002 x607003 x607004) else (swarfref04_States.l0 k x5 (wrap64 (x4 + 1)) x607000 x607001 x607002 x607003 x607004)
def swarfref04_States.l2 : Nat → List (List Bool) → Int → List (List Bool) → Int → Bool → Int → List (S50) → Int → List (S61) → Int → List Int → Option ((List (List Bool)))
 | 0, _, _, _, _, _, _, _, _, _, _, _ => none
 | k + 1, x3, x4, x5, x6, x7, x8, x607000, x607001, x607002, x607003, x607004 => if 0 ≤ x4 then (if x4 < (x607000.length : Int) then (if x8 < (((rd_T50 x607000 x4).f0).length : Int) then (if x7 = true then (if 0 ≤ x6 then (if x6 < (x3.length : Int) then (if 0 ≤ x8 then (if 0 ≤ (rd ((rd_T50 x607000 x4).f0) x8) then (if (rd ((rd_T50 x607000 x4).f0) x8) < ((rd_L5 x3 x6).length : Int) then (swarfref04_States.l2 k x3 x4 x5 x6 (rdOf false (rd_L5 x3 x6) (rd ((rd_T50 x607000 x4).f0) x8)) (wrap64 (x8 + 1)) x607000 x607001 x607002 x607003 x607004) else (none)) else (none)) else (none)) else (none)) else (none)) else (swarfref04_States.l2 k x3 x4 x5 x6 false (wrap64 (x8 + 1)) x607000 x607001 x607002 x607003 x607004)) else ((some (([] : List Bool) : List Bool)).bind fun y615 => (if 0 ≤ x6 then (if x6 < (x3.length : Int) then (if y615.length + (rd_L5 x3 x6).length < 140737488355328 then ((some (y615 ++ (rd_L5 x3 x6) : List Bool)).bind fun y619 => (if y619.length < 140737488355328 then (if x5.length < 5864062014805 then ((some (x5 ++ [(y619 ++ [false])] : List (List Bool))).bind fun y625 => (if x7 = true then ((some (([] : List Bool) : List Bool)).bind fun y628 => (if y628.length + (rd_L5 x3 x6).length < 140737488355328 then ((some (y628 ++ (rd_L5 x3 x6) : List Bool)).bind fun y632 => (if y632.length < 140737488355328 then (if y625.length < 5864062014805 then (swarfref04_States.l1 k x3 x4 (y625 ++ [(y632 ++ [true])]) (wrap64 (x6 + 1)) x607000 x607001 x607002 x607003 x607004) else (none)) else (none))) else (none))) else (swarfref04_States.l1 k x3 x4 y625 (wrap64 (x6 + 1)) x607000 x607001 x607002 x607003 x607004))) else (none)) else (none))) else (none)) else (none)) else (none)))) else (none)) else (none)
end
def swarfref04_States.f (k : Nat) (l0_0 : List (S50)) (a0_1 : Int) (l0_2 : List (S61)) (a0_3 : Int) (l0_4 : List Int) : Option ((List (List Bool))) := swarfref04_States.l0 k (([[]] : List (List Bool))) 0 l0_0 a0_1 l0_2 a0_3 l0_4
set_option maxHeartbeats 8000000 in
set_option maxRecDepth 100000 in
theorem swarfref04_States.calls (k : Nat) (A0_0 : Option Addr) (c0_0 : Nat) (l0_0 : List (S50)) (a0_1 : Int) (A0_2 : Option Addr) (c0_2 : Nat) (l0_2 : List (S61)) (a0_3 : Int) (A0_4 : Option Addr) (c0_4 : Nat) (l0_4 : List Int) (r : List (List Bool)) (w : World) (hr0_0 : Kd.C k50 w A0_0 l0_0.length l0_0) (hc0_0 : l0_0.length ≤ c0_0) (hr0_2 : Kd.C k61 w A0_2 l0_2.length l0_2) (hc0_2 : l0_2.length ≤ c0_2) (hr0_4 : Kd.C (Kd.int .i64) w A0_4 l0_4.length l0_4) (hc0_4 : l0_4.length ≤ c0_4) (h : swarfref04_States.f k l0_0 a0_1 l0_2 a0_3 l0_4 = some r) :
  Calls Try.prog 71 #[.agg #[.slice A0_0 l0_0.length c0_0, .int .i64 a0_1, .slice A0_2 l0_2.length c0_2, .int .i64 a0_3, .slice A0_4 l0_4.length c0_4]] w fun e w' => ∃ v0_ : Value, e = .returned (v0_) ∧ Kd.S (Kd.slice 4 Kd.bool) 31 w' w.heap.size (fun _ => True) v0_ r ∧ Below w.heap.size w w' := by
 have hu26 := Try.underlying26
 have HR0_0 := Aside0.mk hr0_0
 have HC0_0 := Aside0.mk hc0_0
 clear hr0_0 hc0_0
 have HR0_2 := Aside0.mk hr0_2
 have HC0_2 := Aside0.mk hc0_2
 clear hr0_2 hc0_2
 have HR0_4 := Aside0.mk hr0_4
 have HC0_4 := Aside0.mk hc0_4
 clear hr0_4 hc0_4
 have HB := Aside0.mk (Below.refl w.heap.size w)
 have H : (swarfref04_States.l0 k (([[]] : List (List Bool))) 0 l0_0 a0_1 l0_2 a0_3 l0_4) = some r := h
 clear h
 obtain ⟨y607, hy607⟩ : ∃ y_ : List (List Bool), y_ = (([[]] : List (List Bool))) := ⟨_, rfl⟩
 replace H : (swarfref04_States.l0 k y607 0 l0_0 a0_1 l0_2 a0_3 l0_4) = some r := by first | (rw [hy607]; with_reducible exact H) | (have H2_ := (Option.bind_some _ _).symm.trans H; rw [hy607]; with_reducible exact H2_) | (have H2_ := (Option.bind_some _ _).symm.trans H; with_reducible exact H2_) | with_reducible exact H | (rw [hy607]; exact H) | exact H
 have Ny607 := Aside0.mk hy607
 clear hy607
 have H' := Aside0.mk H
 clear H
 go_enter Try.func71, Try.ntmps71
 go_wp2_with (first | ((with_reducible refine gate_dst (N := 1) rfl ?_); refine box_event ?hg (N := 1) ?hd (cs := #[.slice A0_0 l0_0.length c0_0, .int .i64 a0_1, .slice A0_2 l0_2.length c0_2, .int .i64 a0_3, .slice A0_4 l0_4.length c0_4]) (t := 26) ?hr ?_; (case hd => rfl); (case hg => rfl); (case hr => first | (go_simp; done) | (go_simp; rfl)); intro gb606 hg w2 hbox hb; have BK606 := Aside0.mk (hbox); have GW606 := Aside0.mk ((by rw [hg]; exact (below_size (below_x HB.out)) : w.heap.size ≤ gb606)); have GE606 := Aside0.mk ((by rw [hg]; exact (below_size (below_x HB.out)) : w.heap.size ≤ gb606)); replace HB := Aside0.mk (below_step (below_x HB.out) hb); clear hb hbox hg) | ((with_reducible refine gate_dst (N := 9) rfl ?_); refine Kd.S_lit (Kd.slice 4 Kd.bool) _ 31 ?hg (N := 9) ?hd (xs := ([[]] : List (List Bool))) (inner := [.slice none 0 0]) (ok := fun _ => True) (okp := fun _ => True) ?hr ?hp (fun _ hk => hk) trivial (Below.refl _ _) (Nat.le_refl _) (by simp) ?_; (case hd => rfl); (case hg => rfl); (case hr => first | (go_simp; done) | (go_simp; rfl)); (case hp => exact (Reps.one (show Kd.M (Kd.slice 4 Kd.bool) _ _ _ [] [.slice none 0 0] from ⟨_, rfl, Kd.R_nil _ _ _ _ _⟩) (Reps.none _ _))); intro v608 w3 ho4 hb hg_ hnew_; clear hg_ hnew_; (first | rw [← Ny607.out] at ho4 | (simp only [Int.reduceToNat] at ho4; rw [← Ny607.out] at ho4)); have HO609 := Aside0.mk (Kd.S_lower ho4 (below_size (by exact below_y HB.out))); replace BK606 := Aside0.mk (blk_below (blk_x BK606.out) hb); replace HB := bl_x HB hb; clear hb ho4))
 go_loopg [3, 4] k (fun kq v3 v4 w' => ∃ (x3_1 : List (List Bool)) (x4_1 : Int), v4 = .int .i64 x4_1 ∧ Aside0 (swarfref04_States.l0 kq x3_1 x4_1 l0_0 a0_1 l0_2 a0_3 l0_4 = some r) ∧ Aside0 (kq ≤ k) ∧ Aside0 (Kd.S (Kd.slice 4 Kd.bool) 31 w' w.heap.size (fun _ => True) v3 x3_1) ∧ Aside0 (w'.heap[gb606]? = some (.cells #[(.slice A0_0 l0_0.length c0_0), .int .i64 a0_1, (.slice A0_2 l0_2.length c0_2), .int .i64 a0_3, (.slice A0_4 l0_4.length c0_4)] 26 (0, 0))) ∧ Aside0 (Below w.heap.size w w'))
 case atStart => exact ⟨(y607), (0), (by first | rfl | (simp; done) | (simp [*]; done)), H', ⟨Nat.le_refl _⟩, ⟨by (with_reducible repeat (first | apply Kd.S_alloc | apply Kd.S_drewN | apply Kd.S_drew)); exact HO609.out⟩, ⟨blk_x BK606.out⟩, ⟨by exact below_y HB.out⟩⟩
 case round =>
  clear H'
  obtain ⟨x3_1, x4_1, rfl, HA, HK1, HO_3, BK606, HB⟩ := hrel
  cases gk with
  | zero => exact absurd HA.out (by simp [swarfref04_States.l0])
  | succ k1 =>
   have H := HA.out
   clear HA
   simp only [swarfref04_States.l0] at H
   by_cases c5 : x4_1 < (l0_0.length : Int)
   ·
    rw [if_pos c5] at H
    have c5b0 : decide (x4_1 < (l0_0.length : Int)) = true := decide_eq_true c5
    clear c5
    have H' := Aside0.mk H
    clear H
    obtain ⟨_, _, _, _, _⟩ := cz5 BK606
    have hfz6_0 := blk_frozen BK606.out
    go_wp2
    go_loopg [5, 6] k1 (fun kq v5 v6 w' => ∃ (x5_2 : List (List Bool)) (x6_2 : Int), v6 = .int .i64 x6_2 ∧ Aside0 (swarfref04_States.l1 kq x3_1 x4_1 x5_2 x6_2 l0_0 a0_1 l0_2 a0_3 l0_4 = some r) ∧ Aside0 (kq ≤ k1) ∧ Aside0 (Kd.S (Kd.slice 4 Kd.bool) 31 w' w.heap.size (fun k_ => some k_ ≠ (v5 : Value).ownBlock) u3 x3_1) ∧ Aside0 (Kd.S (Kd.slice 4 Kd.bool) 31 w' w.heap.size (fun k_ => some k_ ≠ (u3 : Value).ownBlock) v5 x5_2) ∧ Aside0 (w'.heap[gb606]? = some (.cells #[(.slice A0_0 l0_0.length c0_0), .int .i64 a0_1, (.slice A0_2 l0_2.length c0_2), .int .i64 a0_3, (.slice A0_4 l0_4.length c0_4)] 26 (0, 0))) ∧ Aside0 (Below w.heap.size w w'))
    case atStart => exact ⟨(([] : List (List Bool))), (0), (by first | rfl | (simp; done) | (simp [*]; done)), H', ⟨Nat.le_refl _⟩, ⟨by (with_reducible repeat (first | apply Kd.S_alloc | apply Kd.S_drewN | apply Kd.S_drew)); exact Kd.S_mono HO_3.out (fun _ hk => (by simp [Value.ownBlock]))⟩, ⟨by first | exact Kd.S_nil _ _ _ _ _ | exact Kd.N_nil _ _ _ _ _ | exact Kd.V_nil _ _ _ _ _ | exact Kd.Q_nil _ _ _ _ _ | exact Kd.R_nil _ _ _ _ _⟩, ⟨blk_x BK606.out⟩, ⟨by exact below_y HB.out⟩⟩
    case round =>
     clear H'
     obtain ⟨x5_2, x6_2, rfl, HA, HK2, HO_3, HO_5, BK606, HB⟩ := hrel
     cases gk with
     | zero => exact absurd HA.out (by simp [swarfref04_States.l1])
     | succ k2 =>
      have H := HA.out
      clear HA
      simp only [swarfref04_States.l1] at H
      by_cases c7 : x6_2 < (x3_1.length : Int)
      ·
       rw [if_pos c7] at H
       have c7b0 : decide (x6_2 < (x3_1.length : Int)) = true := decide_eq_true c7
       clear c7
       have H' := Aside0.mk H
       clear H
       obtain ⟨Ao8, co8, eo8⟩ := Kd.S_slice HO_3.out
       subst eo8
       go_wp2
       go_loopg [7, 8] k2 (fun kq v7 v8 w' => ∃ (x7_3 : Bool) (x8_3 : Int), v7 = .bool x7_3 ∧ v8 = .int .i64 x8_3 ∧ Aside0 (swarfref04_States.l2 kq x3_1 x4_1 x5_2 x6_2 x7_3 x8_3 l0_0 a0_1 l0_2 a0_3 l0_4 = some r) ∧ Aside0 (kq ≤ k2) ∧ Aside0 (Kd.S (Kd.slice 4 Kd.bool) 31 w' w.heap.size (fun k_ => some k_ ≠ (u5 : Value).ownBlock) (.slice Ao8 x3_1.length co8) x3_1) ∧ Aside0 (Kd.S (Kd.slice 4 Kd.bool) 31 w' w.heap.size (fun k_ => some k_ ≠ ((.slice Ao8 x3_1.length co8) : Value).ownBlock) u5 x5_2) ∧ Aside0 (w'.heap[gb606]? = some (.cells #[(.slice A0_0 l0_0.length c0_0), .int .i64 a0_1, (.slice A0_2 l0_2.length c0_2), .int .i64 a0_3, (.slice A0_4 l0_4.length c0_4)] 26 (0, 0))) ∧ Aside0 (Below w.heap.size w w'))
       case atStart => exact ⟨(true), (0), (by first | rfl | (simp; done) | (simp [*]; done)), (by first | rfl | (simp; done) | (simp [*]; done)), H', ⟨Nat.le_refl _⟩, ⟨by (with_reducible repeat (first | apply Kd.S_alloc | apply Kd.S_drewN | apply Kd.S_drew)); exact HO_3.out⟩, ⟨by (with_reducible repeat (first | apply Kd.S_alloc | apply Kd.S_drewN | apply Kd.S_drew)); exact HO_5.out⟩, ⟨blk_x BK606.out⟩, ⟨by exact below_y HB.out⟩⟩
       case round =>
        clear H'
        obtain ⟨x7_3, x8_3, rfl, rfl, HA, HK3, HO_3, HO_5, BK606, HB⟩ := hrel
        cases gk with
        | zero => exact absurd HA.out (by simp [swarfref04_States.l2])
        | succ k3 =>
         have H := HA.out
         clear HA
         simp only [swarfref04_States.l2] at H
         by_cases c9 : 0 ≤ x4_1
         ·
          rw [if_pos c9] at H
          have c9b0 : decide (0 ≤ x4_1) = true := decide_eq_true c9
          clear c9
          by_cases c10 : x4_1 < (l0_0.length : Int)
          ·
           rw [if_pos c10] at H
           have c10b0 : decide (x4_1 < (l0_0.length : Int)) = true := decide_eq_true c10
           clear c10
           by_cases c11 : x8_3 < (((rd_T50 l0_0 x4_1).f0).length : Int)
           ·
            rw [if_pos c11] at H
            have c11b0 : decide (x8_3 < (((rd_T50 l0_0 x4_1).f0).length : Int)) = true := decide_eq_true c11
            clear c11
            by_cases c12 : x7_3 = true
            ·
             subst c12
             have H1 : (if 0 ≤ x6_2 then (if x6_2 < (x3_1.length : Int) then (if 0 ≤ x8_3 then (if 0 ≤ (rd ((rd_T50 l0_0 x4_1).f0) x8_3) then (if (rd ((rd_T50 l0_0 x4_1).f0) x8_3) < ((rd_L5 x3_1 x6_2).length : Int) then (swarfref04_States.l2 k3 x3_1 x4_1 x5_2 x6_2 (rdOf false (rd_L5 x3_1 x6_2) (rd ((rd_T50 l0_0 x4_1).f0) x8_3)) (wrap64 (x8_3 + 1)) l0_0 a0_1 l0_2 a0_3 l0_4) else (none)) else (none)) else (none)) else (none)) else (none)) = some r := by rw [if_pos rfl] at H; exact H
             clear H
             have H := H1
             clear H1
             by_cases c13 : 0 ≤ x6_2
             ·
              rw [if_pos c13] at H
              have c13b0 : decide (0 ≤ x6_2) = true := decide_eq_true c13
              clear c13
              by_cases c14 : x6_2 < (x3_1.length : Int)
              ·
               rw [if_pos c14] at H
               have c14b0 : decide (x6_2 < (x3_1.length : Int)) = true := decide_eq_true c14
               clear c14
               by_cases c15 : 0 ≤ x8_3
               ·
                rw [if_pos c15] at H
                have c15b0 : decide (0 ≤ x8_3) = true := decide_eq_true c15
                clear c15
                by_cases c16 : 0 ≤ (rd ((rd_T50 l0_0 x4_1).f0) x8_3)
                ·
                 rw [if_pos c16] at H
                 have c16b0 : decide (0 ≤ (rd ((rd_T50 l0_0 x4_1).f0) x8_3)) = true := decide_eq_true c16
                 clear c16
                 by_cases c17 : (rd ((rd_T50 l0_0 x4_1).f0) x8_3) < ((rd_L5 x3_1 x6_2).length : Int)
                 ·
                  rw [if_pos c17] at H
                  have c17b0 : decide ((rd ((rd_T50 l0_0 x4_1).f0) x8_3) < ((rd_L5 x3_1 x6_2).length : Int)) = true := decide_eq_true c17
                  clear c17
                  have H' := Aside0.mk H
                  clear H
                  obtain ⟨_, _, _, _, _⟩ := cz5 BK606
                  have hfz18_0 := blk_frozen BK606.out
                  have p610 : 0 ≤ (x4_1 : Int) := of_x
                  have q610 : x4_1 < (l0_0.length : Int) := of_x
                  obtain ⟨ad610, A610_0, c610_0, e610, hx610_0, hx610_1, hx610_2, hx610_3, hl610_0, hi610_0⟩ := at_T50 HR0_0.out x4_1 p610 q610
                  cases e610
                  replace hx610_0 := cell_x HB hx610_0
                  replace hx610_1 := cell_x HB hx610_1
                  replace hx610_2 := cell_x HB hx610_2
                  replace hx610_3 := cell_x HB hx610_3
                  have HR610_0 := Aside0.mk hi610_0
                  have HC610_0 := Aside0.mk hl610_0
                  clear hi610_0 hl610_0
                  replace p610 := eq_true p610
                  replace q610 := eq_true q610
                  have p611 : 0 ≤ (x6_2 : Int) := of_x
                  have q611 : x6_2 < (x3_1.length : Int) := of_x
                  obtain ⟨ad611, A611_0, c611_0, e611, hx611_0, hl611_0, hi611_0⟩ := at_L5 (Kd.S_reads' HO_3.out).2.2 x6_2 p611 q611
                  cases e611
                  obtain ⟨ce611, hce611, hMe611, hcc611⟩ := Kd.S_get HO_3.out [] x6_2 p611 (by first | exact q611 | exact of_x | (have e_ := (Kd.S_reads' HO_3.out).1; omega))
                  obtain ⟨ve611_0, rfl, ge611_0⟩ := hMe611
                  have hv611_0 := hcc611 0 _ rfl
                  rw [Nat.add_zero, show ((Kd.slice 4 Kd.bool)).sz = 1 from rfl, Nat.mul_one] at hv611_0
                  replace hv611_0 := Option.some.inj (hv611_0.symm.trans hx611_0)
                  rw [hv611_0] at ge611_0
                  have HL611_0 := Aside0.mk (show Kd.R Kd.bool 4 _ _ _ _ (rd_L5 x3_1 x6_2) from ge611_0)
                  clear hv611_0 ge611_0 hcc611 hce611
                  have HR611_0 := Aside0.mk hi611_0
                  have HC611_0 := Aside0.mk hl611_0
                  clear hi611_0 hl611_0
                  replace p611 := eq_true p611
                  replace q611 := eq_true q611
                  have p612 : 0 ≤ (x4_1 : Int) := of_x
                  have q612 : x4_1 < (l0_0.length : Int) := of_x
                  obtain ⟨ad612, A612_0, c612_0, e612, hx612_0, hx612_1, hx612_2, hx612_3, hl612_0, hi612_0⟩ := at_T50 HR0_0.out x4_1 p612 q612
                  obtain rfl : ad610 = ad612 := (by injection e612)
                  replace hx612_0 := cell_x HB hx612_0
                  replace hx612_1 := cell_x HB hx612_1
                  replace hx612_2 := cell_x HB hx612_2
                  replace hx612_3 := cell_x HB hx612_3
                  have HR612_0 := Aside0.mk hi612_0
                  have HC612_0 := Aside0.mk hl612_0
                  clear hi612_0 hl612_0
                  replace p612 := eq_true p612
                  replace q612 := eq_true q612
                  have ea_ := Option.some.inj (hx610_0.symm.trans hx612_0)
                  injection ea_ with ea_ en_ ec_
                  subst ea_
                  subst ec_
                  clear en_
                  have p613 : 0 ≤ (x8_3 : Int) := of_x
                  have q613 : x8_3 < (((rd_T50 l0_0 x4_1).f0).length : Int) := of_x
                  obtain ⟨ad613, e613, hx613_0⟩ := Kd.at_int HR612_0.out x8_3 p613 q613
                  cases e613
                  replace hx613_0 := cell_x HB hx613_0
                  replace p613 := eq_true p613
                  replace q613 := eq_true q613
                  have p614 : 0 ≤ ((rd ((rd_T50 l0_0 x4_1).f0) x8_3) : Int) := of_x
                  have q614 : (rd ((rd_T50 l0_0 x4_1).f0) x8_3) < ((rd_L5 x3_1 x6_2).length : Int) := of_x
                  obtain ⟨ad614, e614, hx614_0⟩ := Kd.at_bool (by repeat (first | (with_reducible exact HR611_0.out) | (with_reducible refine Kd.C_alloc ?_ _) | (with_reducible refine Kd.C_drewN ?_ _) | (with_reducible refine Kd.C_drew ?_) | exact HR611_0.out)) (rd ((rd_T50 l0_0 x4_1).f0) x8_3) p614 q614
                  cases e614
                  replace p614 := eq_true p614
                  replace q614 := eq_true q614
                  go_wp2
                  repeat (go_quiet (fail); try go_wp2)
                  go_roundg k3
                  case measure => have := HK1.out; have := HK2.out; have := HK3.out; omega
                  case rel => exact ⟨(rdOf false (rd_L5 x3_1 x6_2) (rd ((rd_T50 l0_0 x4_1).f0) x8_3)), (wrap64 (x8_3 + 1)), (by first | rfl | (simp; done) | (simp [*]; done)), (by first | rfl | (simp; done) | (simp [*]; done)), H', ⟨by have := HK1.out; have := HK2.out; have := HK3.out; omega⟩, ⟨by (with_reducible repeat (first | apply Kd.S_alloc | apply Kd.S_drewN | apply Kd.S_drew)); exact HO_3.out⟩, ⟨by (with_reducible repeat (first | apply Kd.S_alloc | apply Kd.S_drewN | apply Kd.S_drew)); exact HO_5.out⟩, ⟨blk_x BK606.out⟩, ⟨by exact below_y HB.out⟩⟩
                 ·
                  rw [if_neg c17] at H
                  exact absurd H (by simp)
                ·
                 rw [if_neg c16] at H
                 exact absurd H (by simp)
               ·
                rw [if_neg c15] at H
                exact absurd H (by simp)
              ·
               rw [if_neg c14] at H
               exact absurd H (by simp)
             ·
              rw [if_neg c13] at H
              exact absurd H (by simp)
            ·
             replace c12 := Bool.eq_false_iff.mpr c12
             subst c12
             have H1 : (swarfref04_States.l2 k3 x3_1 x4_1 x5_2 x6_2 false (wrap64 (x8_3 + 1)) l0_0 a0_1 l0_2 a0_3 l0_4) = some r := by rw [if_neg (show ¬ (false = true) by decide)] at H; exact H
             clear H
             have H := H1
             clear H1
             have H' := Aside0.mk H
             clear H
             obtain ⟨_, _, _, _, _⟩ := cz5 BK606
             have hfz19_0 := blk_frozen BK606.out
             have p610 : 0 ≤ (x4_1 : Int) := of_x
             have q610 : x4_1 < (l0_0.length : Int) := of_x
             obtain ⟨ad610, A610_0, c610_0, e610, hx610_0, hx610_1, hx610_2, hx610_3, hl610_0, hi610_0⟩ := at_T50 HR0_0.out x4_1 p610 q610
             cases e610
             replace hx610_0 := cell_x HB hx610_0
             replace hx610_1 := cell_x HB hx610_1
             replace hx610_2 := cell_x HB hx610_2
             replace hx610_3 := cell_x HB hx610_3
             have HR610_0 := Aside0.mk hi610_0
             have HC610_0 := Aside0.mk hl610_0
             clear hi610_0 hl610_0
             replace p610 := eq_true p610
             replace q610 := eq_true q610
             go_wp2
             repeat (go_quiet (fail); try go_wp2)
             go_roundg k3
             case measure => have := HK1.out; have := HK2.out; have := HK3.out; omega
             case rel => exact ⟨(false), (wrap64 (x8_3 + 1)), (by first | rfl | (simp; done) | (simp [*]; done)), (by first | rfl | (simp; done) | (simp [*]; done)), H', ⟨by have := HK1.out; have := HK2.out; have := HK3.out; omega⟩, ⟨by (with_reducible repeat (first | apply Kd.S_alloc | apply Kd.S_drewN | apply Kd.S_drew)); exact HO_3.out⟩, ⟨by (with_reducible repeat (first | apply Kd.S_alloc | apply Kd.S_drewN | apply Kd.S_drew)); exact HO_5.out⟩, ⟨blk_x BK606.out⟩, ⟨by exact below_y HB.out⟩⟩
           ·
            rw [if_neg c11] at H
            have c11b0 : decide (x8_3 < (((rd_T50 l0_0 x4_1).f0).length : Int)) = false := decide_eq_false c11
            clear c11
            obtain ⟨y615, hy615⟩ : ∃ y_ : List Bool, y_ = (([] : List Bool)) := ⟨_, rfl⟩
            replace H : (if 0 ≤ x6_2 then (if x6_2 < (x3_1.length : Int) then (if y615.length + (rd_L5 x3_1 x6_2).length < 140737488355328 then ((some (y615 ++ (rd_L5 x3_1 x6_2) : List Bool)).bind fun y619 => (if y619.length < 140737488355328 then (if x5_2.length < 5864062014805 then ((some (x5_2 ++ [(y619 ++ [false])] : List (List Bool))).bind fun y625 => (if x7_3 = true then ((some (([] : List Bool) : List Bool)).bind fun y628 => (if y628.length + (rd_L5 x3_1 x6_2).length < 140737488355328 then ((some (y628 ++ (rd_L5 x3_1 x6_2) : List Bool)).bind fun y632 => (if y632.length < 140737488355328 then (if y625.length < 5864062014805 then (swarfref04_States.l1 k3 x3_1 x4_1 (y625 ++ [(y632 ++ [true])]) (wrap64 (x6_2 + 1)) l0_0 a0_1 l0_2 a0_3 l0_4) else (none)) else (none))) else (none))) else (swarfref04_States.l1 k3 x3_1 x4_1 y625 (wrap64 (x6_2 + 1)) l0_0 a0_1 l0_2 a0_3 l0_4))) else (none)) else (none))) else (none)) else (none)) else (none)) = some r := by first | (rw [hy615]; with_reducible exact H) | (have H2_ := (Option.bind_some _ _).symm.trans H; rw [hy615]; with_reducible exact H2_) | (have H2_ := (Option.bind_some _ _).symm.trans H; with_reducible exact H2_) | with_reducible exact H | (rw [hy615]; exact H) | exact H
            have Ny615 := Aside0.mk hy615
            clear hy615
            by_cases c20 : 0 ≤ x6_2
            ·
             rw [if_pos c20] at H
             have c20b0 : decide (0 ≤ x6_2) = true := decide_eq_true c20
             clear c20
             by_cases c21 : x6_2 < (x3_1.length : Int)
             ·
              rw [if_pos c21] at H
              have c21b0 : decide (x6_2 < (x3_1.length : Int)) = true := decide_eq_true c21
              clear c21
              by_cases c22 : y615.length + (rd_L5 x3_1 x6_2).length < 140737488355328
              ·
               rw [if_pos c22] at H
               have LMc22 := Aside0.mk c22
               clear c22
               obtain ⟨y619, hy619⟩ : ∃ y_ : List Bool, y_ = (y615 ++ (rd_L5 x3_1 x6_2)) := ⟨_, rfl⟩
               replace H : (if y619.length < 140737488355328 then (if x5_2.length < 5864062014805 then ((some (x5_2 ++ [(y619 ++ [false])] : List (List Bool))).bind fun y625 => (if x7_3 = true then ((some (([] : List Bool) : List Bool)).bind fun y628 => (if y628.length + (rd_L5 x3_1 x6_2).length < 140737488355328 then ((some (y628 ++ (rd_L5 x3_1 x6_2) : List Bool)).bind fun y632 => (if y632.length < 140737488355328 then (if y625.length < 5864062014805 then (swarfref04_States.l1 k3 x3_1 x4_1 (y625 ++ [(y632 ++ [true])]) (wrap64 (x6_2 + 1)) l0_0 a0_1 l0_2 a0_3 l0_4) else (none)) else (none))) else (none))) else (swarfref04_States.l1 k3 x3_1 x4_1 y625 (wrap64 (x6_2 + 1)) l0_0 a0_1 l0_2 a0_3 l0_4))) else (none)) else (none)) = some r := by first | (rw [hy619]; with_reducible exact H) | (have H2_ := (Option.bind_some _ _).symm.trans H; rw [hy619]; with_reducible exact H2_) | (have H2_ := (Option.bind_some _ _).symm.trans H; with_reducible exact H2_) | with_reducible exact H | (rw [hy619]; exact H) | exact H
               have Ny619 := Aside0.mk hy619
               clear hy619
               by_cases c23 : y619.length < 140737488355328
               ·
                rw [if_pos c23] at H
                have LMc23 := Aside0.mk c23
                clear c23
                obtain ⟨y622, hy622⟩ : ∃ y_ : List Bool, y_ = (y619 ++ [false]) := ⟨_, rfl⟩
                replace H : (if x5_2.length < 5864062014805 then ((some (x5_2 ++ [y622] : List (List Bool))).bind fun y625 => (if x7_3 = true then ((some (([] : List Bool) : List Bool)).bind fun y628 => (if y628.length + (rd_L5 x3_1 x6_2).length < 140737488355328 then ((some (y628 ++ (rd_L5 x3_1 x6_2) : List Bool)).bind fun y632 => (if y632.length < 140737488355328 then (if y625.length < 5864062014805 then (swarfref04_States.l1 k3 x3_1 x4_1 (y625 ++ [(y632 ++ [true])]) (wrap64 (x6_2 + 1)) l0_0 a0_1 l0_2 a0_3 l0_4) else (none)) else (none))) else (none))) else (swarfref04_States.l1 k3 x3_1 x4_1 y625 (wrap64 (x6_2 + 1)) l0_0 a0_1 l0_2 a0_3 l0_4))) else (none)) = some r := by first | (rw [hy622]; with_reducible exact H) | (have H2_ := (Option.bind_some _ _).symm.trans H; rw [hy622]; with_reducible exact H2_) | (have H2_ := (Option.bind_some _ _).symm.trans H; with_reducible exact H2_) | with_reducible exact H | (rw [hy622]; exact H) | exact H
                have Ny622 := Aside0.mk hy622
                clear hy622
                by_cases c24 : x5_2.length < 5864062014805
                ·
                 rw [if_pos c24] at H
                 have LMc24 := Aside0.mk c24
                 clear c24
                 obtain ⟨y625, hy625⟩ : ∃ y_ : List (List Bool), y_ = (x5_2 ++ [y622]) := ⟨_, rfl⟩
                 replace H : (if x7_3 = true then ((some (([] : List Bool) : List Bool)).bind fun y628 => (if y628.length + (rd_L5 x3_1 x6_2).length < 140737488355328 then ((some (y628 ++ (rd_L5 x3_1 x6_2) : List Bool)).bind fun y632 => (if y632.length < 140737488355328 then (if y625.length < 5864062014805 then (swarfref04_States.l1 k3 x3_1 x4_1 (y625 ++ [(y632 ++ [true])]) (wrap64 (x6_2 + 1)) l0_0 a0_1 l0_2 a0_3 l0_4) else (none)) else (none))) else (none))) else (swarfref04_States.l1 k3 x3_1 x4_1 y625 (wrap64 (x6_2 + 1)) l0_0 a0_1 l0_2 a0_3 l0_4)) = some r := by first | (rw [hy625]; with_reducible exact H) | (have H2_ := (Option.bind_some _ _).symm.trans H; rw [hy625]; with_reducible exact H2_) | (have H2_ := (Option.bind_some _ _).symm.trans H; with_reducible exact H2_) | with_reducible exact H | (rw [hy625]; exact H) | exact H
                 have Ny625 := Aside0.mk hy625
                 clear hy625
                 by_cases c25 : x7_3 = true
                 ·
                  subst c25
                  have H1 : ((some (([] : List Bool) : List Bool)).bind fun y628 => (if y628.length + (rd_L5 x3_1 x6_2).length < 140737488355328 then ((some (y628 ++ (rd_L5 x3_1 x6_2) : List Bool)).bind fun y632 => (if y632.length < 140737488355328 then (if y625.length < 5864062014805 then (swarfref04_States.l1 k3 x3_1 x4_1 (y625 ++ [(y632 ++ [true])]) (wrap64 (x6_2 + 1)) l0_0 a0_1 l0_2 a0_3 l0_4) else (none)) else (none))) else (none))) = some r := by rw [if_pos rfl] at H; exact H
                  clear H
                  have H := H1
                  clear H1
                  obtain ⟨y628, hy628⟩ : ∃ y_ : List Bool, y_ = (([] : List Bool)) := ⟨_, rfl⟩
                  replace H : (if y628.length + (rd_L5 x3_1 x6_2).length < 140737488355328 then ((some (y628 ++ (rd_L5 x3_1 x6_2) : List Bool)).bind fun y632 => (if y632.length < 140737488355328 then (if y625.length < 5864062014805 then (swarfref04_States.l1 k3 x3_1 x4_1 (y625 ++ [(y632 ++ [true])]) (wrap64 (x6_2 + 1)) l0_0 a0_1 l0_2 a0_3 l0_4) else (none)) else (none))) else (none)) = some r := by first | (rw [hy628]; with_reducible exact H) | (have H2_ := (Option.bind_some _ _).symm.trans H; rw [hy628]; with_reducible exact H2_) | (have H2_ := (Option.bind_some _ _).symm.trans H; with_reducible exact H2_) | with_reducible exact H | (rw [hy628]; exact H) | exact H
                  have Ny628 := Aside0.mk hy628
                  clear hy628
                  by_cases c26 : y628.length + (rd_L5 x3_1 x6_2).length < 140737488355328
                  ·
                   rw [if_pos c26] at H
                   have LMc26 := Aside0.mk c26
                   clear c26
                   obtain ⟨y632, hy632⟩ : ∃ y_ : List Bool, y_ = (y628 ++ (rd_L5 x3_1 x6_2)) := ⟨_, rfl⟩
                   replace H : (if y632.length < 140737488355328 then (if y625.length < 5864062014805 then (swarfref04_States.l1 k3 x3_1 x4_1 (y625 ++ [(y632 ++ [true])]) (wrap64 (x6_2 + 1)) l0_0 a0_1 l0_2 a0_3 l0_4) else (none)) else (none)) = some r := by first | (rw [hy632]; with_reducible exact H) | (have H2_ := (Option.bind_some _ _).symm.trans H; rw [hy632]; with_reducible exact H2_) | (have H2_ := (Option.bind_some _ _).symm.trans H; with_reducible exact H2_) | with_reducible exact H | (rw [hy632]; exact H) | exact H
                   have Ny632 := Aside0.mk hy632
                   clear hy632
                   by_cases c27 : y632.length < 140737488355328
                   ·
                    rw [if_pos c27] at H
                    have LMc27 := Aside0.mk c27
                    clear c27
                    obtain ⟨y635, hy635⟩ : ∃ y_ : List Bool, y_ = (y632 ++ [true]) := ⟨_, rfl⟩
                    replace H : (if y625.length < 5864062014805 then (swarfref04_States.l1 k3 x3_1 x4_1 (y625 ++ [y635]) (wrap64 (x6_2 + 1)) l0_0 a0_1 l0_2 a0_3 l0_4) else (none)) = some r := by first | (rw [hy635]; with_reducible exact H) | (have H2_ := (Option.bind_some _ _).symm.trans H; rw [hy635]; with_reducible exact H2_) | (have H2_ := (Option.bind_some _ _).symm.trans H; with_reducible exact H2_) | with_reducible exact H | (rw [hy635]; exact H) | exact H
                    have Ny635 := Aside0.mk hy635
                    clear hy635
                    by_cases c28 : y625.length < 5864062014805
                    ·
                     rw [if_pos c28] at H
                     have LMc28 := Aside0.mk c28
                     clear c28
                     obtain ⟨y638, hy638⟩ : ∃ y_ : List (List Bool), y_ = (y625 ++ [y635]) := ⟨_, rfl⟩
                     replace H : (swarfref04_States.l1 k3 x3_1 x4_1 y638 (wrap64 (x6_2 + 1)) l0_0 a0_1 l0_2 a0_3 l0_4) = some r := by first | (rw [hy638]; with_reducible exact H) | (have H2_ := (Option.bind_some _ _).symm.trans H; rw [hy638]; with_reducible exact H2_) | (have H2_ := (Option.bind_some _ _).symm.trans H; with_reducible exact H2_) | with_reducible exact H | (rw [hy638]; exact H) | exact H
                     have Ny638 := Aside0.mk hy638
                     clear hy638
                     have H' := Aside0.mk H
                     clear H
                     obtain ⟨_, _, _, _, _⟩ := cz5 BK606
                     have hfz29_0 := blk_frozen BK606.out
                     have p610 : 0 ≤ (x4_1 : Int) := of_x
                     have q610 : x4_1 < (l0_0.length : Int) := of_x
                     obtain ⟨ad610, A610_0, c610_0, e610, hx610_0, hx610_1, hx610_2, hx610_3, hl610_0, hi610_0⟩ := at_T50 HR0_0.out x4_1 p610 q610
                     cases e610
                     replace hx610_0 := cell_x HB hx610_0
                     replace hx610_1 := cell_x HB hx610_1
                     replace hx610_2 := cell_x HB hx610_2
                     replace hx610_3 := cell_x HB hx610_3
                     have HR610_0 := Aside0.mk hi610_0
                     have HC610_0 := Aside0.mk hl610_0
                     clear hi610_0 hl610_0
                     replace p610 := eq_true p610
                     replace q610 := eq_true q610
                     go_wp2_with (first | ((with_reducible refine gate_dst (N := 53) rfl ?_); refine Kd.R_lit Kd.bool _ 4 ?hg (N := 53) ?hd (xs := ([] : List Bool)) (inner := []) (ok := fun _ => True) (okp := fun _ => True) ?hr ?hp (fun _ hk => hk) trivial (Below.refl _ _) (Nat.le_refl _) (by simp) ?_; (case hd => rfl); (case hg => rfl); (case hr => first | (go_simp; done) | (go_simp; rfl)); (case hp => exact (Reps.none _ _)); intro v616 w30 ho31 hb hg_ hnew_; clear hg_ hnew_; (first | rw [← Ny615.out] at ho31 | (simp only [Int.reduceToNat] at ho31; rw [← Ny615.out] at ho31)); replace HO_3 := Aside0.mk (Kd.S_elder' (Kd.S_x HO_3.out) (Kd.R_base ho31) hb); replace HO_5 := Aside0.mk (Kd.S_elder' (Kd.S_x HO_5.out) (Kd.R_base ho31) hb); have HO617 := Aside0.mk (Kd.R_lower ho31 (below_size (by exact below_y HB.out))); replace BK606 := Aside0.mk (blk_below (blk_x BK606.out) hb); replace HB := bl_x HB hb; clear hb ho31; have p618 : 0 ≤ (x6_2 : Int) := of_x; have q618 : x6_2 < (x3_1.length : Int) := of_x; obtain ⟨ad618, A618_0, c618_0, e618, hx618_0, hl618_0, hi618_0⟩ := at_L5 (Kd.S_reads' HO_3.out).2.2 x6_2 p618 q618; cases e618; obtain ⟨ce618, hce618, hMe618, hcc618⟩ := Kd.S_get HO_3.out [] x6_2 p618 (by first | exact q618 | exact of_x | (have e_ := (Kd.S_reads' HO_3.out).1; omega)); obtain ⟨ve618_0, rfl, ge618_0⟩ := hMe618; have hv618_0 := hcc618 0 _ rfl; rw [Nat.add_zero, show ((Kd.slice 4 Kd.bool)).sz = 1 from rfl, Nat.mul_one] at hv618_0; replace hv618_0 := Option.some.inj (hv618_0.symm.trans hx618_0); rw [hv618_0] at ge618_0; have HL618_0 := Aside0.mk (show Kd.R Kd.bool 4 _ _ _ _ (rd_L5 x3_1 x6_2) from ge618_0); clear hv618_0 ge618_0; clear hcc618 hce618; have HR618_0 := Aside0.mk hi618_0; have HC618_0 := Aside0.mk hl618_0; clear hi618_0 hl618_0; replace p618 := eq_true p618; replace q618 := eq_true q618) | ((with_reducible refine gate_builtin (b := .append) (xs := #[.tmp 53, .tmp 57]) rfl ?_); at_builtin; refine Kd.R_append_rows Kd.bool (w0 := w) w.heap.size rfl (.tmp 53) (.tmp 57) 31 4 (.bool false) 1 rfl Try.underlying31 info4 rfl (by decide) (by omega) v616 y615 (rd_L5 x3_1 x6_2) _ _ _ (fun _ => True) (fun _ => False) rfl rfl ?aO ?aR (fun _ _ h => h) (fun _ h => h.elim) ?aF ?aB ?aS ?aL ?_; (case aR => repeat (first | exact (by repeat (first | (with_reducible exact HR618_0.out) | (with_reducible refine Kd.C_alloc ?_ _) | (with_reducible refine Kd.C_drewN ?_ _) | (with_reducible refine Kd.C_drew ?_) | exact HR618_0.out)) | (with_reducible refine Kd.C_alloc ?_ _) | (with_reducible refine Kd.C_drewN ?_ _) | (with_reducible refine Kd.C_drew ?_))); (case aB => exact (by exact below_y HB.out)); (case aF => exact (fun _ _ => trivial)); (case aO => exact (Kd.R_x HO617.out)); (case aS => exact (below_size (by exact below_y HB.out))); (case aL => have := LMc22.out; omega); intro v620 w32 ho hb hg hat; rw [← Ny619.out] at ho; replace HO_3 := Aside0.mk (Kd.S_after (ok := (fun k_ => some k_ ≠ (u5 : Value).ownBlock)) (Kd.S_x HO_3.out) hg hat); replace HO_5 := Aside0.mk (Kd.S_after (ok := (fun k_ => some k_ ≠ (.slice (some ad618) x3_1.length co8 : Value).ownBlock)) (Kd.S_x HO_5.out) hg hat); replace BK606 := Aside0.mk (blk_grown (blk_x BK606.out) hg (Kd.R_ne HO617.out BK606.out (by decide))); replace HL618_0 := Aside0.mk (Kd.R_after (ok := (fun k_ => some k_ ≠ (.slice (some ad618) x3_1.length co8 : Value).ownBlock ∧ some k_ ≠ (u5 : Value).ownBlock)) (by (with_reducible repeat (first | apply Kd.R_alloc | apply Kd.R_drewN | apply Kd.R_drew)); exact Kd.R_mono HL618_0.out (fun _ hk => ⟨⟨hk.2, hk.1.1⟩, hk.1.2⟩)) hg hat); replace HB := Aside0.mk (hb); have HO621 := Aside0.mk (ho); clear HO617; clear ho hb hg hat) | ((with_reducible refine gate_builtin (b := .append) (xs := #[.tmp 58, .tmp 59]) rfl ?_); at_builtin; refine Kd.R_append Kd.bool (w0 := w) w.heap.size rfl (.tmp 58) (.tmp 59) 31 4 (.bool false) 1 rfl Try.underlying31 info4 rfl (by decide) (by omega) v620 y619 false [.bool false] (fun _ => True) (fun _ => False) rfl rfl ?aP (fun _ hk => hk.elim) ?aF ?aO ?aB ?aS ?aL ?_; (case aP => exact rfl); (case aB => exact (by exact below_y HB.out)); (case aF => exact (fun _ _ => trivial)); (case aO => exact (Kd.R_x HO621.out)); (case aS => exact (below_size (by exact below_y HB.out))); (case aL => have := LMc23.out; omega); intro v623 w33 ho hb hg hat; rw [← Ny622.out] at ho; replace HO_3 := Aside0.mk (Kd.S_after (ok := (fun k_ => some k_ ≠ (u5 : Value).ownBlock)) (Kd.S_x HO_3.out) hg hat); replace HO_5 := Aside0.mk (Kd.S_after (ok := (fun k_ => some k_ ≠ (.slice (some ad618) x3_1.length co8 : Value).ownBlock)) (Kd.S_x HO_5.out) hg hat); replace BK606 := Aside0.mk (blk_grown (blk_x BK606.out) hg (Kd.R_ne HO621.out BK606.out (by decide))); replace HL618_0 := Aside0.mk (Kd.R_after (ok := (fun k_ => some k_ ≠ (.slice (some ad618) x3_1.length co8 : Value).ownBlock ∧ some k_ ≠ (u5 : Value).ownBlock)) (Kd.R_x HL618_0.out) hg hat); replace HB := Aside0.mk (hb); have HO624 := Aside0.mk (ho); clear HO621; clear ho hb hg hat; obtain ⟨Ao35, co35, eo35⟩ := Kd.R_slice HO624.out; subst eo35) | ((with_reducible refine gate_builtin (b := .append) (xs := #[.tmp 52, .tmp 61]) rfl ?_); at_builtin; refine Kd.S_append (Kd.slice 4 Kd.bool) (w0 := w) w.heap.size rfl (.tmp 52) (.tmp 61) 70 31 (.slice none 0 0) 24 rfl Try.underlying70 info31 rfl (by decide) (by omega) u5 x5_2 y622 [.slice Ao35 y622.length co35] (fun k_ => some k_ ≠ (.slice (some ad618) x3_1.length co8 : Value).ownBlock) (fun k_ => some k_ = (.slice Ao35 y622.length co35 : Value).ownBlock) rfl rfl ?aP (fun k_ hk_ => ((Kd.R_mono (ok' := fun k_ => ((fun k_ => some k_ ≠ (.slice (some ad618) x3_1.length co8 : Value).ownBlock)) k_ ∧ some k_ ≠ (u5 : Value).ownBlock) (Kd.R_apart' (Kd.R_apart' (HO624.out) (Kd.S_typed HO_3.out) (by decide)) (Kd.S_typed HO_5.out) (by decide)) (fun k_ hk => ⟨hk.1.2, hk.2⟩))).1 k_ hk_.symm) ?aF ?aO ?aB ?aS ?aL ?_; (case aP => exact Kd.M_row (Kd.R_mono (Kd.R_tight rfl (Kd.R_mono (ok' := fun k_ => ((fun k_ => some k_ ≠ (.slice (some ad618) x3_1.length co8 : Value).ownBlock)) k_ ∧ some k_ ≠ (u5 : Value).ownBlock) (Kd.R_apart' (Kd.R_apart' (HO624.out) (Kd.S_typed HO_3.out) (by decide)) (Kd.S_typed HO_5.out) (by decide)) (fun k_ hk => ⟨hk.1.2, hk.2⟩))) (fun _ h_ => h_))); (case aB => exact (by exact below_y HB.out)); (case aF => exact (fun k_ hk => Kd.fresh' (Kd.S_lt (Kd.S_x HO_3.out)) k_ hk)); (case aO => exact (by (with_reducible repeat (first | apply Kd.S_alloc | apply Kd.S_drewN | apply Kd.S_drew)); exact Kd.S_mono HO_5.out (fun k_ hk => ⟨hk.1, fun e_ => hk.2 e_⟩))); (case aS => exact (below_size (by exact below_y HB.out))); (case aL => have := LMc24.out; omega); intro v626 w34 ho hb hg hat; rw [← Ny625.out] at ho; replace HO_3 := Aside0.mk (Kd.S_after (ok := (fun k_ => some k_ ≠ (.slice Ao35 y622.length co35 : Value).ownBlock)) (by (with_reducible repeat (first | apply Kd.S_alloc | apply Kd.S_drewN | apply Kd.S_drew)); exact Kd.S_mono HO_3.out (fun _ hk => ⟨hk.2, hk.1⟩)) hg hat); replace BK606 := Aside0.mk (blk_grown (blk_x BK606.out) hg (Kd.S_ne HO_5.out BK606.out (by decide))); replace HL618_0 := Aside0.mk (Kd.R_after (ok := (fun k_ => some k_ ≠ (.slice (some ad618) x3_1.length co8 : Value).ownBlock ∧ some k_ ≠ (.slice Ao35 y622.length co35 : Value).ownBlock)) (by (with_reducible repeat (first | apply Kd.R_alloc | apply Kd.R_drewN | apply Kd.R_drew)); exact Kd.R_mono HL618_0.out (fun _ hk => ⟨⟨hk.1.1, hk.2⟩, hk.1.2⟩)) hg hat); replace HB := Aside0.mk (hb); have HO627 := Aside0.mk (ho); clear HO_5 HO624; clear ho hb hg hat) | ((with_reducible refine gate_dst (N := 65) rfl ?_); refine Kd.R_lit Kd.bool _ 4 ?hg (N := 65) ?hd (xs := ([] : List Bool)) (inner := []) (ok := fun _ => True) (okp := fun _ => True) ?hr ?hp (fun _ hk => hk) trivial (Below.refl _ _) (Nat.le_refl _) (by simp) ?_; (case hd => rfl); (case hg => rfl); (case hr => first | (go_simp; done) | (go_simp; rfl)); (case hp => exact (Reps.none _ _)); intro v629 w36 ho37 hb hg_ hnew_; clear hg_ hnew_; (first | rw [← Ny628.out] at ho37 | (simp only [Int.reduceToNat] at ho37; rw [← Ny628.out] at ho37)); replace HO_3 := Aside0.mk (Kd.S_elder' (Kd.S_x HO_3.out) (Kd.R_base ho37) hb); replace HO627 := Aside0.mk (Kd.S_elder' (Kd.S_x HO627.out) (Kd.R_base ho37) hb); have HO630 := Aside0.mk (Kd.R_lower (Kd.R_new' ho37 (Kd.R_lt (Kd.R_x HL618_0.out))) (below_size (by exact below_y HB.out))); replace HL618_0 := Aside0.mk (Kd.R_elder' (Kd.R_x HL618_0.out) (Kd.R_base ho37) hb); replace BK606 := Aside0.mk (blk_below (blk_x BK606.out) hb); replace HB := bl_x HB hb; clear hb ho37; have p631 : 0 ≤ (x6_2 : Int) := of_x; have q631 : x6_2 < (x3_1.length : Int) := of_x; obtain ⟨ad631, A631_0, c631_0, e631, hx631_0, hl631_0, hi631_0⟩ := at_L5 (Kd.S_reads' HO_3.out).2.2 x6_2 p631 q631; obtain rfl : ad618 = ad631 := (by injection e631); obtain ⟨ce631, hce631, hMe631, hcc631⟩ := Kd.S_get HO_3.out [] x6_2 p631 (by first | exact q631 | exact of_x | (have e_ := (Kd.S_reads' HO_3.out).1; omega)); obtain ⟨ve631_0, rfl, ge631_0⟩ := hMe631; have hv631_0 := hcc631 0 _ rfl; rw [Nat.add_zero, show ((Kd.slice 4 Kd.bool)).sz = 1 from rfl, Nat.mul_one] at hv631_0; replace hv631_0 := Option.some.inj (hv631_0.symm.trans hx631_0); rw [hv631_0] at ge631_0; have HL631_0 := Aside0.mk (show Kd.R Kd.bool 4 _ _ _ _ (rd_L5 x3_1 x6_2) from ge631_0); clear hv631_0 ge631_0; clear hcc631 hce631; have HR631_0 := Aside0.mk hi631_0; have HC631_0 := Aside0.mk hl631_0; clear hi631_0 hl631_0; replace p631 := eq_true p631; replace q631 := eq_true q631) | ((with_reducible refine gate_builtin (b := .append) (xs := #[.tmp 65, .tmp 69]) rfl ?_); at_builtin; refine Kd.R_append_rows Kd.bool (w0 := w) w.heap.size rfl (.tmp 65) (.tmp 69) 31 4 (.bool false) 1 rfl Try.underlying31 info4 rfl (by decide) (by omega) v629 y628 (rd_L5 x3_1 x6_2) _ _ _ (fun k_ => some k_ ≠ (.slice A618_0 (rd_L5 x3_1 x6_2).length c618_0 : Value).ownBlock) (fun _ => False) rfl rfl ?aO ?aR (fun _ _ h => h) (fun _ h => h.elim) ?aF ?aB ?aS ?aL ?_; (case aR => repeat (first | exact (by repeat (first | (with_reducible exact HR631_0.out) | (with_reducible refine Kd.C_alloc ?_ _) | (with_reducible refine Kd.C_drewN ?_ _) | (with_reducible refine Kd.C_drew ?_) | exact HR631_0.out)) | (with_reducible refine Kd.C_alloc ?_ _) | (with_reducible refine Kd.C_drewN ?_ _) | (with_reducible refine Kd.C_drew ?_))); (case aB => exact (by exact below_y HB.out)); (case aF => exact (fun k_ hk => Kd.fresh' (Kd.R_lt (Kd.R_x HL618_0.out)) k_ hk)); (case aO => exact (by (with_reducible repeat (first | apply Kd.R_alloc | apply Kd.R_drewN | apply Kd.R_drew)); exact Kd.R_mono HO630.out (fun _ hk => hk.2))); (case aS => exact (below_size (by exact below_y HB.out))); (case aL => have := LMc26.out; omega); intro v633 w38 ho hb hg hat; rw [← Ny632.out] at ho; replace HO_3 := Aside0.mk (Kd.S_after (ok := (fun k_ => some k_ ≠ (v626 : Value).ownBlock)) (by (with_reducible repeat (first | apply Kd.S_alloc | apply Kd.S_drewN | apply Kd.S_drew)); exact Kd.S_mono HO_3.out (fun _ hk => ⟨hk.1.2, hk.2⟩)) hg hat); replace BK606 := Aside0.mk (blk_grown (blk_x BK606.out) hg (Kd.R_ne HO630.out BK606.out (by decide))); replace HL618_0 := Aside0.mk (Kd.R_after (ok := (fun k_ => some k_ ≠ (.slice (some ad618) x3_1.length co8 : Value).ownBlock ∧ some k_ ≠ (v626 : Value).ownBlock)) (by (with_reducible repeat (first | apply Kd.R_alloc | apply Kd.R_drewN | apply Kd.R_drew)); exact Kd.R_mono HL618_0.out (fun _ hk => ⟨⟨hk.1.1.1, hk.1.2⟩, hk.2⟩)) hg hat); replace HO627 := Aside0.mk (Kd.S_after (ok := (fun k_ => some k_ ≠ (.slice (some ad618) x3_1.length co8 : Value).ownBlock)) (Kd.S_x HO627.out) hg hat); replace HL631_0 := Aside0.mk (Kd.R_after (ok := (fun k_ => some k_ ≠ (.slice (some ad618) x3_1.length co8 : Value).ownBlock ∧ some k_ ≠ (v626 : Value).ownBlock)) (by (with_reducible repeat (first | apply Kd.R_alloc | apply Kd.R_drewN | apply Kd.R_drew)); exact Kd.R_mono HL631_0.out (fun _ hk => ⟨⟨hk.2, hk.1.1.2⟩, hk.1.2⟩)) hg hat); replace HB := Aside0.mk (hb); have HO634 := Aside0.mk (ho); clear HO630; clear ho hb hg hat) | ((with_reducible refine gate_builtin (b := .append) (xs := #[.tmp 70, .tmp 71]) rfl ?_); at_builtin; refine Kd.R_append Kd.bool (w0 := w) w.heap.size rfl (.tmp 70) (.tmp 71) 31 4 (.bool false) 1 rfl Try.underlying31 info4 rfl (by decide) (by omega) v633 y632 true [.bool true] (fun k_ => some k_ ≠ (.slice A618_0 (rd_L5 x3_1 x6_2).length c618_0 : Value).ownBlock) (fun _ => False) rfl rfl ?aP (fun _ hk => hk.elim) ?aF ?aO ?aB ?aS ?aL ?_; (case aP => exact rfl); (case aB => exact (by exact below_y HB.out)); (case aF => exact (fun k_ hk => Kd.fresh' (Kd.R_lt (Kd.R_x HL618_0.out)) k_ hk)); (case aO => exact (Kd.R_x HO634.out)); (case aS => exact (below_size (by exact below_y HB.out))); (case aL => have := LMc27.out; omega); intro v636 w39 ho hb hg hat; rw [← Ny635.out] at ho; replace HO_3 := Aside0.mk (Kd.S_after (ok := (fun k_ => some k_ ≠ (v626 : Value).ownBlock)) (Kd.S_x HO_3.out) hg hat); replace BK606 := Aside0.mk (blk_grown (blk_x BK606.out) hg (Kd.R_ne HO634.out BK606.out (by decide))); replace HL618_0 := Aside0.mk (Kd.R_after (ok := (fun k_ => some k_ ≠ (.slice (some ad618) x3_1.length co8 : Value).ownBlock ∧ some k_ ≠ (v626 : Value).ownBlock)) (Kd.R_x HL618_0.out) hg hat); replace HO627 := Aside0.mk (Kd.S_after (ok := (fun k_ => some k_ ≠ (.slice (some ad618) x3_1.length co8 : Value).ownBlock)) (Kd.S_x HO627.out) hg hat); replace HL631_0 := Aside0.mk (Kd.R_after (ok := (fun k_ => some k_ ≠ (.slice (some ad618) x3_1.length co8 : Value).ownBlock ∧ some k_ ≠ (v626 : Value).ownBlock)) (Kd.R_x HL631_0.out) hg hat); replace HB := Aside0.mk (hb); have HO637 := Aside0.mk (ho); clear HO634; clear ho hb hg hat; obtain ⟨Ao41, co41, eo41⟩ := Kd.R_slice HO637.out; subst eo41) | ((with_reducible refine gate_builtin (b := .append) (xs := #[.tmp 64, .tmp 73]) rfl ?_); at_builtin; refine Kd.S_append (Kd.slice 4 Kd.bool) (w0 := w) w.heap.size rfl (.tmp 64) (.tmp 73) 70 31 (.slice none 0 0) 24 rfl Try.underlying70 info31 rfl (by decide) (by omega) v626 y625 y635 [.slice Ao41 y635.length co41] (fun k_ => some k_ ≠ (.slice (some ad618) x3_1.length co8 : Value).ownBlock) (fun k_ => some k_ = (.slice Ao41 y635.length co41 : Value).ownBlock) rfl rfl ?aP (fun k_ hk_ => ((Kd.R_mono (ok' := fun k_ => ((fun k_ => some k_ ≠ (.slice (some ad618) x3_1.length co8 : Value).ownBlock)) k_ ∧ some k_ ≠ (v626 : Value).ownBlock) (Kd.R_apart' (Kd.R_apart' (HO637.out) (Kd.S_typed HO_3.out) (by decide)) (Kd.S_typed HO627.out) (by decide)) (fun k_ hk => ⟨hk.1.2, hk.2⟩))).1 k_ hk_.symm) ?aF ?aO ?aB ?aS ?aL ?_; (case aP => exact Kd.M_row (Kd.R_mono (Kd.R_tight rfl (Kd.R_mono (ok' := fun k_ => ((fun k_ => some k_ ≠ (.slice (some ad618) x3_1.length co8 : Value).ownBlock)) k_ ∧ some k_ ≠ (v626 : Value).ownBlock) (Kd.R_apart' (Kd.R_apart' (HO637.out) (Kd.S_typed HO_3.out) (by decide)) (Kd.S_typed HO627.out) (by decide)) (fun k_ hk => ⟨hk.1.2, hk.2⟩))) (fun _ h_ => h_))); (case aB => exact (by exact below_y HB.out)); (case aF => exact (fun k_ hk => Kd.fresh' (Kd.S_lt (Kd.S_x HO_3.out)) k_ hk)); (case aO => exact (by (with_reducible repeat (first | apply Kd.S_alloc | apply Kd.S_drewN | apply Kd.S_drew)); exact Kd.S_mono HO627.out (fun k_ hk => ⟨hk.1, fun e_ => hk.2 e_⟩))); (case aS => exact (below_size (by exact below_y HB.out))); (case aL => have := LMc28.out; omega); intro v639 w40 ho hb hg hat; rw [← Ny638.out] at ho; replace HO_3 := Aside0.mk (Kd.S_after (ok := (fun k_ => some k_ ≠ (.slice Ao41 y635.length co41 : Value).ownBlock)) (by (with_reducible repeat (first | apply Kd.S_alloc | apply Kd.S_drewN | apply Kd.S_drew)); exact Kd.S_mono HO_3.out (fun _ hk => ⟨hk.2, hk.1⟩)) hg hat); replace BK606 := Aside0.mk (blk_grown (blk_x BK606.out) hg (Kd.S_ne HO627.out BK606.out (by decide))); replace HL618_0 := Aside0.mk (Kd.R_after (ok := (fun k_ => some k_ ≠ (.slice (some ad618) x3_1.length co8 : Value).ownBlock ∧ some k_ ≠ (.slice Ao41 y635.length co41 : Value).ownBlock)) (by (with_reducible repeat (first | apply Kd.R_alloc | apply Kd.R_drewN | apply Kd.R_drew)); exact Kd.R_mono HL618_0.out (fun _ hk => ⟨⟨hk.1.1, hk.2⟩, hk.1.2⟩)) hg hat); replace HL631_0 := Aside0.mk (Kd.R_after (ok := (fun k_ => some k_ ≠ (.slice (some ad618) x3_1.length co8 : Value).ownBlock ∧ some k_ ≠ (.slice Ao41 y635.length co41 : Value).ownBlock)) (by (with_reducible repeat (first | apply Kd.R_alloc | apply Kd.R_drewN | apply Kd.R_drew)); exact Kd.R_mono HL631_0.out (fun _ hk => ⟨⟨hk.1.1, hk.2⟩, hk.1.2⟩)) hg hat); replace HB := Aside0.mk (hb); have HO640 := Aside0.mk (ho); clear HO627 HO637; clear ho hb hg hat))
                     go_roundg k3
                     case measure => have := HK1.out; have := HK2.out; have := HK3.out; omega
                     case rel => exact ⟨(y638), (wrap64 (x6_2 + 1)), (by first | rfl | (simp; done) | (simp [*]; done)), H', ⟨by have := HK1.out; have := HK2.out; have := HK3.out; omega⟩, ⟨by (with_reducible repeat (first | apply Kd.S_alloc | apply Kd.S_drewN | apply Kd.S_drew)); exact Kd.S_mono HO_3.out (fun _ hk => hk.2)⟩, ⟨by (with_reducible repeat (first | apply Kd.S_alloc | apply Kd.S_drewN | apply Kd.S_drew)); exact HO640.out⟩, ⟨blk_x BK606.out⟩, ⟨by exact below_y HB.out⟩⟩
                    ·
                     rw [if_neg c28] at H
                     exact absurd H (by simp)
                   ·
                    rw [if_neg c27] at H
                    exact absurd H (by simp)
                  ·
                   rw [if_neg c26] at H
                   exact absurd H (by simp)
                 ·
                  replace c25 := Bool.eq_false_iff.mpr c25
                  subst c25
                  have H1 : (swarfref04_States.l1 k3 x3_1 x4_1 y625 (wrap64 (x6_2 + 1)) l0_0 a0_1 l0_2 a0_3 l0_4) = some r := by rw [if_neg (show ¬ (false = true) by decide)] at H; exact H
                  clear H
                  have H := H1
                  clear H1
                  have H' := Aside0.mk H
                  clear H
                  obtain ⟨_, _, _, _, _⟩ := cz5 BK606
                  have hfz42_0 := blk_frozen BK606.out
                  have p610 : 0 ≤ (x4_1 : Int) := of_x
                  have q610 : x4_1 < (l0_0.length : Int) := of_x
                  obtain ⟨ad610, A610_0, c610_0, e610, hx610_0, hx610_1, hx610_2, hx610_3, hl610_0, hi610_0⟩ := at_T50 HR0_0.out x4_1 p610 q610
                  cases e610
                  replace hx610_0 := cell_x HB hx610_0
                  replace hx610_1 := cell_x HB hx610_1
                  replace hx610_2 := cell_x HB hx610_2
                  replace hx610_3 := cell_x HB hx610_3
                  have HR610_0 := Aside0.mk hi610_0
                  have HC610_0 := Aside0.mk hl610_0
                  clear hi610_0 hl610_0
                  replace p610 := eq_true p610
                  replace q610 := eq_true q610
                  go_wp2_with (first | ((with_reducible refine gate_dst (N := 53) rfl ?_); refine Kd.R_lit Kd.bool _ 4 ?hg (N := 53) ?hd (xs := ([] : List Bool)) (inner := []) (ok := fun _ => True) (okp := fun _ => True) ?hr ?hp (fun _ hk => hk) trivial (Below.refl _ _) (Nat.le_refl _) (by simp) ?_; (case hd => rfl); (case hg => rfl); (case hr => first | (go_simp; done) | (go_simp; rfl)); (case hp => exact (Reps.none _ _)); intro v616 w43 ho44 hb hg_ hnew_; clear hg_ hnew_; (first | rw [← Ny615.out] at ho44 | (simp only [Int.reduceToNat] at ho44; rw [← Ny615.out] at ho44)); replace HO_3 := Aside0.mk (Kd.S_elder' (Kd.S_x HO_3.out) (Kd.R_base ho44) hb); replace HO_5 := Aside0.mk (Kd.S_elder' (Kd.S_x HO_5.out) (Kd.R_base ho44) hb); have HO617 := Aside0.mk (Kd.R_lower ho44 (below_size (by exact below_y HB.out))); replace BK606 := Aside0.mk (blk_below (blk_x BK606.out) hb); replace HB := bl_x HB hb; clear hb ho44; have p618 : 0 ≤ (x6_2 : Int) := of_x; have q618 : x6_2 < (x3_1.length : Int) := of_x; obtain ⟨ad618, A618_0, c618_0, e618, hx618_0, hl618_0, hi618_0⟩ := at_L5 (Kd.S_reads' HO_3.out).2.2 x6_2 p618 q618; cases e618; obtain ⟨ce618, hce618, hMe618, hcc618⟩ := Kd.S_get HO_3.out [] x6_2 p618 (by first | exact q618 | exact of_x | (have e_ := (Kd.S_reads' HO_3.out).1; omega)); obtain ⟨ve618_0, rfl, ge618_0⟩ := hMe618; have hv618_0 := hcc618 0 _ rfl; rw [Nat.add_zero, show ((Kd.slice 4 Kd.bool)).sz = 1 from rfl, Nat.mul_one] at hv618_0; replace hv618_0 := Option.some.inj (hv618_0.symm.trans hx618_0); rw [hv618_0] at ge618_0; have HL618_0 := Aside0.mk (show Kd.R Kd.bool 4 _ _ _ _ (rd_L5 x3_1 x6_2) from ge618_0); clear hv618_0 ge618_0; clear hcc618 hce618; have HR618_0 := Aside0.mk hi618_0; have HC618_0 := Aside0.mk hl618_0; clear hi618_0 hl618_0; replace p618 := eq_true p618; replace q618 := eq_true q618) | ((with_reducible refine gate_builtin (b := .append) (xs := #[.tmp 53, .tmp 57]) rfl ?_); at_builtin; refine Kd.R_append_rows Kd.bool (w0 := w) w.heap.size rfl (.tmp 53) (.tmp 57) 31 4 (.bool false) 1 rfl Try.underlying31 info4 rfl (by decide) (by omega) v616 y615 (rd_L5 x3_1 x6_2) _ _ _ (fun _ => True) (fun _ => False) rfl rfl ?aO ?aR (fun _ _ h => h) (fun _ h => h.elim) ?aF ?aB ?aS ?aL ?_; (case aR => repeat (first | exact (by repeat (first | (with_reducible exact HR618_0.out) | (with_reducible refine Kd.C_alloc ?_ _) | (with_reducible refine Kd.C_drewN ?_ _) | (with_reducible refine Kd.C_drew ?_) | exact HR618_0.out)) | (with_reducible refine Kd.C_alloc ?_ _) | (with_reducible refine Kd.C_drewN ?_ _) | (with_reducible refine Kd.C_drew ?_))); (case aB => exact (by exact below_y HB.out)); (case aF => exact (fun _ _ => trivial)); (case aO => exact (Kd.R_x HO617.out)); (case aS => exact (below_size (by exact below_y HB.out))); (case aL => have := LMc22.out; omega); intro v620 w45 ho hb hg hat; rw [← Ny619.out] at ho; replace HO_3 := Aside0.mk (Kd.S_after (ok := (fun k_ => some k_ ≠ (u5 : Value).ownBlock)) (Kd.S_x HO_3.out) hg hat); replace HO_5 := Aside0.mk (Kd.S_after (ok := (fun k_ => some k_ ≠ (.slice (some ad618) x3_1.length co8 : Value).ownBlock)) (Kd.S_x HO_5.out) hg hat); replace BK606 := Aside0.mk (blk_grown (blk_x BK606.out) hg (Kd.R_ne HO617.out BK606.out (by decide))); replace HL618_0 := Aside0.mk (Kd.R_after (ok := (fun k_ => some k_ ≠ (.slice (some ad618) x3_1.length co8 : Value).ownBlock ∧ some k_ ≠ (u5 : Value).ownBlock)) (by (with_reducible repeat (first | apply Kd.R_alloc | apply Kd.R_drewN | apply Kd.R_drew)); exact Kd.R_mono HL618_0.out (fun _ hk => ⟨⟨hk.2, hk.1.1⟩, hk.1.2⟩)) hg hat); replace HB := Aside0.mk (hb); have HO621 := Aside0.mk (ho); clear HO617; clear ho hb hg hat) | ((with_reducible refine gate_builtin (b := .append) (xs := #[.tmp 58, .tmp 59]) rfl ?_); at_builtin; refine Kd.R_append Kd.bool (w0 := w) w.heap.size rfl (.tmp 58) (.tmp 59) 31 4 (.bool false) 1 rfl Try.underlying31 info4 rfl (by decide) (by omega) v620 y619 false [.bool false] (fun _ => True) (fun _ => False) rfl rfl ?aP (fun _ hk => hk.elim) ?aF ?aO ?aB ?aS ?aL ?_; (case aP => exact rfl); (case aB => exact (by exact below_y HB.out)); (case aF => exact (fun _ _ => trivial)); (case aO => exact (Kd.R_x HO621.out)); (case aS => exact (below_size (by exact below_y HB.out))); (case aL => have := LMc23.out; omega); intro v623 w46 ho hb hg hat; rw [← Ny622.out] at ho; replace HO_3 := Aside0.mk (Kd.S_after (ok := (fun k_ => some k_ ≠ (u5 : Value).ownBlock)) (Kd.S_x HO_3.out) hg hat); replace HO_5 := Aside0.mk (Kd.S_after (ok := (fun k_ => some k_ ≠ (.slice (some ad618) x3_1.length co8 : Value).ownBlock)) (Kd.S_x HO_5.out) hg hat); replace BK606 := Aside0.mk (blk_grown (blk_x BK606.out) hg (Kd.R_ne HO621.out BK606.out (by decide))); replace HL618_0 := Aside0.mk (Kd.R_after (ok := (fun k_ => some k_ ≠ (.slice (some ad618) x3_1.length co8 : Value).ownBlock ∧ some k_ ≠ (u5 : Value).ownBlock)) (Kd.R_x HL618_0.out) hg hat); replace HB := Aside0.mk (hb); have HO624 := Aside0.mk (ho); clear HO621; clear ho hb hg hat; obtain ⟨Ao48, co48, eo48⟩ := Kd.R_slice HO624.out; subst eo48) | ((with_reducible refine gate_builtin (b := .append) (xs := #[.tmp 52, .tmp 61]) rfl ?_); at_builtin; refine Kd.S_append (Kd.slice 4 Kd.bool) (w0 := w) w.heap.size rfl (.tmp 52) (.tmp 61) 70 31 (.slice none 0 0) 24 rfl Try.underlying70 info31 rfl (by decide) (by omega) u5 x5_2 y622 [.slice Ao48 y622.length co48] (fun k_ => some k_ ≠ (.slice (some ad618) x3_1.length co8 : Value).ownBlock) (fun k_ => some k_ = (.slice Ao48 y622.length co48 : Value).ownBlock) rfl rfl ?aP (fun k_ hk_ => ((Kd.R_mono (ok' := fun k_ => ((fun k_ => some k_ ≠ (.slice (some ad618) x3_1.length co8 : Value).ownBlock)) k_ ∧ some k_ ≠ (u5 : Value).ownBlock) (Kd.R_apart' (Kd.R_apart' (HO624.out) (Kd.S_typed HO_3.out) (by decide)) (Kd.S_typed HO_5.out) (by decide)) (fun k_ hk => ⟨hk.1.2, hk.2⟩))).1 k_ hk_.symm) ?aF ?aO ?aB ?aS ?aL ?_; (case aP => exact Kd.M_row (Kd.R_mono (Kd.R_tight rfl (Kd.R_mono (ok' := fun k_ => ((fun k_ => some k_ ≠ (.slice (some ad618) x3_1.length co8 : Value).ownBlock)) k_ ∧ some k_ ≠ (u5 : Value).ownBlock) (Kd.R_apart' (Kd.R_apart' (HO624.out) (Kd.S_typed HO_3.out) (by decide)) (Kd.S_typed HO_5.out) (by decide)) (fun k_ hk => ⟨hk.1.2, hk.2⟩))) (fun _ h_ => h_))); (case aB => exact (by exact below_y HB.out)); (case aF => exact (fun k_ hk => Kd.fresh' (Kd.S_lt (Kd.S_x HO_3.out)) k_ hk)); (case aO => exact (by (with_reducible repeat (first | apply Kd.S_alloc | apply Kd.S_drewN | apply Kd.S_drew)); exact Kd.S_mono HO_5.out (fun k_ hk => ⟨hk.1, fun e_ => hk.2 e_⟩))); (case aS => exact (below_size (by exact below_y HB.out))); (case aL => have := LMc24.out; omega); intro v626 w47 ho hb hg hat; rw [← Ny625.out] at ho; replace HO_3 := Aside0.mk (Kd.S_after (ok := (fun k_ => some k_ ≠ (.slice Ao48 y622.length co48 : Value).ownBlock)) (by (with_reducible repeat (first | apply Kd.S_alloc | apply Kd.S_drewN | apply Kd.S_drew)); exact Kd.S_mono HO_3.out (fun _ hk => ⟨hk.2, hk.1⟩)) hg hat); replace BK606 := Aside0.mk (blk_grown (blk_x BK606.out) hg (Kd.S_ne HO_5.out BK606.out (by decide))); replace HL618_0 := Aside0.mk (Kd.R_after (ok := (fun k_ => some k_ ≠ (.slice (some ad618) x3_1.length co8 : Value).ownBlock ∧ some k_ ≠ (.slice Ao48 y622.length co48 : Value).ownBlock)) (by (with_reducible repeat (first | apply Kd.R_alloc | apply Kd.R_drewN | apply Kd.R_drew)); exact Kd.R_mono HL618_0.out (fun _ hk => ⟨⟨hk.1.1, hk.2⟩, hk.1.2⟩)) hg hat); replace HB := Aside0.mk (hb); have HO627 := Aside0.mk (ho); clear HO_5 HO624; clear ho hb hg hat))
                  go_roundg k3
                  case measure => have := HK1.out; have := HK2.out; have := HK3.out; omega
                  case rel => exact ⟨(y625), (wrap64 (x6_2 + 1)), (by first | rfl | (simp; done) | (simp [*]; done)), H', ⟨by have := HK1.out; have := HK2.out; have := HK3.out; omega⟩, ⟨by (with_reducible repeat (first | apply Kd.S_alloc | apply Kd.S_drewN | apply Kd.S_drew)); exact Kd.S_mono HO_3.out (fun _ hk => hk.2)⟩, ⟨by (with_reducible repeat (first | apply Kd.S_alloc | apply Kd.S_drewN | apply Kd.S_drew)); exact HO627.out⟩, ⟨blk_x BK606.out⟩, ⟨by exact below_y HB.out⟩⟩
                ·
                 rw [if_neg c24] at H
                 exact absurd H (by simp)
               ·
                rw [if_neg c23] at H
                exact absurd H (by simp)
              ·
               rw [if_neg c22] at H
               exact absurd H (by simp)
             ·
              rw [if_neg c21] at H
              exact absurd H (by simp)
            ·
             rw [if_neg c20] at H
             exact absurd H (by simp)
          ·
           rw [if_neg c10] at H
           exact absurd H (by simp)
         ·
          rw [if_neg c9] at H
          exact absurd H (by simp)
      ·
       rw [if_neg c7] at H
       have c7b0 : decide (x6_2 < (x3_1.length : Int)) = false := decide_eq_false c7
       clear c7
       have H' := Aside0.mk H
       clear H
       obtain ⟨Ao49, co49, eo49⟩ := Kd.S_slice HO_3.out
       subst eo49
       go_wp2
       go_roundg k2
       case measure => have := HK1.out; have := HK2.out; omega
       case rel => exact ⟨(x5_2), (wrap64 (x4_1 + 1)), (by first | rfl | (simp; done) | (simp [*]; done)), H', ⟨by have := HK1.out; have := HK2.out; omega⟩, ⟨by (with_reducible repeat (first | apply Kd.S_alloc | apply Kd.S_drewN | apply Kd.S_drew)); exact Kd.S_mono HO_5.out (fun _ hk => trivial)⟩, ⟨blk_x BK606.out⟩, ⟨by exact below_y HB.out⟩⟩
   ·
    rw [if_neg c5] at H
    have c5b0 : decide (x4_1 < (l0_0.length : Int)) = false := decide_eq_false c5
    clear c5
    obtain rfl := Option.some.inj H
    obtain ⟨_, _, _, _, _⟩ := cz5 BK606
    have hfz50_0 := blk_frozen BK606.out
    go_wp2
    go_ret
    exact ⟨_, by first | rfl | (simp [errW_none, errW_some] <;> rfl) | (simp [*, errW_none, errW_some] <;> rfl), by (with_reducible repeat (first | apply Kd.S_alloc | apply Kd.S_drewN | apply Kd.S_drew)); exact HO_3.out, by exact below_y HB.out⟩
def swarfref04_Truths.l0 : Nat → List (List Bool) → List (List Bool) → Int → List (S50) → Int → List (S61) → Int → List Int → Option ((List (List Bool)))
 | 0, _, _, _, _, _, _, _, _ => none
 | k + 1, x3, x4, x5, x642000, x642001, x642002, x642003, x642004 => if x5 < (x4.length : Int) then (if 0 ≤ x5 then ((swarfref04_Wrongs.f k x642000 x642001 x642002 x642003 x642004 (rd_L5 x4 x5)).bind fun t646 => (if t646 ≤ x642003 then (if x3.length < 5864062014805 then (swarfref04_Truths.l0 k (x3 ++ [rd_L5 x4 x5]) x4 (wrap64 (x5 + 1)) x642000 x642001 x642002 x642003 x642004) else (none)) else (swarfref04_Truths.l0 k x3 x4 (wrap64 (x5 + 1)) x642000 x642001 x642002 x642003 x642004))) else (none)) else (some x3)
def swarfref04_Truths.f (k : Nat) (l0_0 : List (S50)) (a0_1 : Int) (l0_2 : List (S61)) (a0_3 : Int) (l0_4 : List Int) : Option ((List (List Bool))) := (swarfref04_States.f k l0_0 a0_1 l0_2 a0_3 l0_4).bind fun t642 => (swarfref04_Truths.l0 k ([] : List (List Bool)) t642 0 l0_0 a0_1 l0_2 a0_3 l0_4)
def swarfref04_Truths.T6 : Bool × List (List Nat × List Nat) := (true, [([], []), ([], []), ([], []), ([1, 2], [1, 2]), ([3], [3]), ([0, 4], [0, 4]), ([], []), ([6], [6]), ([5, 7], [5, 7])])
def swarfref04_Truths.B6 : List Nat := [0, 0, 0, 6, 14, 31, 0, 64, 255]
theorem swarfref04_Truths.tab6 : rtab .any (opsOf Try.f48 6) = swarfref04_Truths.T6 := by kernel_rfl
theorem swarfref04_Truths.bits6 : waitsOk swarfref04_Truths.T6.2 swarfref04_Truths.B6 = true := by kernel_rfl
set_option maxHeartbeats 8000000 in
set_option maxRecDepth 100000 in
theorem swarfref04_Truths.calls (k : Nat) (A0_0 : Option Addr) (c0_0 : Nat) (l0_0 : List (S50)) (a0_1 : Int) (A0_2 : Option Addr) (c0_2 : Nat) (l0_2 : List (S61)) (a0_3 : Int) (A0_4 : Option Addr) (c0_4 : Nat) (l0_4 : List Int) (r : List (List Bool)) (w : World) (hr0_0 : Kd.C k50 w A0_0 l0_0.length l0_0) (hc0_0 : l0_0.length ≤ c0_0) (hr0_2 : Kd.C k61 w A0_2 l0_2.length l0_2) (hc0_2 : l0_2.length ≤ c0_2) (hr0_4 : Kd.C (Kd.int .i64) w A0_4 l0_4.length l0_4) (hc0_4 : l0_4.length ≤ c0_4) (h : swarfref04_Truths.f k l0_0 a0_1 l0_2 a0_3 l0_4 = some r) :
  Calls Try.prog 48 #[.agg #[.slice A0_0 l0_0.length c0_0, .int .i64 a0_1, .slice A0_2 l0_2.length c0_2, .int .i64 a0_3, .slice A0_4 l0_4.length c0_4]] w fun e w' => ∃ v0_ : Value, e = .returned (v0_) ∧ Kd.N (Kd.slice 4 Kd.bool) 31 w' w.heap.size (fun k_ => (w.heap.size ≤ k_)) v0_ r ∧ Below w.heap.size w w' := by
 have hu26 := Try.underlying26
 have HR0_0 := Aside0.mk hr0_0
 have HC0_0 := Aside0.mk hc0_0
 clear hr0_0 hc0_0
 have HR0_2 := Aside0.mk hr0_2
 have HC0_2 := Aside0.mk hc0_2
 clear hr0_2 hc0_2
 have HR0_4 := Aside0.mk hr0_4
 have HC0_4 := Aside0.mk hc0_4
 clear hr0_4 hc0_4
 have HB := Aside0.mk (Below.refl w.heap.size w)
 have H : ((swarfref04_States.f k l0_0 a0_1 l0_2 a0_3 l0_4).bind fun t642 => (swarfref04_Truths.l0 k ([] : List (List Bool)) t642 0 l0_0 a0_1 l0_2 a0_3 l0_4)) = some r := h
 clear h
 replace H := Option.bind_eq_some_iff.mp H
 obtain ⟨t642, A20, H⟩ := H
 try dsimp only at H
 have A2 := Aside0.mk A20
 clear A20
 have H' := Aside0.mk H
 clear H
 go_enter Try.func48, Try.ntmps48
 go_wp2_with (first | ((with_reducible refine gate_dst (N := 1) rfl ?_); refine box_event ?hg (N := 1) ?hd (cs := #[.slice A0_0 l0_0.length c0_0, .int .i64 a0_1, .slice A0_2 l0_2.length c0_2, .int .i64 a0_3, .slice A0_4 l0_4.length c0_4]) (t := 26) ?hr ?_; (case hd => rfl); (case hg => rfl); (case hr => first | (go_simp; done) | (go_simp; rfl)); intro gb641 hg w3 hbox hb; have BK641 := Aside0.mk (hbox); have GW641 := Aside0.mk ((by rw [hg]; exact (below_size (below_x HB.out)) : w.heap.size ≤ gb641)); have GE641 := Aside0.mk ((by rw [hg]; exact (below_size (below_x HB.out)) : w.heap.size ≤ gb641)); replace HB := Aside0.mk (below_step (below_x HB.out) hb); clear hb hbox hg; obtain ⟨_, _, _, _, _⟩ := cz5 BK641; have hfz4_0 := blk_frozen BK641.out) | ((with_reducible refine gate_callee (f := 71) rfl ?_); refine goesL_ (some 7) rfl rfl Try.func71 (by kernel_rfl) rfl #[.agg #[.slice A0_0 l0_0.length c0_0, .int .i64 a0_1, .slice A0_2 l0_2.length c0_2, .int .i64 a0_3, .slice A0_4 l0_4.length c0_4]] rfl (by (try simp only [List.map_toArray, List.map_cons, List.map_nil]); first | done | rfl | (simp only [List.length_drop, List.length_take]; rfl)) ?_; (with_reducible refine (swarfref04_States.calls k _ _ l0_0 a0_1 _ _ l0_2 a0_3 _ _ l0_4 t642 _ ?side1 ?side2 ?side3 ?side4 ?side5 ?side6 A2.out).mono ?_); (case side1 => exact Kd.C_x HR0_0.out HB.out); (case side2 => exact HC0_0.out); (case side3 => exact Kd.C_x HR0_2.out HB.out); (case side4 => exact HC0_2.out); (case side5 => exact Kd.C_x HR0_4.out HB.out); (case side6 => exact HC0_4.out); rintro e w5 ⟨v643, rfl, ho0, hb⟩; refine ⟨_, rfl, ?_⟩; have HO644 := Aside0.mk (Kd.N_lower (Kd.N_mono (ok' := fun k_ => (w.heap.size ≤ k_) ∧ k_ ≠ gb641) (Kd.S_N (Kd.S_bound ho0)) (fun k_ hk_ => ⟨(Nat.le_trans (below_size (by exact below_y HB.out)) hk_.2.1), (Kd.freshB (g := gb641) (o := .cells #[.slice A0_0 l0_0.length c0_0, .int .i64 a0_1, .slice A0_2 l0_2.length c0_2, .int .i64 a0_3, .slice A0_4 l0_4.length c0_4] 26 (0, 0)) (blk_x BK641.out) k_ hk_.2.1)⟩)) (below_size (by exact below_y HB.out))); replace BK641 := Aside0.mk (blk_below (blk_x BK641.out) hb); replace HB := bl_x HB hb; (try clear hb); (try clear hk); (try clear hi); (try clear ho0)))
 go_loopg [3, 5] k (fun kq v3 v5 w' => ∃ (x3_1 : List (List Bool)) (x5_1 : Int), v5 = .int .i64 x5_1 ∧ Aside0 (swarfref04_Truths.l0 kq x3_1 t642 x5_1 l0_0 a0_1 l0_2 a0_3 l0_4 = some r) ∧ Aside0 (kq ≤ k) ∧ Aside0 (Kd.N (Kd.slice 4 Kd.bool) 31 w' w.heap.size (fun k_ => (w.heap.size ≤ k_) ∧ some k_ ≠ (v643 : Value).ownBlock ∧ k_ ≠ gb641) v3 x3_1) ∧ Aside0 (Kd.N (Kd.slice 4 Kd.bool) 31 w' w.heap.size (fun k_ => (w.heap.size ≤ k_) ∧ some k_ ≠ (v3 : Value).ownBlock ∧ k_ ≠ gb641) v643 t642) ∧ Aside0 (w'.heap[gb641]? = some (.cells #[(.slice A0_0 l0_0.length c0_0), .int .i64 a0_1, (.slice A0_2 l0_2.length c0_2), .int .i64 a0_3, (.slice A0_4 l0_4.length c0_4)] 26 (0, 0))) ∧ Aside0 (Below w.heap.size w w'))
 case atStart => exact ⟨(([] : List (List Bool))), (0), (by first | rfl | (simp; done) | (simp [*]; done)), H', ⟨Nat.le_refl _⟩, ⟨by first | exact Kd.S_nil _ _ _ _ _ | exact Kd.N_nil _ _ _ _ _ | exact Kd.V_nil _ _ _ _ _ | exact Kd.Q_nil _ _ _ _ _ | exact Kd.R_nil _ _ _ _ _⟩, ⟨by (with_reducible repeat (first | apply Kd.N_alloc | apply Kd.N_drewN | apply Kd.N_drew)); exact Kd.N_mono HO644.out (fun _ hk => ⟨hk.1, ⟨(by simp [Value.ownBlock]), hk.2⟩⟩)⟩, ⟨blk_x BK641.out⟩, ⟨by exact below_y HB.out⟩⟩
 case round =>
  clear H'
  try clear HO_3
  try clear HO_4
  try clear BK641
  try clear HB
  obtain ⟨x3_1, x5_1, rfl, HA, HK1, HO_3, HO_4, BK641, HB⟩ := hrel
  cases gk with
  | zero => exact absurd HA.out (by simp [swarfref04_Truths.l0])
  | succ k1 =>
   have H := HA.out
   clear HA
   simp only [swarfref04_Truths.l0] at H
   by_cases c6 : x5_1 < (t642.length : Int)
   ·
    rw [if_pos c6] at H
    have c6b0 : decide (x5_1 < (t642.length : Int)) = true := decide_eq_true c6
    clear c6
    by_cases c7 : 0 ≤ x5_1
    ·
     rw [if_pos c7] at H
     have c7b0 : decide (0 ≤ x5_1) = true := decide_eq_true c7
     clear c7
     replace H := Option.bind_eq_some_iff.mp H
     obtain ⟨t646, A80, H⟩ := H
     try dsimp only at H
     have A8 := Aside0.mk A80
     clear A80
     by_cases c9 : t646 ≤ a0_3
     ·
      rw [if_pos c9] at H
      have c9b0 : decide (t646 ≤ a0_3) = true := decide_eq_true c9
      clear c9
      by_cases c10 : x3_1.length < 5864062014805
      ·
       rw [if_pos c10] at H
       have LMc10 := Aside0.mk c10
       clear c10
       obtain ⟨y648, hy648⟩ : ∃ y_ : List (List Bool), y_ = (x3_1 ++ [rd_L5 t642 x5_1]) := ⟨_, rfl⟩
       replace H : (swarfref04_Truths.l0 k1 y648 t642 (wrap64 (x5_1 + 1)) l0_0 a0_1 l0_2 a0_3 l0_4) = some r := by first | (rw [hy648]; with_reducible exact H) | (have H2_ := (Option.bind_some _ _).symm.trans H; rw [hy648]; with_reducible exact H2_) | (have H2_ := (Option.bind_some _ _).symm.trans H; with_reducible exact H2_) | with_reducible exact H | (rw [hy648]; exact H) | exact H
       have Ny648 := Aside0.mk hy648
       clear hy648
       have H' := Aside0.mk H
       clear H
       obtain ⟨Ao11, co11, eo11⟩ := Kd.N_slice HO_4.out
       subst eo11
       try go_wp2
       replace HO_3 := Aside0.mk (Kd.N_drew HO_3.out)
       replace HO_4 := Aside0.mk (Kd.N_drew HO_4.out)
       replace BK641 := Aside0.mk (blk_drew BK641.out)
       replace HB := Aside0.mk (below_drew1 HB.out)
       have p645 : 0 ≤ (x5_1 : Int) := of_x
       have q645 : x5_1 < (t642.length : Int) := of_x
       obtain ⟨ad645, A645_0, c645_0, e645, hx645_0, hl645_0, hi645_0⟩ := at_L5 (Kd.N_reads' HO_4.out).2.2 x5_1 p645 q645
       cases e645
       obtain ⟨ce645, hce645, hMe645, hcc645⟩ := Kd.N_get HO_4.out [] x5_1 p645 (by first | exact q645 | exact of_x | (have e_ := (Kd.N_reads' HO_4.out).1; omega))
       obtain ⟨ua645_0, uc645_0, rfl, ul645_0, ge645_0⟩ := Kd.FK_slice_open hMe645
       have hv645_0 := hcc645 0 _ rfl
       rw [Nat.add_zero, show ((Kd.slice 4 Kd.bool)).sz = 1 from rfl, Nat.mul_one] at hv645_0
       replace hv645_0 := Option.some.inj (hv645_0.symm.trans hx645_0)
       injection hv645_0 with hva_ hvn_ hvc_
       rw [hva_] at ge645_0
       rw [hvc_] at ul645_0
       have HL645_0 := Aside0.mk (show Kd.V Kd.bool 4 _ w.heap.size _ _ (rd_L5 t642 x5_1) from Kd.V_mk ul645_0 ge645_0)
       clear hva_ hvn_ hvc_ ge645_0 ul645_0 hcc645 hce645
       have HR645_0 := Aside0.mk hi645_0
       have HC645_0 := Aside0.mk hl645_0
       clear hi645_0 hl645_0
       replace p645 := eq_true p645
       replace q645 := eq_true q645
       refine start_ (n := 9) (S := fun w' => w'.cell? ⟨gb641, 0, none⟩ = some (.slice A0_0 l0_0.length c0_0) ∧ w'.cell? ⟨gb641, 1, none⟩ = some (.int .i64 a0_1) ∧ w'.cell? ⟨gb641, 2, none⟩ = some (.slice A0_2 l0_2.length c0_2) ∧ w'.cell? ⟨gb641, 3, none⟩ = some (.int .i64 a0_3) ∧ w'.cell? ⟨gb641, 4, none⟩ = some (.slice A0_4 l0_4.length c0_4) ∧ w'.cell? (ad645.add (x5_1).toNat) = some (.slice A645_0 (rd_L5 t642 x5_1).length c645_0)) (ds := []) #[false, false, false, false, false, false, false, false, false] (by kernel_rfl) rfl rfl ⟨(blk_cell BK641.out 0).trans rfl, (blk_cell BK641.out 1).trans rfl, (blk_cell BK641.out 2).trans rfl, (blk_cell BK641.out 3).trans rfl, (blk_cell BK641.out 4).trans rfl, hx645_0⟩ (fun hHeld => ?_); refine with_tabW swarfref04_Truths.tab6 swarfref04_Truths.bits6 (fun HT_ HW_ => ?_)
       generalize wr.drew = w12 at HO_3 HO_4 BK641 HB HL645_0 HR645_0 hx645_0 hHeld ⊢
       refine pure_ (i := 1) (N := some 15) (v := ?_) (a' := ?_) (bz 9 2) rfl rfl (any_of HT_.out (by kernel_rfl)) (fun _ _ _ h => h) (Or.inl ⟨by rfl, ?_⟩) ?_ ?_
       rotate_left
       ·
        intro w'
        go_simp
        with_reducible rfl
       rotate_left
       ·
        simp only [Act.put, put_x, i64_w, i32_w]
        rfl
       refine pure_ (i := 2) (N := some 16) (v := ?_) (a' := ?_) (bz 9 6) rfl rfl (any_of HT_.out (by kernel_rfl)) (fun _ _ _ h => h) (Or.inl ⟨by rfl, ?_⟩) ?_ ?_
       rotate_left
       ·
        intro w'
        go_simp
        with_reducible rfl
       rotate_left
       ·
        simp only [Act.put, put_x, i64_w, i32_w]
        rfl
       refine pure_ (i := 3) (N := some 17) (v := ?_) (a' := ?_) (bz 9 14) rfl rfl (any_of HT_.out (by kernel_rfl)) (fun _ _ _ h => h) (Or.inl ⟨by rfl, ?_⟩) ?_ ?_
       rotate_left
       ·
        intro w'
        go_simp
        with_reducible rfl
       rotate_left
       ·
        simp only [Act.put, put_x, i64_w, i32_w]
        rfl
       refine pure_ (i := 6) (N := some 20) (v := ?_) (a' := ?_) (bz 9 78) rfl rfl (any_of HT_.out (by kernel_rfl)) (fun _ _ _ h => h) (Or.inl ⟨by rfl, ?_⟩) ?_ ?_
       rotate_left
       ·
        intro w'
        go_simp
        with_reducible rfl
       rotate_left
       ·
        simp only [Act.put, put_x, i64_w, i32_w]
        rfl
       refine take_ (i := 0) (N := some 14) (v := ?_) (a' := ?_) (bz 9 79) rfl rfl (take_ofW HT_.out HW_.out (by kernel_rfl)) (fun _ _ _ h => h) (Or.inl ⟨by rfl, ?_⟩) hHeld ?_ ?_
       rotate_left
       ·
        rintro w' ⟨s0, s1, s2, s3, s4, s5⟩
        go_simp
        with_reducible rfl
       rotate_left
       ·
        simp only [Act.put, put_x, i64_w, i32_w]
        rfl
       refine take_ (i := 4) (N := some 18) (v := ?_) (a' := ?_) (bz 9 95) rfl rfl (take_ofW HT_.out HW_.out (by kernel_rfl)) (fun _ _ _ h => h) (Or.inl ⟨by rfl, ?_⟩) hHeld ?_ ?_
       rotate_left
       ·
        rintro w' ⟨s0, s1, s2, s3, s4, s5⟩
        go_simp
        with_reducible rfl
       rotate_left
       ·
        simp only [Act.put, put_x, i64_w, i32_w]
        rfl
       refine take_ (i := 7) (N := some 21) (v := ?_) (a' := ?_) (bz 9 223) rfl rfl (take_ofW HT_.out HW_.out (by kernel_rfl)) (fun _ _ _ h => h) (Or.inl ⟨by rfl, ?_⟩) hHeld ?_ ?_
       rotate_left
       ·
        rintro w' ⟨s0, s1, s2, s3, s4, s5⟩
        go_simp
        with_reducible rfl
       rotate_left
       ·
        simp only [Act.put, put_x, i64_w, i32_w]
        rfl
       refine one_ (i := 5) (N := some 19) (bz 9 255) rfl rfl (one_of HT_.out (by kernel_rfl)) (by decide) (fun K hK => ?_)
       refine goes_ Try.func28 (by kernel_rfl) rfl #[.agg #[.slice A0_0 l0_0.length c0_0, .int .i64 a0_1, .slice A0_2 l0_2.length c0_2, .int .i64 a0_3, .slice A0_4 l0_4.length c0_4], .slice A645_0 (rd_L5 t642 x5_1).length c645_0] (by rfl) rfl rfl (by (try simp only [List.map_toArray, List.map_cons, List.map_nil]); first | done | rfl | (simp only [List.length_drop, List.length_take]; rfl)) ?_
       with_reducible refine (swarfref04_Wrongs.calls k1 _ _ l0_0 a0_1 _ _ l0_2 a0_3 _ _ l0_4 _ _ (rd_L5 t642 x5_1) t646 _ ?side1 ?side2 ?side3 ?side4 ?side5 ?side6 ?side7 ?side8 A8.out).mono ?_
       (case side1 => exact Kd.C_x HR0_0.out HB.out)
       (case side2 => exact HC0_0.out)
       (case side3 => exact Kd.C_x HR0_2.out HB.out)
       (case side4 => exact HC0_2.out)
       (case side5 => exact Kd.C_x HR0_4.out HB.out)
       (case side6 => exact HC0_4.out)
       (case side7 => repeat (first | exact (by repeat (first | (with_reducible exact HR645_0.out) | (with_reducible refine Kd.C_alloc ?_ _) | (with_reducible refine Kd.C_drewN ?_ _) | (with_reducible refine Kd.C_drew ?_) | exact HR645_0.out)) | (with_reducible refine Kd.C_alloc ?_ _) | (with_reducible refine Kd.C_drewN ?_ _) | (with_reducible refine Kd.C_drew ?_)))
       (case side8 => exact HC645_0.out)
       rintro e w13 ⟨rfl, hb⟩
       have HS5_ := (hb.cell (World.block_lt_of_cell? _ _ (hHeld.2.2.2.2.2))).trans (hHeld.2.2.2.2.2)
       refine ⟨_, rfl, ?_⟩
       replace HO_3 := Aside0.mk (Kd.N_below (Kd.N_x HO_3.out) hb)
       replace HO_4 := Aside0.mk (Kd.N_below (Kd.N_x HO_4.out) hb)
       replace HL645_0 := Aside0.mk (Kd.V_below (Kd.V_x HL645_0.out) hb)
       replace BK641 := Aside0.mk (blk_below (blk_x BK641.out) hb)
       replace HR645_0 := Aside0.mk (Kd.C_below (by repeat (first | (with_reducible exact HR645_0.out) | (with_reducible refine Kd.C_alloc ?_ _) | (with_reducible refine Kd.C_drewN ?_ _) | (with_reducible refine Kd.C_drew ?_) | exact HR645_0.out)) hb)
       replace HB := bl_x HB hb
       (try clear hb)
       (try clear hb2)
       (try clear hk)
       (try clear hi)
       refine hK.out _ _ ⟨(blk_cell BK641.out 0).trans rfl, (blk_cell BK641.out 1).trans rfl, (blk_cell BK641.out 2).trans rfl, (blk_cell BK641.out 3).trans rfl, (blk_cell BK641.out 4).trans rfl, HS5_⟩ (fun hHeld => ?_)
       clear hK K
       refine norm_ (a' := ?_) ?_ ?_
       rotate_left
       ·
        show Act.put _ (some 19) _ = _
        simp only [Act.put, put_x, i64_w, i32_w]
        rfl
       refine pure_ (i := 8) (N := some 22) (v := ?_) (a' := ?_) (bz 9 511) rfl rfl (any_of HT_.out (by kernel_rfl)) (fun _ _ _ h => h) (Or.inl ⟨by rfl, ?_⟩) ?_ ?_
       rotate_left
       ·
        intro w'
        go_simp
        with_reducible rfl
       rotate_left
       ·
        simp only [Act.put, put_x, i64_w, i32_w]
        rfl
       refine done_ (done_of HT_.out (by kernel_rfl)) ?_
       have p647 : 0 ≤ (x5_1 : Int) := of_x
       have q647 : x5_1 < (t642.length : Int) := of_x
       obtain ⟨ad647, A647_0, c647_0, e647, hx647_0, hl647_0, hi647_0⟩ := at_L5 (Kd.N_reads' HO_4.out).2.2 x5_1 p647 q647
       obtain rfl : ad645 = ad647 := (by injection e647)
       try (obtain ⟨rfl, rfl⟩ : A647_0 = A645_0 ∧ c647_0 = c645_0 := by have h_ := Option.some.inj (hx647_0.symm.trans (show _ = some (Value.slice A645_0 _ c645_0) by assumption)); injection h_ with h1_ _ h3_; exact ⟨h1_, h3_⟩)
       obtain ⟨ce647, hce647, hMe647, hcc647⟩ := Kd.N_get HO_4.out [] x5_1 p647 (by first | exact q647 | exact of_x | (have e_ := (Kd.N_reads' HO_4.out).1; omega))
       obtain ⟨ua647_0, uc647_0, rfl, ul647_0, ge647_0⟩ := Kd.FK_slice_open hMe647
       have hv647_0 := hcc647 0 _ rfl
       rw [Nat.add_zero, show ((Kd.slice 4 Kd.bool)).sz = 1 from rfl, Nat.mul_one] at hv647_0
       replace hv647_0 := Option.some.inj (hv647_0.symm.trans hx647_0)
       injection hv647_0 with hva_ hvn_ hvc_
       rw [hva_] at ge647_0
       rw [hvc_] at ul647_0
       have HL647_0 := Aside0.mk (show Kd.V Kd.bool 4 _ w.heap.size _ _ (rd_L5 t642 x5_1) from Kd.V_mk ul647_0 ge647_0)
       clear hva_ hvn_ hvc_ ge647_0 ul647_0 hcc647 hce647
       have HR647_0 := Aside0.mk hi647_0
       have HC647_0 := Aside0.mk hl647_0
       clear hi647_0 hl647_0
       replace p647 := eq_true p647
       replace q647 := eq_true q647
       try go_wp2_with (first | ((with_reducible refine gate_builtin (b := .append) (xs := #[.tmp 23, .tmp 28]) rfl ?_); at_builtin; refine Kd.N_append (Kd.slice 4 Kd.bool) (w0 := w) w.heap.size rfl (.tmp 23) (.tmp 28) 70 31 (.slice none 0 0) 24 rfl Try.underlying70 info31 rfl (by decide) (by omega) u3 x3_1 (rd_L5 t642 x5_1) [.slice A647_0 (rd_L5 t642 x5_1).length c647_0] (fun k_ => (w.heap.size ≤ k_) ∧ some k_ ≠ (.slice (some ad645) t642.length co11 : Value).ownBlock ∧ k_ ≠ gb641) (fun k_ => ((fun k_ => (w.heap.size ≤ k_) ∧ some k_ ≠ (.slice (some ad645) t642.length co11 : Value).ownBlock ∧ k_ ≠ gb641)) k_ ∧ some k_ ≠ (u3 : Value).ownBlock) rfl rfl ?aP (fun _ hk => hk) ?aF ?aO ?aB ?aS ?aL ?_; (case aP => exact (Kd.FK_slice_mk (Kd.V_reads' (Kd.V_mono (ok' := (fun k_ => ((fun k_ => (w.heap.size ≤ k_) ∧ some k_ ≠ (.slice (some ad645) t642.length co11 : Value).ownBlock ∧ k_ ≠ gb641)) k_ ∧ some k_ ≠ (u3 : Value).ownBlock)) (HL647_0.out) (fun k_ hk => ⟨⟨hk.1.1, ⟨hk.2, hk.1.2.2⟩⟩, hk.1.2.1⟩))).2.1 (Kd.V_F (Kd.V_mono (ok' := (fun k_ => ((fun k_ => (w.heap.size ≤ k_) ∧ some k_ ≠ (.slice (some ad645) t642.length co11 : Value).ownBlock ∧ k_ ≠ gb641)) k_ ∧ some k_ ≠ (u3 : Value).ownBlock)) (HL647_0.out) (fun k_ hk => ⟨⟨hk.1.1, ⟨hk.2, hk.1.2.2⟩⟩, hk.1.2.1⟩))))); (case aB => exact (by exact below_y HB.out)); (case aF => exact (fun k_ hk => ⟨(Nat.le_trans (below_size (by exact below_y HB.out)) hk), Kd.fresh' (Kd.N_lt (Kd.N_x HO_4.out)) k_ hk, Kd.freshB (g := gb641) (o := .cells #[.slice A0_0 l0_0.length c0_0, .int .i64 a0_1, .slice A0_2 l0_2.length c0_2, .int .i64 a0_3, .slice A0_4 l0_4.length c0_4] 26 (0, 0)) (blk_x BK641.out) k_ hk⟩)); (case aO => exact (Kd.N_x HO_3.out)); (case aS => exact (below_size (by exact below_y HB.out))); (case aL => have := LMc10.out; omega); intro v649 w14 ho hb hg hat; rw [← Ny648.out] at ho; replace HO_4 := Aside0.mk (Kd.N_afterv (ok := (fun k_ => (w.heap.size ≤ k_) ∧ k_ ≠ gb641)) (by (with_reducible repeat (first | apply Kd.N_alloc | apply Kd.N_drewN | apply Kd.N_drew)); exact Kd.N_mono HO_4.out (fun _ hk => ⟨⟨hk.1, hk.2.2⟩, hk.2.1⟩)) hg hat); replace BK641 := Aside0.mk (blk_grown (blk_x BK641.out) hg (Kd.N_ne HO_3.out BK641.out (by decide))); replace HL645_0 := Aside0.mk (Kd.V_afterv (ok := (fun k_ => (w.heap.size ≤ k_) ∧ some k_ ≠ (.slice (some ad645) t642.length co11 : Value).ownBlock ∧ k_ ≠ gb641)) (by (with_reducible repeat (first | apply Kd.V_alloc | apply Kd.V_drewN | apply Kd.V_drew)); exact Kd.V_mono HL645_0.out (fun _ hk => ⟨⟨hk.1.1, ⟨hk.2, hk.1.2.2⟩⟩, hk.1.2.1⟩)) hg hat); replace HL647_0 := Aside0.mk (Kd.V_afterv (ok := (fun k_ => (w.heap.size ≤ k_) ∧ some k_ ≠ (.slice (some ad645) t642.length co11 : Value).ownBlock ∧ k_ ≠ gb641)) (by (with_reducible repeat (first | apply Kd.V_alloc | apply Kd.V_drewN | apply Kd.V_drew)); exact Kd.V_mono HL647_0.out (fun _ hk => ⟨⟨hk.1.1, ⟨hk.2, hk.1.2.2⟩⟩, hk.1.2.1⟩)) hg hat); replace HB := Aside0.mk (hb); have HO650 := Aside0.mk (ho); clear HO_3; clear ho hb hg hat))
       go_roundg k1
       case measure => have := HK1.out; omega
       case rel => exact ⟨(y648), (wrap64 (x5_1 + 1)), (by first | rfl | (simp; done) | (simp [*]; done)), H', ⟨by have := HK1.out; omega⟩, ⟨by (with_reducible repeat (first | apply Kd.N_alloc | apply Kd.N_drewN | apply Kd.N_drew)); exact HO650.out⟩, ⟨by (with_reducible repeat (first | apply Kd.N_alloc | apply Kd.N_drewN | apply Kd.N_drew)); exact Kd.N_mono HO_4.out (fun _ hk => ⟨hk.1.1, ⟨hk.2, hk.1.2⟩⟩)⟩, ⟨blk_x BK641.out⟩, ⟨by exact below_y HB.out⟩⟩
      ·
       rw [if_neg c10] at H
       exact absurd H (by simp)
     ·
      rw [if_neg c9] at H
      have c9b0 : decide (t646 ≤ a0_3) = false := decide_eq_false c9
      clear c9
      have H' := Aside0.mk H
      clear H
      obtain ⟨Ao15, co15, eo15⟩ := Kd.N_slice HO_4.out
      subst eo15
      try go_wp2
      replace HO_3 := Aside0.mk (Kd.N_drew HO_3.out)
      replace HO_4 := Aside0.mk (Kd.N_drew HO_4.out)
      replace BK641 := Aside0.mk (blk_drew BK641.out)
      replace HB := Aside0.mk (below_drew1 HB.out)
      have p645 : 0 ≤ (x5_1 : Int) := of_x
      have q645 : x5_1 < (t642.length : Int) := of_x
      obtain ⟨ad645, A645_0, c645_0, e645, hx645_0, hl645_0, hi645_0⟩ := at_L5 (Kd.N_reads' HO_4.out).2.2 x5_1 p645 q645
      cases e645
      obtain ⟨ce645, hce645, hMe645, hcc645⟩ := Kd.N_get HO_4.out [] x5_1 p645 (by first | exact q645 | exact of_x | (have e_ := (Kd.N_reads' HO_4.out).1; omega))
      obtain ⟨ua645_0, uc645_0, rfl, ul645_0, ge645_0⟩ := Kd.FK_slice_open hMe645
      have hv645_0 := hcc645 0 _ rfl
      rw [Nat.add_zero, show ((Kd.slice 4 Kd.bool)).sz = 1 from rfl, Nat.mul_one] at hv645_0
      replace hv645_0 := Option.some.inj (hv645_0.symm.trans hx645_0)
      injection hv645_0 with hva_ hvn_ hvc_
      rw [hva_] at ge645_0
      rw [hvc_] at ul645_0
      have HL645_0 := Aside0.mk (show Kd.V Kd.bool 4 _ w.heap.size _ _ (rd_L5 t642 x5_1) from Kd.V_mk ul645_0 ge645_0)
      clear hva_ hvn_ hvc_ ge645_0 ul645_0 hcc645 hce645
      have HR645_0 := Aside0.mk hi645_0
      have HC645_0 := Aside0.mk hl645_0
      clear hi645_0 hl645_0
      replace p645 := eq_true p645
      replace q645 := eq_true q645
      refine start_ (n := 9) (S := fun w' => w'.cell? ⟨gb641, 0, none⟩ = some (.slice A0_0 l0_0.length c0_0) ∧ w'.cell? ⟨gb641, 1, none⟩ = some (.int .i64 a0_1) ∧ w'.cell? ⟨gb641, 2, none⟩ = some (.slice A0_2 l0_2.length c0_2) ∧ w'.cell? ⟨gb641, 3, none⟩ = some (.int .i64 a0_3) ∧ w'.cell? ⟨gb641, 4, none⟩ = some (.slice A0_4 l0_4.length c0_4) ∧ w'.cell? (ad645.add (x5_1).toNat) = some (.slice A645_0 (rd_L5 t642 x5_1).length c645_0)) (ds := []) #[false, false, false, false, false, false, false, false, false] (by kernel_rfl) rfl rfl ⟨(blk_cell BK641.out 0).trans rfl, (blk_cell BK641.out 1).trans rfl, (blk_cell BK641.out 2).trans rfl, (blk_cell BK641.out 3).trans rfl, (blk_cell BK641.out 4).trans rfl, hx645_0⟩ (fun hHeld => ?_); refine with_tabW swarfref04_Truths.tab6 swarfref04_Truths.bits6 (fun HT_ HW_ => ?_)
      generalize wr.drew = w16 at HO_3 HO_4 BK641 HB HL645_0 HR645_0 hx645_0 hHeld ⊢
      refine pure_ (i := 1) (N := some 15) (v := ?_) (a' := ?_) (bz 9 2) rfl rfl (any_of HT_.out (by kernel_rfl)) (fun _ _ _ h => h) (Or.inl ⟨by rfl, ?_⟩) ?_ ?_
      rotate_left
      ·
       intro w'
       go_simp
       with_reducible rfl
      rotate_left
      ·
       simp only [Act.put, put_x, i64_w, i32_w]
       rfl
      refine pure_ (i := 2) (N := some 16) (v := ?_) (a' := ?_) (bz 9 6) rfl rfl (any_of HT_.out (by kernel_rfl)) (fun _ _ _ h => h) (Or.inl ⟨by rfl, ?_⟩) ?_ ?_
      rotate_left
      ·
       intro w'
       go_simp
       with_reducible rfl
      rotate_left
      ·
       simp only [Act.put, put_x, i64_w, i32_w]
       rfl
      refine pure_ (i := 3) (N := some 17) (v := ?_) (a' := ?_) (bz 9 14) rfl rfl (any_of HT_.out (by kernel_rfl)) (fun _ _ _ h => h) (Or.inl ⟨by rfl, ?_⟩) ?_ ?_
      rotate_left
      ·
       intro w'
       go_simp
       with_reducible rfl
      rotate_left
      ·
       simp only [Act.put, put_x, i64_w, i32_w]
       rfl
      refine pure_ (i := 6) (N := some 20) (v := ?_) (a' := ?_) (bz 9 78) rfl rfl (any_of HT_.out (by kernel_rfl)) (fun _ _ _ h => h) (Or.inl ⟨by rfl, ?_⟩) ?_ ?_
      rotate_left
      ·
       intro w'
       go_simp
       with_reducible rfl
      rotate_left
      ·
       simp only [Act.put, put_x, i64_w, i32_w]
       rfl
      refine take_ (i := 0) (N := some 14) (v := ?_) (a' := ?_) (bz 9 79) rfl rfl (take_ofW HT_.out HW_.out (by kernel_rfl)) (fun _ _ _ h => h) (Or.inl ⟨by rfl, ?_⟩) hHeld ?_ ?_
      rotate_left
      ·
       rintro w' ⟨s0, s1, s2, s3, s4, s5⟩
       go_simp
       with_reducible rfl
      rotate_left
      ·
       simp only [Act.put, put_x, i64_w, i32_w]
       rfl
      refine take_ (i := 4) (N := some 18) (v := ?_) (a' := ?_) (bz 9 95) rfl rfl (take_ofW HT_.out HW_.out (by kernel_rfl)) (fun _ _ _ h => h) (Or.inl ⟨by rfl, ?_⟩) hHeld ?_ ?_
      rotate_left
      ·
       rintro w' ⟨s0, s1, s2, s3, s4, s5⟩
       go_simp
       with_reducible rfl
      rotate_left
      ·
       simp only [Act.put, put_x, i64_w, i32_w]
       rfl
      refine take_ (i := 7) (N := some 21) (v := ?_) (a' := ?_) (bz 9 223) rfl rfl (take_ofW HT_.out HW_.out (by kernel_rfl)) (fun _ _ _ h => h) (Or.inl ⟨by rfl, ?_⟩) hHeld ?_ ?_
      rotate_left
      ·
       rintro w' ⟨s0, s1, s2, s3, s4, s5⟩
       go_simp
       with_reducible rfl
      rotate_left
      ·
       simp only [Act.put, put_x, i64_w, i32_w]
       rfl
      refine one_ (i := 5) (N := some 19) (bz 9 255) rfl rfl (one_of HT_.out (by kernel_rfl)) (by decide) (fun K hK => ?_)
      refine goes_ Try.func28 (by kernel_rfl) rfl #[.agg #[.slice A0_0 l0_0.length c0_0, .int .i64 a0_1, .slice A0_2 l0_2.length c0_2, .int .i64 a0_3, .slice A0_4 l0_4.length c0_4], .slice A645_0 (rd_L5 t642 x5_1).length c645_0] (by rfl) rfl rfl (by (try simp only [List.map_toArray, List.map_cons, List.map_nil]); first | done | rfl | (simp only [List.length_drop, List.length_take]; rfl)) ?_
      with_reducible refine (swarfref04_Wrongs.calls k1 _ _ l0_0 a0_1 _ _ l0_2 a0_3 _ _ l0_4 _ _ (rd_L5 t642 x5_1) t646 _ ?side1 ?side2 ?side3 ?side4 ?side5 ?side6 ?side7 ?side8 A8.out).mono ?_
      (case side1 => exact Kd.C_x HR0_0.out HB.out)
      (case side2 => exact HC0_0.out)
      (case side3 => exact Kd.C_x HR0_2.out HB.out)
      (case side4 => exact HC0_2.out)
      (case side5 => exact Kd.C_x HR0_4.out HB.out)
      (case side6 => exact HC0_4.out)
      (case side7 => repeat (first | exact (by repeat (first | (with_reducible exact HR645_0.out) | (with_reducible refine Kd.C_alloc ?_ _) | (with_reducible refine Kd.C_drewN ?_ _) | (with_reducible refine Kd.C_drew ?_) | exact HR645_0.out)) | (with_reducible refine Kd.C_alloc ?_ _) | (with_reducible refine Kd.C_drewN ?_ _) | (with_reducible refine Kd.C_drew ?_)))
      (case side8 => exact HC645_0.out)
      rintro e w17 ⟨rfl, hb⟩
      have HS5_ := (hb.cell (World.block_lt_of_cell? _ _ (hHeld.2.2.2.2.2))).trans (hHeld.2.2.2.2.2)
      refine ⟨_, rfl, ?_⟩
      replace HO_3 := Aside0.mk (Kd.N_below (Kd.N_x HO_3.out) hb)
      replace HO_4 := Aside0.mk (Kd.N_below (Kd.N_x HO_4.out) hb)
      replace HL645_0 := Aside0.mk (Kd.V_below (Kd.V_x HL645_0.out) hb)
      replace BK641 := Aside0.mk (blk_below (blk_x BK641.out) hb)
      replace HR645_0 := Aside0.mk (Kd.C_below (by repeat (first | (with_reducible exact HR645_0.out) | (with_reducible refine Kd.C_alloc ?_ _) | (with_reducible refine Kd.C_drewN ?_ _) | (with_reducible refine Kd.C_drew ?_) | exact HR645_0.out)) hb)
      replace HB := bl_x HB hb
      (try clear hb)
      (try clear hb2)
      (try clear hk)
      (try clear hi)
      refine hK.out _ _ ⟨(blk_cell BK641.out 0).trans rfl, (blk_cell BK641.out 1).trans rfl, (blk_cell BK641.out 2).trans rfl, (blk_cell BK641.out 3).trans rfl, (blk_cell BK641.out 4).trans rfl, HS5_⟩ (fun hHeld => ?_)
      clear hK K
      refine norm_ (a' := ?_) ?_ ?_
      rotate_left
      ·
       show Act.put _ (some 19) _ = _
       simp only [Act.put, put_x, i64_w, i32_w]
       rfl
      refine pure_ (i := 8) (N := some 22) (v := ?_) (a' := ?_) (bz 9 511) rfl rfl (any_of HT_.out (by kernel_rfl)) (fun _ _ _ h => h) (Or.inl ⟨by rfl, ?_⟩) ?_ ?_
      rotate_left
      ·
       intro w'
       go_simp
       with_reducible rfl
      rotate_left
      ·
       simp only [Act.put, put_x, i64_w, i32_w]
       rfl
      refine done_ (done_of HT_.out (by kernel_rfl)) ?_
      try go_wp2
      go_roundg k1
      case measure => have := HK1.out; omega
      case rel => exact ⟨(x3_1), (wrap64 (x5_1 + 1)), (by first | rfl | (simp; done) | (simp [*]; done)), H', ⟨by have := HK1.out; omega⟩, ⟨by (with_reducible repeat (first | apply Kd.N_alloc | apply Kd.N_drewN | apply Kd.N_drew)); exact HO_3.out⟩, ⟨by (with_reducible repeat (first | apply Kd.N_alloc | apply Kd.N_drewN | apply Kd.N_drew)); exact HO_4.out⟩, ⟨blk_x BK641.out⟩, ⟨by exact below_y HB.out⟩⟩
    ·
     rw [if_neg c7] at H
     exact absurd H (by simp)
   ·
    rw [if_neg c6] at H
    have c6b0 : decide (x5_1 < (t642.length : Int)) = false := decide_eq_false c6
    clear c6
    obtain rfl := Option.some.inj H
    obtain ⟨Ao18, co18, eo18⟩ := Kd.N_slice HO_4.out
    subst eo18
    go_wp2
    go_ret
    exact ⟨_, by first | rfl | (simp [errW_none, errW_some] <;> rfl) | (simp [*, errW_none, errW_some] <;> rfl), by (with_reducible repeat (first | apply Kd.N_alloc | apply Kd.N_drewN | apply Kd.N_drew)); exact Kd.N_mono HO_3.out (fun _ hk => hk.1), by exact below_y HB.out⟩
def swarfref04_known.f (k : Nat) (l0_0 : List (S50)) (a0_1 : Int) (l0_2 : List (S61)) (a0_3 : Int) (l0_4 : List Int) : Option ((List (List Bool)) × Int) := (swarfref04_Check.f k l0_0 a0_1 l0_2 a0_3 l0_4).bind fun t787 => (if t787 = 0 then ((swarfref04_Truths.f k l0_0 a0_1 l0_2 a0_3 l0_4).bind fun t788 => (if (t788.length : Int) = 0 then (some (([] : List (List Bool)), 9)) else (some (t788, 0)))) else (some (([] : List (List Bool)), t787)))
set_option maxHeartbeats 8000000 in
set_option maxRecDepth 100000 in
theorem swarfref04_known.calls (k : Nat) (A0_0 : Option Addr) (c0_0 : Nat) (l0_0 : List (S50)) (a0_1 : Int) (A0_2 : Option Addr) (c0_2 : Nat) (l0_2 : List (S61)) (a0_3 : Int) (A0_4 : Option Addr) (c0_4 : Nat) (l0_4 : List Int) (r1 : List (List Bool)) (r2 : Int) (w : World) (hr0_0 : Kd.C k50 w A0_0 l0_0.length l0_0) (hc0_0 : l0_0.length ≤ c0_0) (hr0_2 : Kd.C k61 w A0_2 l0_2.length l0_2) (hc0_2 : l0_2.length ≤ c0_2) (hr0_4 : Kd.C (Kd.int .i64) w A0_4 l0_4.length l0_4) (hc0_4 : l0_4.length ≤ c0_4) (h : swarfref04_known.f k l0_0 a0_1 l0_2 a0_3 l0_4 = some (r1, r2)) :
  Calls Try.prog 68 #[.agg #[.slice A0_0 l0_0.length c0_0, .int .i64 a0_1, .slice A0_2 l0_2.length c0_2, .int .i64 a0_3, .slice A0_4 l0_4.length c0_4]] w fun e w' => ∃ v0_ : Value, e = .returned (.tuple #[v0_, .int .i64 r2]) ∧ Kd.N (Kd.slice 4 Kd.bool) 31 w' w.heap.size (fun k_ => (w.heap.size ≤ k_)) v0_ r1 ∧ Below w.heap.size w w' := by
 have hu26 := Try.underlying26
 have HR0_0 := Aside0.mk hr0_0
 have HC0_0 := Aside0.mk hc0_0
 clear hr0_0 hc0_0
 have HR0_2 := Aside0.mk hr0_2
 have HC0_2 := Aside0.mk hc0_2
 clear hr0_2 hc0_2
 have HR0_4 := Aside0.mk hr0_4
 have HC0_4 := Aside0.mk hc0_4
 clear hr0_4 hc0_4
 have HB := Aside0.mk (Below.refl w.heap.size w)
 have H : ((swarfref04_Check.f k l0_0 a0_1 l0_2 a0_3 l0_4).bind fun t787 => (if t787 = 0 then ((swarfref04_Truths.f k l0_0 a0_1 l0_2 a0_3 l0_4).bind fun t788 => (if (t788.length : Int) = 0 then (some (([] : List (List Bool)), 9)) else (some (t788, 0)))) else (some (([] : List (List Bool)), t787)))) = some (r1, r2) := h
 clear h
 replace H := Option.bind_eq_some_iff.mp H
 obtain ⟨t787, A20, H⟩ := H
 try dsimp only at H
 have A2 := Aside0.mk A20
 clear A20
 by_cases c3 : t787 = 0
 ·
  rw [if_pos c3] at H
  have c3b0 : (t787 == 0) = true := beq_iff_eq.mpr c3
  have c3b1 : (t787 != 0) = false := bne_eq_false_iff_eq.mpr c3
  clear c3
  replace H := Option.bind_eq_some_iff.mp H
  obtain ⟨t788, A40, H⟩ := H
  try dsimp only at H
  have A4 := Aside0.mk A40
  clear A40
  by_cases c5 : (t788.length : Int) = 0
  ·
   rw [if_pos c5] at H
   have c5b0 : ((t788.length : Int) == 0) = true := beq_iff_eq.mpr c5
   have c5b1 : ((t788.length : Int) != 0) = false := bne_eq_false_iff_eq.mpr c5
   clear c5
   simp only [Option.some.injEq, Prod.mk.injEq] at H
   obtain ⟨rfl, rfl⟩ := H
   go_enter Try.func68, Try.ntmps68
   go_wp2_with (first | ((with_reducible refine gate_dst (N := 1) rfl ?_); refine box_event ?hg (N := 1) ?hd (cs := #[.slice A0_0 l0_0.length c0_0, .int .i64 a0_1, .slice A0_2 l0_2.length c0_2, .int .i64 a0_3, .slice A0_4 l0_4.length c0_4]) (t := 26) ?hr ?_; (case hd => rfl); (case hg => rfl); (case hr => first | (go_simp; done) | (go_simp; rfl)); intro gb786 hg w6 hbox hb; have BK786 := Aside0.mk (hbox); have GW786 := Aside0.mk ((by rw [hg]; exact (below_size (below_x HB.out)) : w.heap.size ≤ gb786)); have GE786 := Aside0.mk ((by rw [hg]; exact (below_size (below_x HB.out)) : w.heap.size ≤ gb786)); replace HB := Aside0.mk (below_step (below_x HB.out) hb); clear hb hbox hg; obtain ⟨_, _, _, _, _⟩ := cz5 BK786; have hfz7_0 := blk_frozen BK786.out) | ((with_reducible refine gate_callee (f := 15) rfl ?_); refine goesL_ (some 7) rfl rfl Try.func15 (by kernel_rfl) rfl #[.agg #[.slice A0_0 l0_0.length c0_0, .int .i64 a0_1, .slice A0_2 l0_2.length c0_2, .int .i64 a0_3, .slice A0_4 l0_4.length c0_4]] rfl (by (try simp only [List.map_toArray, List.map_cons, List.map_nil]); first | done | rfl | (simp only [List.length_drop, List.length_take]; rfl)) ?_; (with_reducible refine (swarfref04_Check.calls k _ _ l0_0 a0_1 _ _ l0_2 a0_3 _ _ l0_4 t787 _ ?side1 ?side2 ?side3 ?side4 ?side5 ?side6 A2.out).mono ?_); (case side1 => exact Kd.C_x HR0_0.out HB.out); (case side2 => exact HC0_0.out); (case side3 => exact Kd.C_x HR0_2.out HB.out); (case side4 => exact HC0_2.out); (case side5 => exact Kd.C_x HR0_4.out HB.out); (case side6 => exact HC0_4.out); rintro e w8 ⟨rfl, hb⟩; refine ⟨_, rfl, ?_⟩; replace BK786 := Aside0.mk (blk_below (blk_x BK786.out) hb); replace HB := bl_x HB hb; (try clear hb); (try clear hk); (try clear hi); obtain ⟨_, _, _, _, _⟩ := cz5 BK786; have hfz9_0 := blk_frozen BK786.out) | ((with_reducible refine gate_callee (f := 48) rfl ?_); refine goesL_ (some 12) rfl rfl Try.func48 (by kernel_rfl) rfl #[.agg #[.slice A0_0 l0_0.length c0_0, .int .i64 a0_1, .slice A0_2 l0_2.length c0_2, .int .i64 a0_3, .slice A0_4 l0_4.length c0_4]] rfl (by (try simp only [List.map_toArray, List.map_cons, List.map_nil]); first | done | rfl | (simp only [List.length_drop, List.length_take]; rfl)) ?_; (with_reducible refine (swarfref04_Truths.calls k _ _ l0_0 a0_1 _ _ l0_2 a0_3 _ _ l0_4 t788 _ ?side1 ?side2 ?side3 ?side4 ?side5 ?side6 A4.out).mono ?_); (case side1 => exact Kd.C_x HR0_0.out HB.out); (case side2 => exact HC0_0.out); (case side3 => exact Kd.C_x HR0_2.out HB.out); (case side4 => exact HC0_2.out); (case side5 => exact Kd.C_x HR0_4.out HB.out); (case side6 => exact HC0_4.out); rintro e w10 ⟨v789, rfl, ho0, hb⟩; refine ⟨_, rfl, ?_⟩; have HO790 := Aside0.mk (Kd.N_lower (Kd.N_mono (ok' := fun k_ => (w.heap.size ≤ k_) ∧ k_ ≠ gb786) ho0 (fun k_ hk_ => ⟨(Nat.le_trans (below_size (by exact below_y HB.out)) hk_), (Kd.freshB (g := gb786) (o := .cells #[.slice A0_0 l0_0.length c0_0, .int .i64 a0_1, .slice A0_2 l0_2.length c0_2, .int .i64 a0_3, .slice A0_4 l0_4.length c0_4] 26 (0, 0)) (blk_x BK786.out) k_ hk_)⟩)) (below_size (by exact below_y HB.out))); replace BK786 := Aside0.mk (blk_below (blk_x BK786.out) hb); replace HB := bl_x HB hb; (try clear hb); (try clear hk); (try clear hi); (try clear ho0); obtain ⟨Ao11, co11, eo11⟩ := Kd.N_slice HO790.out; subst eo11))
   go_ret2
   exact ⟨_, by first | rfl | (simp [errW_none, errW_some] <;> rfl) | (simp [*, errW_none, errW_some] <;> rfl), by first | exact Kd.S_nil _ _ _ _ _ | exact Kd.N_nil _ _ _ _ _ | exact Kd.V_nil _ _ _ _ _ | exact Kd.Q_nil _ _ _ _ _ | exact Kd.R_nil _ _ _ _ _, by exact below_y HB.out⟩
  ·
   rw [if_neg c5] at H
   have c5b0 : ((t788.length : Int) == 0) = false := beq_eq_false_iff_ne.mpr c5
   have c5b1 : ((t788.length : Int) != 0) = true := bne_iff_ne.mpr c5
   have c5b2 : ¬ (t788 = []) := fun h_ => c5 (by rw [h_]; rfl)
   simp only [Option.some.injEq, Prod.mk.injEq] at H
   obtain ⟨rfl, rfl⟩ := H
   go_enter Try.func68, Try.ntmps68
   go_wp2_with (first | ((with_reducible refine gate_dst (N := 1) rfl ?_); refine box_event ?hg (N := 1) ?hd (cs := #[.slice A0_0 l0_0.length c0_0, .int .i64 a0_1, .slice A0_2 l0_2.length c0_2, .int .i64 a0_3, .slice A0_4 l0_4.length c0_4]) (t := 26) ?hr ?_; (case hd => rfl); (case hg => rfl); (case hr => first | (go_simp; done) | (go_simp; rfl)); intro gb786 hg w12 hbox hb; have BK786 := Aside0.mk (hbox); have GW786 := Aside0.mk ((by rw [hg]; exact (below_size (below_x HB.out)) : w.heap.size ≤ gb786)); have GE786 := Aside0.mk ((by rw [hg]; exact (below_size (below_x HB.out)) : w.heap.size ≤ gb786)); replace HB := Aside0.mk (below_step (below_x HB.out) hb); clear hb hbox hg; obtain ⟨_, _, _, _, _⟩ := cz5 BK786; have hfz13_0 := blk_frozen BK786.out) | ((with_reducible refine gate_callee (f := 15) rfl ?_); refine goesL_ (some 7) rfl rfl Try.func15 (by kernel_rfl) rfl #[.agg #[.slice A0_0 l0_0.length c0_0, .int .i64 a0_1, .slice A0_2 l0_2.length c0_2, .int .i64 a0_3, .slice A0_4 l0_4.length c0_4]] rfl (by (try simp only [List.map_toArray, List.map_cons, List.map_nil]); first | done | rfl | (simp only [List.length_drop, List.length_take]; rfl)) ?_; (with_reducible refine (swarfref04_Check.calls k _ _ l0_0 a0_1 _ _ l0_2 a0_3 _ _ l0_4 t787 _ ?side1 ?side2 ?side3 ?side4 ?side5 ?side6 A2.out).mono ?_); (case side1 => exact Kd.C_x HR0_0.out HB.out); (case side2 => exact HC0_0.out); (case side3 => exact Kd.C_x HR0_2.out HB.out); (case side4 => exact HC0_2.out); (case side5 => exact Kd.C_x HR0_4.out HB.out); (case side6 => exact HC0_4.out); rintro e w14 ⟨rfl, hb⟩; refine ⟨_, rfl, ?_⟩; replace BK786 := Aside0.mk (blk_below (blk_x BK786.out) hb); replace HB := bl_x HB hb; (try clear hb); (try clear hk); (try clear hi); obtain ⟨_, _, _, _, _⟩ := cz5 BK786; have hfz15_0 := blk_frozen BK786.out) | ((with_reducible refine gate_callee (f := 48) rfl ?_); refine goesL_ (some 12) rfl rfl Try.func48 (by kernel_rfl) rfl #[.agg #[.slice A0_0 l0_0.length c0_0, .int .i64 a0_1, .slice A0_2 l0_2.length c0_2, .int .i64 a0_3, .slice A0_4 l0_4.length c0_4]] rfl (by (try simp only [List.map_toArray, List.map_cons, List.map_nil]); first | done | rfl | (simp only [List.length_drop, List.length_take]; rfl)) ?_; (with_reducible refine (swarfref04_Truths.calls k _ _ l0_0 a0_1 _ _ l0_2 a0_3 _ _ l0_4 t788 _ ?side1 ?side2 ?side3 ?side4 ?side5 ?side6 A4.out).mono ?_); (case side1 => exact Kd.C_x HR0_0.out HB.out); (case side2 => exact HC0_0.out); (case side3 => exact Kd.C_x HR0_2.out HB.out); (case side4 => exact HC0_2.out); (case side5 => exact Kd.C_x HR0_4.out HB.out); (case side6 => exact HC0_4.out); rintro e w16 ⟨v789, rfl, ho0, hb⟩; refine ⟨_, rfl, ?_⟩; have HO790 := Aside0.mk (Kd.N_lower (Kd.N_mono (ok' := fun k_ => (w.heap.size ≤ k_) ∧ k_ ≠ gb786) ho0 (fun k_ hk_ => ⟨(Nat.le_trans (below_size (by exact below_y HB.out)) hk_), (Kd.freshB (g := gb786) (o := .cells #[.slice A0_0 l0_0.length c0_0, .int .i64 a0_1, .slice A0_2 l0_2.length c0_2, .int .i64 a0_3, .slice A0_4 l0_4.length c0_4] 26 (0, 0)) (blk_x BK786.out) k_ hk_)⟩)) (below_size (by exact below_y HB.out))); replace BK786 := Aside0.mk (blk_below (blk_x BK786.out) hb); replace HB := bl_x HB hb; (try clear hb); (try clear hk); (try clear hi); (try clear ho0); obtain ⟨Ao17, co17, eo17⟩ := Kd.N_slice HO790.out; subst eo17))
   go_ret2
   exact ⟨_, by first | rfl | (simp [errW_none, errW_some] <;> rfl) | (simp [*, errW_none, errW_some] <;> rfl), by (with_reducible repeat (first | apply Kd.N_alloc | apply Kd.N_drewN | apply Kd.N_drew)); exact Kd.N_mono HO790.out (fun _ hk => hk.1), by exact below_y HB.out⟩
 ·
  rw [if_neg c3] at H
  have c3b0 : (t787 == 0) = false := beq_eq_false_iff_ne.mpr c3
  have c3b1 : (t787 != 0) = true := bne_iff_ne.mpr c3
  simp only [Option.some.injEq, Prod.mk.injEq] at H
  obtain ⟨rfl, rfl⟩ := H
  go_enter Try.func68, Try.ntmps68
  go_wp2_with (first | ((with_reducible refine gate_dst (N := 1) rfl ?_); refine box_event ?hg (N := 1) ?hd (cs := #[.slice A0_0 l0_0.length c0_0, .int .i64 a0_1, .slice A0_2 l0_2.length c0_2, .int .i64 a0_3, .slice A0_4 l0_4.length c0_4]) (t := 26) ?hr ?_; (case hd => rfl); (case hg => rfl); (case hr => first | (go_simp; done) | (go_simp; rfl)); intro gb786 hg w18 hbox hb; have BK786 := Aside0.mk (hbox); have GW786 := Aside0.mk ((by rw [hg]; exact (below_size (below_x HB.out)) : w.heap.size ≤ gb786)); have GE786 := Aside0.mk ((by rw [hg]; exact (below_size (below_x HB.out)) : w.heap.size ≤ gb786)); replace HB := Aside0.mk (below_step (below_x HB.out) hb); clear hb hbox hg; obtain ⟨_, _, _, _, _⟩ := cz5 BK786; have hfz19_0 := blk_frozen BK786.out) | ((with_reducible refine gate_callee (f := 15) rfl ?_); refine goesL_ (some 7) rfl rfl Try.func15 (by kernel_rfl) rfl #[.agg #[.slice A0_0 l0_0.length c0_0, .int .i64 a0_1, .slice A0_2 l0_2.length c0_2, .int .i64 a0_3, .slice A0_4 l0_4.length c0_4]] rfl (by (try simp only [List.map_toArray, List.map_cons, List.map_nil]); first | done | rfl | (simp only [List.length_drop, List.length_take]; rfl)) ?_; (with_reducible refine (swarfref04_Check.calls k _ _ l0_0 a0_1 _ _ l0_2 a0_3 _ _ l0_4 t787 _ ?side1 ?side2 ?side3 ?side4 ?side5 ?side6 A2.out).mono ?_); (case side1 => exact Kd.C_x HR0_0.out HB.out); (case side2 => exact HC0_0.out); (case side3 => exact Kd.C_x HR0_2.out HB.out); (case side4 => exact HC0_2.out); (case side5 => exact Kd.C_x HR0_4.out HB.out); (case side6 => exact HC0_4.out); rintro e w20 ⟨rfl, hb⟩; refine ⟨_, rfl, ?_⟩; replace BK786 := Aside0.mk (blk_below (blk_x BK786.out) hb); replace HB := bl_x HB hb; (try clear hb); (try clear hk); (try clear hi)))
  go_ret2
  exact ⟨_, by first | rfl | (simp [errW_none, errW_some] <;> rfl) | (simp [*, errW_none, errW_some] <;> rfl), by first | exact Kd.S_nil _ _ _ _ _ | exact Kd.N_nil _ _ _ _ _ | exact Kd.V_nil _ _ _ _ _ | exact Kd.Q_nil _ _ _ _ _ | exact Kd.R_nil _ _ _ _ _, by exact below_y HB.out⟩
def swarfref04_verdict.f (a0 : Int) (a1 : Int) : Option (Int) := if a0 = a1 then (some 1) else (if a0 = 0 then (some 2) else (some 3))
set_option maxHeartbeats 8000000 in
set_option maxRecDepth 100000 in
theorem swarfref04_verdict.calls (a0 : Int) (a1 : Int) (r : Int) (w : World) (h : swarfref04_verdict.f a0 a1 = some r) :
  Calls Try.prog 69 #[.int .i64 a0, .int .i64 a1] w fun e w' => e = .returned (.int .i64 r) ∧ Drawn0 w w' := by
 have H : (if a0 = a1 then (some 1) else (if a0 = 0 then (some 2) else (some 3))) = some r := h
 clear h
 by_cases c3 : a0 = a1
 ·
  rw [if_pos c3] at H
  have c3b0 : (a0 == a1) = true := beq_iff_eq.mpr c3
  have c3b1 : (a0 != a1) = false := bne_eq_false_iff_eq.mpr c3
  clear c3
  obtain rfl := Option.some.inj H
  go_enter Try.func69, Try.ntmps69
  go_wp2
  go_ret
  exact ⟨by first | rfl | (simp; done) | (simp [*]; done), by repeat (first | exact Drawn0.refl _ | apply Drawn0.step)⟩
 ·
  rw [if_neg c3] at H
  have c3b0 : (a0 == a1) = false := beq_eq_false_iff_ne.mpr c3
  have c3b1 : (a0 != a1) = true := bne_iff_ne.mpr c3
  by_cases c4 : a0 = 0
  ·
   rw [if_pos c4] at H
   have c4b0 : (a0 == 0) = true := beq_iff_eq.mpr c4
   have c4b1 : (a0 != 0) = false := bne_eq_false_iff_eq.mpr c4
   clear c4
   obtain rfl := Option.some.inj H
   go_enter Try.func69, Try.ntmps69
   go_wp2
   go_ret
   exact ⟨by first | rfl | (simp; done) | (simp [*]; done), by repeat (first | exact Drawn0.refl _ | apply Drawn0.step)⟩
  ·
   rw [if_neg c4] at H
   have c4b0 : (a0 == 0) = false := beq_eq_false_iff_ne.mpr c4
   have c4b1 : (a0 != 0) = true := bne_iff_ne.mpr c4
   obtain rfl := Option.some.inj H
   go_enter Try.func69, Try.ntmps69
   go_wp2
   go_ret
   exact ⟨by first | rfl | (simp; done) | (simp [*]; done), by repeat (first | exact Drawn0.refl _ | apply Drawn0.step)⟩
def swarfref04_Clean.l0 : Nat → List (List Bool) → Int → Int → List (S50) → Int → List (S61) → Int → List Int → Option (Int × Int)
 | 0, _, _, _, _, _, _, _, _ => none
 | k + 1, x4, x6, x7, x852000, x852001, x852002, x852003, x852004 => if x7 < (x4.length : Int) then (if 0 ≤ x7 then ((swarfref04_IsClean.f k x852000 x852001 x852002 x852003 x852004 (rd_L5 x4 x7)).bind fun t857 => (if t857 = true then (swarfref04_Clean.l0 k x4 (wrap64 (x6 + 1)) (wrap64 (x7 + 1)) x852000 x852001 x852002 x852003 x852004) else (swarfref04_Clean.l0 k x4 x6 (wrap64 (x7 + 1)) x852000 x852001 x852002 x852003 x852004))) else (none)) else ((swarfref04_verdict.f x6 (x4.length : Int)).bind fun t858 => (some (t858, 0)))
def swarfref04_Clean.f (k : Nat) (l0_0 : List (S50)) (a0_1 : Int) (l0_2 : List (S61)) (a0_3 : Int) (l0_4 : List Int) : Option (Int × Int) := (swarfref04_known.f k l0_0 a0_1 l0_2 a0_3 l0_4).bind fun bt852 => (if bt852.2 = 0 then (swarfref04_Clean.l0 k bt852.1 0 0 l0_0 a0_1 l0_2 a0_3 l0_4) else (some (0, bt852.2)))
set_option maxHeartbeats 8000000 in
set_option maxRecDepth 100000 in
theorem swarfref04_Clean.calls (k : Nat) (A0_0 : Option Addr) (c0_0 : Nat) (l0_0 : List (S50)) (a0_1 : Int) (A0_2 : Option Addr) (c0_2 : Nat) (l0_2 : List (S61)) (a0_3 : Int) (A0_4 : Option Addr) (c0_4 : Nat) (l0_4 : List Int) (r1 : Int) (r2 : Int) (w : World) (hr0_0 : Kd.C k50 w A0_0 l0_0.length l0_0) (hc0_0 : l0_0.length ≤ c0_0) (hr0_2 : Kd.C k61 w A0_2 l0_2.length l0_2) (hc0_2 : l0_2.length ≤ c0_2) (hr0_4 : Kd.C (Kd.int .i64) w A0_4 l0_4.length l0_4) (hc0_4 : l0_4.length ≤ c0_4) (h : swarfref04_Clean.f k l0_0 a0_1 l0_2 a0_3 l0_4 = some (r1, r2)) :
  Calls Try.prog 37 #[.agg #[.slice A0_0 l0_0.length c0_0, .int .i64 a0_1, .slice A0_2 l0_2.length c0_2, .int .i64 a0_3, .slice A0_4 l0_4.length c0_4]] w fun e w' => e = .returned (.tuple #[.int .i64 r1, .int .i64 r2]) ∧ Below w.heap.size w w' := by
 have hu26 := Try.underlying26
 have HR0_0 := Aside0.mk hr0_0
 have HC0_0 := Aside0.mk hc0_0
 clear hr0_0 hc0_0
 have HR0_2 := Aside0.mk hr0_2
 have HC0_2 := Aside0.mk hc0_2
 clear hr0_2 hc0_2
 have HR0_4 := Aside0.mk hr0_4
 have HC0_4 := Aside0.mk hc0_4
 clear hr0_4 hc0_4
 have HB := Aside0.mk (Below.refl w.heap.size w)
 have H : ((swarfref04_known.f k l0_0 a0_1 l0_2 a0_3 l0_4).bind fun bt852 => (if bt852.2 = 0 then (swarfref04_Clean.l0 k bt852.1 0 0 l0_0 a0_1 l0_2 a0_3 l0_4) else (some (0, bt852.2)))) = some (r1, r2) := h
 clear h
 replace H := Option.bind_eq_some_iff.mp H
 obtain ⟨⟨t852, t855⟩, A20, H⟩ := H
 try dsimp only at H
 have A2 := Aside0.mk A20
 clear A20
 by_cases c3 : t855 = 0
 ·
  rw [if_pos c3] at H
  have c3b0 : (t855 == 0) = true := beq_iff_eq.mpr c3
  have c3b1 : (t855 != 0) = false := bne_eq_false_iff_eq.mpr c3
  clear c3
  have H' := Aside0.mk H
  clear H
  go_enter Try.func37, Try.ntmps37
  go_wp2_with (first | ((with_reducible refine gate_dst (N := 1) rfl ?_); refine box_event ?hg (N := 1) ?hd (cs := #[.slice A0_0 l0_0.length c0_0, .int .i64 a0_1, .slice A0_2 l0_2.length c0_2, .int .i64 a0_3, .slice A0_4 l0_4.length c0_4]) (t := 26) ?hr ?_; (case hd => rfl); (case hg => rfl); (case hr => first | (go_simp; done) | (go_simp; rfl)); intro gb851 hg w4 hbox hb; have BK851 := Aside0.mk (hbox); have GW851 := Aside0.mk ((by rw [hg]; exact (below_size (below_x HB.out)) : w.heap.size ≤ gb851)); have GE851 := Aside0.mk ((by rw [hg]; exact (below_size (below_x HB.out)) : w.heap.size ≤ gb851)); replace HB := Aside0.mk (below_step (below_x HB.out) hb); clear hb hbox hg; obtain ⟨_, _, _, _, _⟩ := cz5 BK851; have hfz5_0 := blk_frozen BK851.out) | ((with_reducible refine gate_callee (f := 68) rfl ?_); refine goesL_ (some 10) rfl rfl Try.func68 (by kernel_rfl) rfl #[.agg #[.slice A0_0 l0_0.length c0_0, .int .i64 a0_1, .slice A0_2 l0_2.length c0_2, .int .i64 a0_3, .slice A0_4 l0_4.length c0_4]] rfl (by (try simp only [List.map_toArray, List.map_cons, List.map_nil]); first | done | rfl | (simp only [List.length_drop, List.length_take]; rfl)) ?_; (with_reducible refine (swarfref04_known.calls k _ _ l0_0 a0_1 _ _ l0_2 a0_3 _ _ l0_4 t852 t855 _ ?side1 ?side2 ?side3 ?side4 ?side5 ?side6 A2.out).mono ?_); (case side1 => exact Kd.C_x HR0_0.out HB.out); (case side2 => exact HC0_0.out); (case side3 => exact Kd.C_x HR0_2.out HB.out); (case side4 => exact HC0_2.out); (case side5 => exact Kd.C_x HR0_4.out HB.out); (case side6 => exact HC0_4.out); rintro e w6 ⟨v853, rfl, ho0, hb⟩; refine ⟨_, rfl, ?_⟩; have HO854 := Aside0.mk (Kd.N_lower (Kd.N_mono (ok' := fun k_ => k_ ≠ gb851) ho0 (fun k_ hk_ => (Kd.freshB (g := gb851) (o := .cells #[.slice A0_0 l0_0.length c0_0, .int .i64 a0_1, .slice A0_2 l0_2.length c0_2, .int .i64 a0_3, .slice A0_4 l0_4.length c0_4] 26 (0, 0)) (blk_x BK851.out) k_ hk_))) (below_size (by exact below_y HB.out))); replace BK851 := Aside0.mk (blk_below (blk_x BK851.out) hb); replace HB := bl_x HB hb; (try clear hb); (try clear hk); (try clear hi); (try clear ho0)))
  go_loopg [6, 7] k (fun kq v6 v7 w' => ∃ (x6_1 : Int) (x7_1 : Int), v6 = .int .i64 x6_1 ∧ v7 = .int .i64 x7_1 ∧ Aside0 (swarfref04_Clean.l0 kq t852 x6_1 x7_1 l0_0 a0_1 l0_2 a0_3 l0_4 = some (r1, r2)) ∧ Aside0 (kq ≤ k) ∧ Aside0 (Kd.N (Kd.slice 4 Kd.bool) 31 w' w.heap.size (fun k_ => k_ ≠ gb851) v853 t852) ∧ Aside0 (w'.heap[gb851]? = some (.cells #[(.slice A0_0 l0_0.length c0_0), .int .i64 a0_1, (.slice A0_2 l0_2.length c0_2), .int .i64 a0_3, (.slice A0_4 l0_4.length c0_4)] 26 (0, 0))) ∧ Aside0 (Below w.heap.size w w'))
  case atStart => exact ⟨(0), (0), (by first | rfl | (simp; done) | (simp [*]; done)), (by first | rfl | (simp; done) | (simp [*]; done)), H', ⟨Nat.le_refl _⟩, ⟨by (with_reducible repeat (first | apply Kd.N_alloc | apply Kd.N_drewN | apply Kd.N_drew)); exact HO854.out⟩, ⟨blk_x BK851.out⟩, ⟨by exact below_y HB.out⟩⟩
  case round =>
   clear H'
   obtain ⟨x6_1, x7_1, rfl, rfl, HA, HK1, HO_4, BK851, HB⟩ := hrel
   cases gk with
   | zero => exact absurd HA.out (by simp [swarfref04_Clean.l0])
   | succ k1 =>
    have H := HA.out
    clear HA
    simp only [swarfref04_Clean.l0] at H
    by_cases c7 : x7_1 < (t852.length : Int)
    ·
     rw [if_pos c7] at H
     have c7b0 : decide (x7_1 < (t852.length : Int)) = true := decide_eq_true c7
     clear c7
     by_cases c8 : 0 ≤ x7_1
     ·
      rw [if_pos c8] at H
      have c8b0 : decide (0 ≤ x7_1) = true := decide_eq_true c8
      clear c8
      replace H := Option.bind_eq_some_iff.mp H
      obtain ⟨t857, A90, H⟩ := H
      try dsimp only at H
      have A9 := Aside0.mk A90
      clear A90
      by_cases c10 : t857 = true
      ·
       subst c10
       have H1 : (swarfref04_Clean.l0 k1 t852 (wrap64 (x6_1 + 1)) (wrap64 (x7_1 + 1)) l0_0 a0_1 l0_2 a0_3 l0_4) = some (r1, r2) := by rw [if_pos rfl] at H; exact H
       clear H
       have H := H1
       clear H1
       have H' := Aside0.mk H
       clear H
       obtain ⟨Ao11, co11, eo11⟩ := Kd.N_slice HO_4.out
       subst eo11
       try go_wp2
       replace HO_4 := Aside0.mk (Kd.N_drew HO_4.out)
       replace BK851 := Aside0.mk (blk_drew BK851.out)
       replace HB := Aside0.mk (below_drew1 HB.out)
       have p856 : 0 ≤ (x7_1 : Int) := of_x
       have q856 : x7_1 < (t852.length : Int) := of_x
       obtain ⟨ad856, A856_0, c856_0, e856, hx856_0, hl856_0, hi856_0⟩ := at_L5 (Kd.N_reads' HO_4.out).2.2 x7_1 p856 q856
       cases e856
       obtain ⟨ce856, hce856, hMe856, hcc856⟩ := Kd.N_get HO_4.out [] x7_1 p856 (by first | exact q856 | exact of_x | (have e_ := (Kd.N_reads' HO_4.out).1; omega))
       obtain ⟨ua856_0, uc856_0, rfl, ul856_0, ge856_0⟩ := Kd.FK_slice_open hMe856
       have hv856_0 := hcc856 0 _ rfl
       rw [Nat.add_zero, show ((Kd.slice 4 Kd.bool)).sz = 1 from rfl, Nat.mul_one] at hv856_0
       replace hv856_0 := Option.some.inj (hv856_0.symm.trans hx856_0)
       injection hv856_0 with hva_ hvn_ hvc_
       rw [hva_] at ge856_0
       rw [hvc_] at ul856_0
       have HL856_0 := Aside0.mk (show Kd.V Kd.bool 4 _ w.heap.size _ _ (rd_L5 t852 x7_1) from Kd.V_mk ul856_0 ge856_0)
       clear hva_ hvn_ hvc_ ge856_0 ul856_0 hcc856 hce856
       have HR856_0 := Aside0.mk hi856_0
       have HC856_0 := Aside0.mk hl856_0
       clear hi856_0 hl856_0
       replace p856 := eq_true p856
       replace q856 := eq_true q856
       refine start_ (n := 6) (S := fun w' => w'.cell? ⟨gb851, 0, none⟩ = some (.slice A0_0 l0_0.length c0_0) ∧ w'.cell? ⟨gb851, 1, none⟩ = some (.int .i64 a0_1) ∧ w'.cell? ⟨gb851, 2, none⟩ = some (.slice A0_2 l0_2.length c0_2) ∧ w'.cell? ⟨gb851, 3, none⟩ = some (.int .i64 a0_3) ∧ w'.cell? ⟨gb851, 4, none⟩ = some (.slice A0_4 l0_4.length c0_4) ∧ w'.cell? (ad856.add (x7_1).toNat) = some (.slice A856_0 (rd_L5 t852 x7_1).length c856_0)) (ds := []) #[false, false, false, false, false, false] (by kernel_rfl) rfl rfl ⟨(blk_cell BK851.out 0).trans rfl, (blk_cell BK851.out 1).trans rfl, (blk_cell BK851.out 2).trans rfl, (blk_cell BK851.out 3).trans rfl, (blk_cell BK851.out 4).trans rfl, hx856_0⟩ (fun hHeld => ?_)
       generalize wr.drew = w12 at HO_4 BK851 HB HL856_0 HR856_0 hx856_0 hHeld ⊢
       refine pure_ (i := 1) (N := some 23) (v := ?_) (a' := ?_) #[false, true, false, false, false, false] rfl rfl (by kernel_rfl) (fun _ _ _ h => h) (Or.inl ⟨by rfl, ?_⟩) ?_ ?_
       rotate_left
       ·
        intro w'
        go_simp
        with_reducible rfl
       rotate_left
       ·
        simp only [Act.put, put_x, i64_w, i32_w]
        rfl
       refine pure_ (i := 2) (N := some 24) (v := ?_) (a' := ?_) #[false, true, true, false, false, false] rfl rfl (by kernel_rfl) (fun _ _ _ h => h) (Or.inl ⟨by rfl, ?_⟩) ?_ ?_
       rotate_left
       ·
        intro w'
        go_simp
        with_reducible rfl
       rotate_left
       ·
        simp only [Act.put, put_x, i64_w, i32_w]
        rfl
       refine pure_ (i := 3) (N := some 25) (v := ?_) (a' := ?_) #[false, true, true, true, false, false] rfl rfl (by kernel_rfl) (fun _ _ _ h => h) (Or.inl ⟨by rfl, ?_⟩) ?_ ?_
       rotate_left
       ·
        intro w'
        go_simp
        with_reducible rfl
       rotate_left
       ·
        simp only [Act.put, put_x, i64_w, i32_w]
        rfl
       refine take_ (i := 0) (N := some 22) (v := ?_) (a' := ?_) #[true, true, true, true, false, false] rfl rfl (by kernel_rfl) (fun _ _ _ h => h) (Or.inl ⟨by rfl, ?_⟩) hHeld ?_ ?_
       rotate_left
       ·
        rintro w' ⟨s0, s1, s2, s3, s4, s5⟩
        go_simp
        with_reducible rfl
       rotate_left
       ·
        simp only [Act.put, put_x, i64_w, i32_w]
        rfl
       refine take_ (i := 4) (N := some 26) (v := ?_) (a' := ?_) #[true, true, true, true, true, false] rfl rfl (by kernel_rfl) (fun _ _ _ h => h) (Or.inl ⟨by rfl, ?_⟩) hHeld ?_ ?_
       rotate_left
       ·
        rintro w' ⟨s0, s1, s2, s3, s4, s5⟩
        go_simp
        with_reducible rfl
       rotate_left
       ·
        simp only [Act.put, put_x, i64_w, i32_w]
        rfl
       refine one_ (i := 5) (N := some 27) #[true, true, true, true, true, true] rfl rfl (by kernel_rfl) (by decide) (fun K hK => ?_)
       refine goes_ Try.func29 (by kernel_rfl) rfl #[.agg #[.slice A0_0 l0_0.length c0_0, .int .i64 a0_1, .slice A0_2 l0_2.length c0_2, .int .i64 a0_3, .slice A0_4 l0_4.length c0_4], .slice A856_0 (rd_L5 t852 x7_1).length c856_0] (by rfl) rfl rfl (by (try simp only [List.map_toArray, List.map_cons, List.map_nil]); first | done | rfl | (simp only [List.length_drop, List.length_take]; rfl)) ?_
       with_reducible refine (swarfref04_IsClean.calls k1 _ _ l0_0 a0_1 _ _ l0_2 a0_3 _ _ l0_4 _ _ (rd_L5 t852 x7_1) true _ ?side1 ?side2 ?side3 ?side4 ?side5 ?side6 ?side7 ?side8 A9.out).mono ?_
       (case side1 => exact Kd.C_x HR0_0.out HB.out)
       (case side2 => exact HC0_0.out)
       (case side3 => exact Kd.C_x HR0_2.out HB.out)
       (case side4 => exact HC0_2.out)
       (case side5 => exact Kd.C_x HR0_4.out HB.out)
       (case side6 => exact HC0_4.out)
       (case side7 => repeat (first | exact (by repeat (first | (with_reducible exact HR856_0.out) | (with_reducible refine Kd.C_alloc ?_ _) | (with_reducible refine Kd.C_drewN ?_ _) | (with_reducible refine Kd.C_drew ?_) | exact HR856_0.out)) | (with_reducible refine Kd.C_alloc ?_ _) | (with_reducible refine Kd.C_drewN ?_ _) | (with_reducible refine Kd.C_drew ?_)))
       (case side8 => exact HC856_0.out)
       rintro e w13 ⟨rfl, hb⟩
       have HS5_ := (hb.cell (World.block_lt_of_cell? _ _ (hHeld.2.2.2.2.2))).trans (hHeld.2.2.2.2.2)
       refine ⟨_, rfl, ?_⟩
       replace HO_4 := Aside0.mk (Kd.N_below (Kd.N_x HO_4.out) hb)
       replace HL856_0 := Aside0.mk (Kd.V_below (Kd.V_x HL856_0.out) hb)
       replace BK851 := Aside0.mk (blk_below (blk_x BK851.out) hb)
       replace HR856_0 := Aside0.mk (Kd.C_below (by repeat (first | (with_reducible exact HR856_0.out) | (with_reducible refine Kd.C_alloc ?_ _) | (with_reducible refine Kd.C_drewN ?_ _) | (with_reducible refine Kd.C_drew ?_) | exact HR856_0.out)) hb)
       replace HB := bl_x HB hb
       (try clear hb)
       (try clear hb2)
       (try clear hk)
       (try clear hi)
       refine hK.out _ _ ⟨(blk_cell BK851.out 0).trans rfl, (blk_cell BK851.out 1).trans rfl, (blk_cell BK851.out 2).trans rfl, (blk_cell BK851.out 3).trans rfl, (blk_cell BK851.out 4).trans rfl, HS5_⟩ (fun hHeld => ?_)
       clear hK K
       refine norm_ (a' := ?_) ?_ ?_
       rotate_left
       ·
        show Act.put _ (some 27) _ = _
        simp only [Act.put, put_x, i64_w, i32_w]
        rfl
       refine done_ (by kernel_rfl) ?_
       try go_wp2
       go_roundg k1
       case measure => have := HK1.out; omega
       case rel => exact ⟨(wrap64 (x6_1 + 1)), (wrap64 (x7_1 + 1)), (by first | rfl | (simp; done) | (simp [*]; done)), (by first | rfl | (simp; done) | (simp [*]; done)), H', ⟨by have := HK1.out; omega⟩, ⟨by (with_reducible repeat (first | apply Kd.N_alloc | apply Kd.N_drewN | apply Kd.N_drew)); exact HO_4.out⟩, ⟨blk_x BK851.out⟩, ⟨by exact below_y HB.out⟩⟩
      ·
       replace c10 := Bool.eq_false_iff.mpr c10
       subst c10
       have H1 : (swarfref04_Clean.l0 k1 t852 x6_1 (wrap64 (x7_1 + 1)) l0_0 a0_1 l0_2 a0_3 l0_4) = some (r1, r2) := by rw [if_neg (show ¬ (false = true) by decide)] at H; exact H
       clear H
       have H := H1
       clear H1
       have H' := Aside0.mk H
       clear H
       obtain ⟨Ao14, co14, eo14⟩ := Kd.N_slice HO_4.out
       subst eo14
       try go_wp2
       replace HO_4 := Aside0.mk (Kd.N_drew HO_4.out)
       replace BK851 := Aside0.mk (blk_drew BK851.out)
       replace HB := Aside0.mk (below_drew1 HB.out)
       have p856 : 0 ≤ (x7_1 : Int) := of_x
       have q856 : x7_1 < (t852.length : Int) := of_x
       obtain ⟨ad856, A856_0, c856_0, e856, hx856_0, hl856_0, hi856_0⟩ := at_L5 (Kd.N_reads' HO_4.out).2.2 x7_1 p856 q856
       cases e856
       obtain ⟨ce856, hce856, hMe856, hcc856⟩ := Kd.N_get HO_4.out [] x7_1 p856 (by first | exact q856 | exact of_x | (have e_ := (Kd.N_reads' HO_4.out).1; omega))
       obtain ⟨ua856_0, uc856_0, rfl, ul856_0, ge856_0⟩ := Kd.FK_slice_open hMe856
       have hv856_0 := hcc856 0 _ rfl
       rw [Nat.add_zero, show ((Kd.slice 4 Kd.bool)).sz = 1 from rfl, Nat.mul_one] at hv856_0
       replace hv856_0 := Option.some.inj (hv856_0.symm.trans hx856_0)
       injection hv856_0 with hva_ hvn_ hvc_
       rw [hva_] at ge856_0
       rw [hvc_] at ul856_0
       have HL856_0 := Aside0.mk (show Kd.V Kd.bool 4 _ w.heap.size _ _ (rd_L5 t852 x7_1) from Kd.V_mk ul856_0 ge856_0)
       clear hva_ hvn_ hvc_ ge856_0 ul856_0 hcc856 hce856
       have HR856_0 := Aside0.mk hi856_0
       have HC856_0 := Aside0.mk hl856_0
       clear hi856_0 hl856_0
       replace p856 := eq_true p856
       replace q856 := eq_true q856
       refine start_ (n := 6) (S := fun w' => w'.cell? ⟨gb851, 0, none⟩ = some (.slice A0_0 l0_0.length c0_0) ∧ w'.cell? ⟨gb851, 1, none⟩ = some (.int .i64 a0_1) ∧ w'.cell? ⟨gb851, 2, none⟩ = some (.slice A0_2 l0_2.length c0_2) ∧ w'.cell? ⟨gb851, 3, none⟩ = some (.int .i64 a0_3) ∧ w'.cell? ⟨gb851, 4, none⟩ = some (.slice A0_4 l0_4.length c0_4) ∧ w'.cell? (ad856.add (x7_1).toNat) = some (.slice A856_0 (rd_L5 t852 x7_1).length c856_0)) (ds := []) #[false, false, false, false, false, false] (by kernel_rfl) rfl rfl ⟨(blk_cell BK851.out 0).trans rfl, (blk_cell BK851.out 1).trans rfl, (blk_cell BK851.out 2).trans rfl, (blk_cell BK851.out 3).trans rfl, (blk_cell BK851.out 4).trans rfl, hx856_0⟩ (fun hHeld => ?_)
       generalize wr.drew = w15 at HO_4 BK851 HB HL856_0 HR856_0 hx856_0 hHeld ⊢
       refine pure_ (i := 1) (N := some 23) (v := ?_) (a' := ?_) #[false, true, false, false, false, false] rfl rfl (by kernel_rfl) (fun _ _ _ h => h) (Or.inl ⟨by rfl, ?_⟩) ?_ ?_
       rotate_left
       ·
        intro w'
        go_simp
        with_reducible rfl
       rotate_left
       ·
        simp only [Act.put, put_x, i64_w, i32_w]
        rfl
       refine pure_ (i := 2) (N := some 24) (v := ?_) (a' := ?_) #[false, true, true, false, false, false] rfl rfl (by kernel_rfl) (fun _ _ _ h => h) (Or.inl ⟨by rfl, ?_⟩) ?_ ?_
       rotate_left
       ·
        intro w'
        go_simp
        with_reducible rfl
       rotate_left
       ·
        simp only [Act.put, put_x, i64_w, i32_w]
        rfl
       refine pure_ (i := 3) (N := some 25) (v := ?_) (a' := ?_) #[false, true, true, true, false, false] rfl rfl (by kernel_rfl) (fun _ _ _ h => h) (Or.inl ⟨by rfl, ?_⟩) ?_ ?_
       rotate_left
       ·
        intro w'
        go_simp
        with_reducible rfl
       rotate_left
       ·
        simp only [Act.put, put_x, i64_w, i32_w]
        rfl
       refine take_ (i := 0) (N := some 22) (v := ?_) (a' := ?_) #[true, true, true, true, false, false] rfl rfl (by kernel_rfl) (fun _ _ _ h => h) (Or.inl ⟨by rfl, ?_⟩) hHeld ?_ ?_
       rotate_left
       ·
        rintro w' ⟨s0, s1, s2, s3, s4, s5⟩
        go_simp
        with_reducible rfl
       rotate_left
       ·
        simp only [Act.put, put_x, i64_w, i32_w]
        rfl
       refine take_ (i := 4) (N := some 26) (v := ?_) (a' := ?_) #[true, true, true, true, true, false] rfl rfl (by kernel_rfl) (fun _ _ _ h => h) (Or.inl ⟨by rfl, ?_⟩) hHeld ?_ ?_
       rotate_left
       ·
        rintro w' ⟨s0, s1, s2, s3, s4, s5⟩
        go_simp
        with_reducible rfl
       rotate_left
       ·
        simp only [Act.put, put_x, i64_w, i32_w]
        rfl
       refine one_ (i := 5) (N := some 27) #[true, true, true, true, true, true] rfl rfl (by kernel_rfl) (by decide) (fun K hK => ?_)
       refine goes_ Try.func29 (by kernel_rfl) rfl #[.agg #[.slice A0_0 l0_0.length c0_0, .int .i64 a0_1, .slice A0_2 l0_2.length c0_2, .int .i64 a0_3, .slice A0_4 l0_4.length c0_4], .slice A856_0 (rd_L5 t852 x7_1).length c856_0] (by rfl) rfl rfl (by (try simp only [List.map_toArray, List.map_cons, List.map_nil]); first | done | rfl | (simp only [List.length_drop, List.length_take]; rfl)) ?_
       with_reducible refine (swarfref04_IsClean.calls k1 _ _ l0_0 a0_1 _ _ l0_2 a0_3 _ _ l0_4 _ _ (rd_L5 t852 x7_1) false _ ?side1 ?side2 ?side3 ?side4 ?side5 ?side6 ?side7 ?side8 A9.out).mono ?_
       (case side1 => exact Kd.C_x HR0_0.out HB.out)
       (case side2 => exact HC0_0.out)
       (case side3 => exact Kd.C_x HR0_2.out HB.out)
       (case side4 => exact HC0_2.out)
       (case side5 => exact Kd.C_x HR0_4.out HB.out)
       (case side6 => exact HC0_4.out)
       (case side7 => repeat (first | exact (by repeat (first | (with_reducible exact HR856_0.out) | (with_reducible refine Kd.C_alloc ?_ _) | (with_reducible refine Kd.C_drewN ?_ _) | (with_reducible refine Kd.C_drew ?_) | exact HR856_0.out)) | (with_reducible refine Kd.C_alloc ?_ _) | (with_reducible refine Kd.C_drewN ?_ _) | (with_reducible refine Kd.C_drew ?_)))
       (case side8 => exact HC856_0.out)
       rintro e w16 ⟨rfl, hb⟩
       have HS5_ := (hb.cell (World.block_lt_of_cell? _ _ (hHeld.2.2.2.2.2))).trans (hHeld.2.2.2.2.2)
       refine ⟨_, rfl, ?_⟩
       replace HO_4 := Aside0.mk (Kd.N_below (Kd.N_x HO_4.out) hb)
       replace HL856_0 := Aside0.mk (Kd.V_below (Kd.V_x HL856_0.out) hb)
       replace BK851 := Aside0.mk (blk_below (blk_x BK851.out) hb)
       replace HR856_0 := Aside0.mk (Kd.C_below (by repeat (first | (with_reducible exact HR856_0.out) | (with_reducible refine Kd.C_alloc ?_ _) | (with_reducible refine Kd.C_drewN ?_ _) | (with_reducible refine Kd.C_drew ?_) | exact HR856_0.out)) hb)
       replace HB := bl_x HB hb
       (try clear hb)
       (try clear hb2)
       (try clear hk)
       (try clear hi)
       refine hK.out _ _ ⟨(blk_cell BK851.out 0).trans rfl, (blk_cell BK851.out 1).trans rfl, (blk_cell BK851.out 2).trans rfl, (blk_cell BK851.out 3).trans rfl, (blk_cell BK851.out 4).trans rfl, HS5_⟩ (fun hHeld => ?_)
       clear hK K
       refine norm_ (a' := ?_) ?_ ?_
       rotate_left
       ·
        show Act.put _ (some 27) _ = _
        simp only [Act.put, put_x, i64_w, i32_w]
        rfl
       refine done_ (by kernel_rfl) ?_
       try go_wp2
       go_roundg k1
       case measure => have := HK1.out; omega
       case rel => exact ⟨(x6_1), (wrap64 (x7_1 + 1)), (by first | rfl | (simp; done) | (simp [*]; done)), (by first | rfl | (simp; done) | (simp [*]; done)), H', ⟨by have := HK1.out; omega⟩, ⟨by (with_reducible repeat (first | apply Kd.N_alloc | apply Kd.N_drewN | apply Kd.N_drew)); exact HO_4.out⟩, ⟨blk_x BK851.out⟩, ⟨by exact below_y HB.out⟩⟩
     ·
      rw [if_neg c8] at H
      exact absurd H (by simp)
    ·
     rw [if_neg c7] at H
     have c7b0 : decide (x7_1 < (t852.length : Int)) = false := decide_eq_false c7
     clear c7
     replace H := Option.bind_eq_some_iff.mp H
     obtain ⟨t858, A170, H⟩ := H
     replace H : (some (t858, 0)) = some (r1, r2) := H
     have A17 := Aside0.mk A170
     clear A170
     simp only [Option.some.injEq, Prod.mk.injEq] at H
     obtain ⟨rfl, rfl⟩ := H
     obtain ⟨Ao18, co18, eo18⟩ := Kd.N_slice HO_4.out
     subst eo18
     go_wp2_with (first | ((with_reducible refine gate_callee (f := 69) rfl ?_); refine goesL_ (some 33) rfl rfl Try.func69 (by kernel_rfl) rfl #[.int .i64 x6_1, .int .i64 (t852.length : Int)] rfl (by (try simp only [List.map_toArray, List.map_cons, List.map_nil]); first | done | rfl | (simp only [List.length_drop, List.length_take]; rfl)) ?_; (with_reducible refine (swarfref04_verdict.calls x6_1 (t852.length : Int) t858 _ A17.out).mono ?_); rintro e w' ⟨rfl, ⟨nd, rfl⟩⟩; refine ⟨_, rfl, ?_⟩))
     go_ret2
     exact ⟨by first | rfl | (simp [errW_none, errW_some] <;> rfl) | (simp [*, errW_none, errW_some] <;> rfl), by exact below_y HB.out⟩
 ·
  rw [if_neg c3] at H
  have c3b0 : (t855 == 0) = false := beq_eq_false_iff_ne.mpr c3
  have c3b1 : (t855 != 0) = true := bne_iff_ne.mpr c3
  simp only [Option.some.injEq, Prod.mk.injEq] at H
  obtain ⟨rfl, rfl⟩ := H
  go_enter Try.func37, Try.ntmps37
  go_wp2_with (first | ((with_reducible refine gate_dst (N := 1) rfl ?_); refine box_event ?hg (N := 1) ?hd (cs := #[.slice A0_0 l0_0.length c0_0, .int .i64 a0_1, .slice A0_2 l0_2.length c0_2, .int .i64 a0_3, .slice A0_4 l0_4.length c0_4]) (t := 26) ?hr ?_; (case hd => rfl); (case hg => rfl); (case hr => first | (go_simp; done) | (go_simp; rfl)); intro gb851 hg w19 hbox hb; have BK851 := Aside0.mk (hbox); have GW851 := Aside0.mk ((by rw [hg]; exact (below_size (below_x HB.out)) : w.heap.size ≤ gb851)); have GE851 := Aside0.mk ((by rw [hg]; exact (below_size (below_x HB.out)) : w.heap.size ≤ gb851)); replace HB := Aside0.mk (below_step (below_x HB.out) hb); clear hb hbox hg; obtain ⟨_, _, _, _, _⟩ := cz5 BK851; have hfz20_0 := blk_frozen BK851.out) | ((with_reducible refine gate_callee (f := 68) rfl ?_); refine goesL_ (some 10) rfl rfl Try.func68 (by kernel_rfl) rfl #[.agg #[.slice A0_0 l0_0.length c0_0, .int .i64 a0_1, .slice A0_2 l0_2.length c0_2, .int .i64 a0_3, .slice A0_4 l0_4.length c0_4]] rfl (by (try simp only [List.map_toArray, List.map_cons, List.map_nil]); first | done | rfl | (simp only [List.length_drop, List.length_take]; rfl)) ?_; (with_reducible refine (swarfref04_known.calls k _ _ l0_0 a0_1 _ _ l0_2 a0_3 _ _ l0_4 t852 t855 _ ?side1 ?side2 ?side3 ?side4 ?side5 ?side6 A2.out).mono ?_); (case side1 => exact Kd.C_x HR0_0.out HB.out); (case side2 => exact HC0_0.out); (case side3 => exact Kd.C_x HR0_2.out HB.out); (case side4 => exact HC0_2.out); (case side5 => exact Kd.C_x HR0_4.out HB.out); (case side6 => exact HC0_4.out); rintro e w21 ⟨v853, rfl, ho0, hb⟩; refine ⟨_, rfl, ?_⟩; have HO854 := Aside0.mk (Kd.N_lower (Kd.N_mono (ok' := fun k_ => k_ ≠ gb851) ho0 (fun k_ hk_ => (Kd.freshB (g := gb851) (o := .cells #[.slice A0_0 l0_0.length c0_0, .int .i64 a0_1, .slice A0_2 l0_2.length c0_2, .int .i64 a0_3, .slice A0_4 l0_4.length c0_4] 26 (0, 0)) (blk_x BK851.out) k_ hk_))) (below_size (by exact below_y HB.out))); replace BK851 := Aside0.mk (blk_below (blk_x BK851.out) hb); replace HB := bl_x HB hb; (try clear hb); (try clear hk); (try clear hi); (try clear ho0)))
  go_ret2
  exact ⟨by first | rfl | (simp [errW_none, errW_some] <;> rfl) | (simp [*, errW_none, errW_some] <;> rfl), by exact below_y HB.out⟩
def swarfref04_has.l0 : Nat → List Int → Int → Int → Option (Bool)
 | 0, _, _, _ => none
 | k + 1, x0, x1, x5 => if x5 < (x0.length : Int) then (if 0 ≤ x5 then (if (rd x0 x5) = x1 then (some true) else (swarfref04_has.l0 k x0 x1 (wrap64 (x5 + 1)))) else (none)) else (some false)
def swarfref04_has.f (k : Nat) (l0 : List Int) (a1 : Int) : Option (Bool) := swarfref04_has.l0 k l0 a1 0
set_option maxHeartbeats 8000000 in
set_option maxRecDepth 100000 in
theorem swarfref04_has.calls (k : Nat) (A0 : Option Addr) (c0 : Nat) (l0 : List Int) (a1 : Int) (r : Bool) (w : World) (hr0 : Kd.C (Kd.int .i64) w A0 l0.length l0) (hc0 : l0.length ≤ c0) (h : swarfref04_has.f k l0 a1 = some r) :
  Calls Try.prog 67 #[.slice A0 l0.length c0, .int .i64 a1] w fun e w' => e = .returned (.bool r) ∧ Drawn0 w w' := by
 have HR0 := Aside0.mk hr0
 have HC0 := Aside0.mk hc0
 clear hr0 hc0
 have H : (swarfref04_has.l0 k l0 a1 0) = some r := h
 clear h
 have H' := Aside0.mk H
 clear H
 go_enter Try.func67, Try.ntmps67
 go_wp2
 go_loopg [5] k (fun kq v5 w' => ∃ (x5_1 : Int), v5 = .int .i64 x5_1 ∧ Aside0 (swarfref04_has.l0 kq l0 a1 x5_1 = some r) ∧ Aside0 (kq ≤ k) ∧ Drawn0 w w')
 case atStart => exact ⟨(0), (by first | rfl | (simp; done) | (simp [*]; done)), H', ⟨Nat.le_refl _⟩, by repeat (first | exact Drawn0.refl _ | apply Drawn0.step)⟩
 case round =>
  clear H'
  obtain ⟨x5_1, rfl, HA, HK1, ⟨m1, rfl⟩⟩ := hrel
  cases gk with
  | zero => exact absurd HA.out (by simp [swarfref04_has.l0])
  | succ k1 =>
   have H := HA.out
   clear HA
   simp only [swarfref04_has.l0] at H
   by_cases c3 : x5_1 < (l0.length : Int)
   ·
    rw [if_pos c3] at H
    have c3b0 : decide (x5_1 < (l0.length : Int)) = true := decide_eq_true c3
    clear c3
    by_cases c4 : 0 ≤ x5_1
    ·
     rw [if_pos c4] at H
     have c4b0 : decide (0 ≤ x5_1) = true := decide_eq_true c4
     clear c4
     by_cases c5 : (rd l0 x5_1) = a1
     ·
      rw [if_pos c5] at H
      have c5b0 : ((rd l0 x5_1) == a1) = true := beq_iff_eq.mpr c5
      have c5b1 : ((rd l0 x5_1) != a1) = false := bne_eq_false_iff_eq.mpr c5
      clear c5
      obtain rfl := Option.some.inj H
      have p375 : 0 ≤ (x5_1 : Int) := of_x
      have q375 : x5_1 < (l0.length : Int) := of_x
      obtain ⟨ad375, e375, hx375_0⟩ := Kd.at_int HR0.out x5_1 p375 q375
      cases e375
      replace p375 := eq_true p375
      replace q375 := eq_true q375
      go_wp2
      go_ret
      exact ⟨by first | rfl | (simp; done) | (simp [*]; done), by repeat (first | exact Drawn0.refl _ | apply Drawn0.step)⟩
     ·
      rw [if_neg c5] at H
      have c5b0 : ((rd l0 x5_1) == a1) = false := beq_eq_false_iff_ne.mpr c5
      have c5b1 : ((rd l0 x5_1) != a1) = true := bne_iff_ne.mpr c5
      have H' := Aside0.mk H
      clear H
      have p375 : 0 ≤ (x5_1 : Int) := of_x
      have q375 : x5_1 < (l0.length : Int) := of_x
      obtain ⟨ad375, e375, hx375_0⟩ := Kd.at_int HR0.out x5_1 p375 q375
      cases e375
      replace p375 := eq_true p375
      replace q375 := eq_true q375
      go_wp2
      go_roundg k1
      case measure => have := HK1.out; omega
      case rel => exact ⟨(wrap64 (x5_1 + 1)), (by first | rfl | (simp; done) | (simp [*]; done)), H', ⟨by have := HK1.out; omega⟩, by repeat (first | exact Drawn0.refl _ | apply Drawn0.step)⟩
    ·
     rw [if_neg c4] at H
     exact absurd H (by simp)
   ·
    rw [if_neg c3] at H
    have c3b0 : decide (x5_1 < (l0.length : Int)) = false := decide_eq_false c3
    clear c3
    obtain rfl := Option.some.inj H
    go_wp2
    go_ret
    exact ⟨by first | rfl | (simp; done) | (simp [*]; done), by repeat (first | exact Drawn0.refl _ | apply Drawn0.step)⟩
def swarfref04_Crush.l0 : Nat → List Int → Int → List (S50) → Int → List (S61) → Int → List Int → Option (Int)
 | 0, _, _, _, _, _, _, _ => none
 | k + 1, x1, x6, x904000, x904001, x904002, x904003, x904004 => if x6 < (x904004.length : Int) then (if 0 ≤ x6 then ((swarfref04_has.f k x1 (rd x904004 x6)).bind fun t906 => (if t906 = true then (swarfref04_Crush.l0 k x1 (wrap64 (x6 + 1)) x904000 x904001 x904002 x904003 x904004) else (some 14))) else (none)) else ((swarfref04_Clean.f k x904000 x904001 x904002 x904003 x904004).bind fun bt907 => (if bt907.2 = 0 then (if bt907.1 = 1 then (some 0) else (some 15)) else (some bt907.2)))
def swarfref04_Crush.f (k : Nat) (l0_0 : List (S50)) (a0_1 : Int) (l0_2 : List (S61)) (a0_3 : Int) (l0_4 : List Int) (l1 : List Int) : Option (Int) := (swarfref04_Check.f k l0_0 a0_1 l0_2 a0_3 l0_4).bind fun t904 => (if t904 = 0 then (swarfref04_Crush.l0 k l1 0 l0_0 a0_1 l0_2 a0_3 l0_4) else (some t904))
set_option maxHeartbeats 8000000 in
set_option maxRecDepth 100000 in
theorem swarfref04_Crush.calls (k : Nat) (A0_0 : Option Addr) (c0_0 : Nat) (l0_0 : List (S50)) (a0_1 : Int) (A0_2 : Option Addr) (c0_2 : Nat) (l0_2 : List (S61)) (a0_3 : Int) (A0_4 : Option Addr) (c0_4 : Nat) (l0_4 : List Int) (A1 : Option Addr) (c1 : Nat) (l1 : List Int) (r : Int) (w : World) (hr0_0 : Kd.C k50 w A0_0 l0_0.length l0_0) (hc0_0 : l0_0.length ≤ c0_0) (hr0_2 : Kd.C k61 w A0_2 l0_2.length l0_2) (hc0_2 : l0_2.length ≤ c0_2) (hr0_4 : Kd.C (Kd.int .i64) w A0_4 l0_4.length l0_4) (hc0_4 : l0_4.length ≤ c0_4) (hr1 : Kd.C (Kd.int .i64) w A1 l1.length l1) (hc1 : l1.length ≤ c1) (h : swarfref04_Crush.f k l0_0 a0_1 l0_2 a0_3 l0_4 l1 = some r) :
  Calls Try.prog 45 #[.agg #[.slice A0_0 l0_0.length c0_0, .int .i64 a0_1, .slice A0_2 l0_2.length c0_2, .int .i64 a0_3, .slice A0_4 l0_4.length c0_4], .slice A1 l1.length c1] w fun e w' => e = .returned (.int .i64 r) ∧ Below w.heap.size w w' := by
 have hu26 := Try.underlying26
 have HR0_0 := Aside0.mk hr0_0
 have HC0_0 := Aside0.mk hc0_0
 clear hr0_0 hc0_0
 have HR0_2 := Aside0.mk hr0_2
 have HC0_2 := Aside0.mk hc0_2
 clear hr0_2 hc0_2
 have HR0_4 := Aside0.mk hr0_4
 have HC0_4 := Aside0.mk hc0_4
 clear hr0_4 hc0_4
 have HR1 := Aside0.mk hr1
 have HC1 := Aside0.mk hc1
 clear hr1 hc1
 have HB := Aside0.mk (Below.refl w.heap.size w)
 have H : ((swarfref04_Check.f k l0_0 a0_1 l0_2 a0_3 l0_4).bind fun t904 => (if t904 = 0 then (swarfref04_Crush.l0 k l1 0 l0_0 a0_1 l0_2 a0_3 l0_4) else (some t904))) = some r := h
 clear h
 replace H := Option.bind_eq_some_iff.mp H
 obtain ⟨t904, A30, H⟩ := H
 try dsimp only at H
 have A3 := Aside0.mk A30
 clear A30
 by_cases c4 : t904 = 0
 ·
  rw [if_pos c4] at H
  have c4b0 : (t904 == 0) = true := beq_iff_eq.mpr c4
  have c4b1 : (t904 != 0) = false := bne_eq_false_iff_eq.mpr c4
  clear c4
  have H' := Aside0.mk H
  clear H
  go_enter Try.func45, Try.ntmps45
  go_wp2_with (first | ((with_reducible refine gate_dst (N := 2) rfl ?_); refine box_event ?hg (N := 2) ?hd (cs := #[.slice A0_0 l0_0.length c0_0, .int .i64 a0_1, .slice A0_2 l0_2.length c0_2, .int .i64 a0_3, .slice A0_4 l0_4.length c0_4]) (t := 26) ?hr ?_; (case hd => rfl); (case hg => rfl); (case hr => first | (go_simp; done) | (go_simp; rfl)); intro gb903 hg w5 hbox hb; have BK903 := Aside0.mk (hbox); have GW903 := Aside0.mk ((by rw [hg]; exact (below_size (below_x HB.out)) : w.heap.size ≤ gb903)); have GE903 := Aside0.mk ((by rw [hg]; exact (below_size (below_x HB.out)) : w.heap.size ≤ gb903)); replace HB := Aside0.mk (below_step (below_x HB.out) hb); clear hb hbox hg; obtain ⟨_, _, _, _, _⟩ := cz5 BK903; have hfz6_0 := blk_frozen BK903.out) | ((with_reducible refine gate_callee (f := 15) rfl ?_); refine goesL_ (some 10) rfl rfl Try.func15 (by kernel_rfl) rfl #[.agg #[.slice A0_0 l0_0.length c0_0, .int .i64 a0_1, .slice A0_2 l0_2.length c0_2, .int .i64 a0_3, .slice A0_4 l0_4.length c0_4]] rfl (by (try simp only [List.map_toArray, List.map_cons, List.map_nil]); first | done | rfl | (simp only [List.length_drop, List.length_take]; rfl)) ?_; (with_reducible refine (swarfref04_Check.calls k _ _ l0_0 a0_1 _ _ l0_2 a0_3 _ _ l0_4 t904 _ ?side1 ?side2 ?side3 ?side4 ?side5 ?side6 A3.out).mono ?_); (case side1 => exact Kd.C_x HR0_0.out HB.out); (case side2 => exact HC0_0.out); (case side3 => exact Kd.C_x HR0_2.out HB.out); (case side4 => exact HC0_2.out); (case side5 => exact Kd.C_x HR0_4.out HB.out); (case side6 => exact HC0_4.out); rintro e w7 ⟨rfl, hb⟩; refine ⟨_, rfl, ?_⟩; replace BK903 := Aside0.mk (blk_below (blk_x BK903.out) hb); replace HB := bl_x HB hb; (try clear hb); (try clear hk); (try clear hi)))
  go_loopg [6] k (fun kq v6 w' => ∃ (x6_1 : Int), v6 = .int .i64 x6_1 ∧ Aside0 (swarfref04_Crush.l0 kq l1 x6_1 l0_0 a0_1 l0_2 a0_3 l0_4 = some r) ∧ Aside0 (kq ≤ k) ∧ Aside0 (w'.heap[gb903]? = some (.cells #[(.slice A0_0 l0_0.length c0_0), .int .i64 a0_1, (.slice A0_2 l0_2.length c0_2), .int .i64 a0_3, (.slice A0_4 l0_4.length c0_4)] 26 (0, 0))) ∧ Aside0 (Below w.heap.size w w'))
  case atStart => exact ⟨(0), (by first | rfl | (simp; done) | (simp [*]; done)), H', ⟨Nat.le_refl _⟩, ⟨blk_x BK903.out⟩, ⟨by exact below_y HB.out⟩⟩
  case round =>
   clear H'
   obtain ⟨x6_1, rfl, HA, HK1, BK903, HB⟩ := hrel
   cases gk with
   | zero => exact absurd HA.out (by simp [swarfref04_Crush.l0])
   | succ k1 =>
    have H := HA.out
    clear HA
    simp only [swarfref04_Crush.l0] at H
    by_cases c8 : x6_1 < (l0_4.length : Int)
    ·
     rw [if_pos c8] at H
     have c8b0 : decide (x6_1 < (l0_4.length : Int)) = true := decide_eq_true c8
     clear c8
     by_cases c9 : 0 ≤ x6_1
     ·
      rw [if_pos c9] at H
      have c9b0 : decide (0 ≤ x6_1) = true := decide_eq_true c9
      clear c9
      replace H := Option.bind_eq_some_iff.mp H
      obtain ⟨t906, A100, H⟩ := H
      try dsimp only at H
      have A10 := Aside0.mk A100
      clear A100
      by_cases c11 : t906 = true
      ·
       subst c11
       have H1 : (swarfref04_Crush.l0 k1 l1 (wrap64 (x6_1 + 1)) l0_0 a0_1 l0_2 a0_3 l0_4) = some r := by rw [if_pos rfl] at H; exact H
       clear H
       have H := H1
       clear H1
       have H' := Aside0.mk H
       clear H
       obtain ⟨_, _, _, _, _⟩ := cz5 BK903
       have hfz12_0 := blk_frozen BK903.out
       have p905 : 0 ≤ (x6_1 : Int) := of_x
       have q905 : x6_1 < (l0_4.length : Int) := of_x
       obtain ⟨ad905, e905, hx905_0⟩ := Kd.at_int HR0_4.out x6_1 p905 q905
       cases e905
       replace hx905_0 := cell_x HB hx905_0
       replace p905 := eq_true p905
       replace q905 := eq_true q905
       go_wp2_with (first | ((with_reducible refine gate_callee (f := 67) rfl ?_); refine goesL_ (some 27) rfl rfl Try.func67 (by kernel_rfl) rfl #[.slice A1 l1.length c1, .int .i64 (rd l0_4 x6_1)] rfl (by (try simp only [List.map_toArray, List.map_cons, List.map_nil]); first | done | rfl | (simp only [List.length_drop, List.length_take]; rfl)) ?_; (with_reducible refine (swarfref04_has.calls k1 _ _ l1 (rd l0_4 x6_1) true _ ?side1 ?side2 A10.out).mono ?_); (case side1 => exact Kd.C_x HR1.out HB.out); (case side2 => exact HC1.out); rintro e w' ⟨rfl, ⟨nd, rfl⟩⟩; refine ⟨_, rfl, ?_⟩))
       go_roundg k1
       case measure => have := HK1.out; omega
       case rel => exact ⟨(wrap64 (x6_1 + 1)), (by first | rfl | (simp; done) | (simp [*]; done)), H', ⟨by have := HK1.out; omega⟩, ⟨blk_x BK903.out⟩, ⟨by exact below_y HB.out⟩⟩
      ·
       replace c11 := Bool.eq_false_iff.mpr c11
       subst c11
       have H1 : (some 14) = some r := by rw [if_neg (show ¬ (false = true) by decide)] at H; exact H
       clear H
       have H := H1
       clear H1
       obtain rfl := Option.some.inj H
       obtain ⟨_, _, _, _, _⟩ := cz5 BK903
       have hfz13_0 := blk_frozen BK903.out
       have p905 : 0 ≤ (x6_1 : Int) := of_x
       have q905 : x6_1 < (l0_4.length : Int) := of_x
       obtain ⟨ad905, e905, hx905_0⟩ := Kd.at_int HR0_4.out x6_1 p905 q905
       cases e905
       replace hx905_0 := cell_x HB hx905_0
       replace p905 := eq_true p905
       replace q905 := eq_true q905
       go_wp2_with (first | ((with_reducible refine gate_callee (f := 67) rfl ?_); refine goesL_ (some 27) rfl rfl Try.func67 (by kernel_rfl) rfl #[.slice A1 l1.length c1, .int .i64 (rd l0_4 x6_1)] rfl (by (try simp only [List.map_toArray, List.map_cons, List.map_nil]); first | done | rfl | (simp only [List.length_drop, List.length_take]; rfl)) ?_; (with_reducible refine (swarfref04_has.calls k1 _ _ l1 (rd l0_4 x6_1) false _ ?side1 ?side2 A10.out).mono ?_); (case side1 => exact Kd.C_x HR1.out HB.out); (case side2 => exact HC1.out); rintro e w' ⟨rfl, ⟨nd, rfl⟩⟩; refine ⟨_, rfl, ?_⟩))
       go_ret
       exact ⟨by first | rfl | (simp [errW_none, errW_some] <;> rfl) | (simp [*, errW_none, errW_some] <;> rfl), by exact below_y HB.out⟩
     ·
      rw [if_neg c9] at H
      exact absurd H (by simp)
    ·
     rw [if_neg c8] at H
     have c8b0 : decide (x6_1 < (l0_4.length : Int)) = false := decide_eq_false c8
     clear c8
     replace H := Option.bind_eq_some_iff.mp H
     obtain ⟨⟨t907, t908⟩, A140, H⟩ := H
     try dsimp only at H
     have A14 := Aside0.mk A140
     clear A140
     by_cases c15 : t908 = 0
     ·
      rw [if_pos c15] at H
      have c15b0 : (t908 == 0) = true := beq_iff_eq.mpr c15
      have c15b1 : (t908 != 0) = false := bne_eq_false_iff_eq.mpr c15
      clear c15
      by_cases c16 : t907 = 1
      ·
       rw [if_pos c16] at H
       have c16b0 : (t907 == 1) = true := beq_iff_eq.mpr c16
       have c16b1 : (t907 != 1) = false := bne_eq_false_iff_eq.mpr c16
       clear c16
       obtain rfl := Option.some.inj H
       obtain ⟨_, _, _, _, _⟩ := cz5 BK903
       have hfz17_0 := blk_frozen BK903.out
       go_wp2_with (first | ((with_reducible refine gate_callee (f := 37) rfl ?_); refine goesL_ (some 31) rfl rfl Try.func37 (by kernel_rfl) rfl #[.agg #[.slice A0_0 l0_0.length c0_0, .int .i64 a0_1, .slice A0_2 l0_2.length c0_2, .int .i64 a0_3, .slice A0_4 l0_4.length c0_4]] rfl (by (try simp only [List.map_toArray, List.map_cons, List.map_nil]); first | done | rfl | (simp only [List.length_drop, List.length_take]; rfl)) ?_; (with_reducible refine (swarfref04_Clean.calls k1 _ _ l0_0 a0_1 _ _ l0_2 a0_3 _ _ l0_4 t907 t908 _ ?side1 ?side2 ?side3 ?side4 ?side5 ?side6 A14.out).mono ?_); (case side1 => exact Kd.C_x HR0_0.out HB.out); (case side2 => exact HC0_0.out); (case side3 => exact Kd.C_x HR0_2.out HB.out); (case side4 => exact HC0_2.out); (case side5 => exact Kd.C_x HR0_4.out HB.out); (case side6 => exact HC0_4.out); rintro e w18 ⟨rfl, hb⟩; refine ⟨_, rfl, ?_⟩; replace BK903 := Aside0.mk (blk_below (blk_x BK903.out) hb); replace HB := bl_x HB hb; (try clear hb); (try clear hk); (try clear hi)))
       go_ret
       exact ⟨by first | rfl | (simp [errW_none, errW_some] <;> rfl) | (simp [*, errW_none, errW_some] <;> rfl), by exact below_y HB.out⟩
      ·
       rw [if_neg c16] at H
       have c16b0 : (t907 == 1) = false := beq_eq_false_iff_ne.mpr c16
       have c16b1 : (t907 != 1) = true := bne_iff_ne.mpr c16
       obtain rfl := Option.some.inj H
       obtain ⟨_, _, _, _, _⟩ := cz5 BK903
       have hfz19_0 := blk_frozen BK903.out
       go_wp2_with (first | ((with_reducible refine gate_callee (f := 37) rfl ?_); refine goesL_ (some 31) rfl rfl Try.func37 (by kernel_rfl) rfl #[.agg #[.slice A0_0 l0_0.length c0_0, .int .i64 a0_1, .slice A0_2 l0_2.length c0_2, .int .i64 a0_3, .slice A0_4 l0_4.length c0_4]] rfl (by (try simp only [List.map_toArray, List.map_cons, List.map_nil]); first | done | rfl | (simp only [List.length_drop, List.length_take]; rfl)) ?_; (with_reducible refine (swarfref04_Clean.calls k1 _ _ l0_0 a0_1 _ _ l0_2 a0_3 _ _ l0_4 t907 t908 _ ?side1 ?side2 ?side3 ?side4 ?side5 ?side6 A14.out).mono ?_); (case side1 => exact Kd.C_x HR0_0.out HB.out); (case side2 => exact HC0_0.out); (case side3 => exact Kd.C_x HR0_2.out HB.out); (case side4 => exact HC0_2.out); (case side5 => exact Kd.C_x HR0_4.out HB.out); (case side6 => exact HC0_4.out); rintro e w20 ⟨rfl, hb⟩; refine ⟨_, rfl, ?_⟩; replace BK903 := Aside0.mk (blk_below (blk_x BK903.out) hb); replace HB := bl_x HB hb; (try clear hb); (try clear hk); (try clear hi)))
       go_ret
       exact ⟨by first | rfl | (simp [errW_none, errW_some] <;> rfl) | (simp [*, errW_none, errW_some] <;> rfl), by exact below_y HB.out⟩
     ·
      rw [if_neg c15] at H
      have c15b0 : (t908 == 0) = false := beq_eq_false_iff_ne.mpr c15
      have c15b1 : (t908 != 0) = true := bne_iff_ne.mpr c15
      obtain rfl := Option.some.inj H
      obtain ⟨_, _, _, _, _⟩ := cz5 BK903
      have hfz21_0 := blk_frozen BK903.out
      go_wp2_with (first | ((with_reducible refine gate_callee (f := 37) rfl ?_); refine goesL_ (some 31) rfl rfl Try.func37 (by kernel_rfl) rfl #[.agg #[.slice A0_0 l0_0.length c0_0, .int .i64 a0_1, .slice A0_2 l0_2.length c0_2, .int .i64 a0_3, .slice A0_4 l0_4.length c0_4]] rfl (by (try simp only [List.map_toArray, List.map_cons, List.map_nil]); first | done | rfl | (simp only [List.length_drop, List.length_take]; rfl)) ?_; (with_reducible refine (swarfref04_Clean.calls k1 _ _ l0_0 a0_1 _ _ l0_2 a0_3 _ _ l0_4 t907 t908 _ ?side1 ?side2 ?side3 ?side4 ?side5 ?side6 A14.out).mono ?_); (case side1 => exact Kd.C_x HR0_0.out HB.out); (case side2 => exact HC0_0.out); (case side3 => exact Kd.C_x HR0_2.out HB.out); (case side4 => exact HC0_2.out); (case side5 => exact Kd.C_x HR0_4.out HB.out); (case side6 => exact HC0_4.out); rintro e w22 ⟨rfl, hb⟩; refine ⟨_, rfl, ?_⟩; replace BK903 := Aside0.mk (blk_below (blk_x BK903.out) hb); replace HB := bl_x HB hb; (try clear hb); (try clear hk); (try clear hi)))
      go_ret
      exact ⟨by first | rfl | (simp [errW_none, errW_some] <;> rfl) | (simp [*, errW_none, errW_some] <;> rfl), by exact below_y HB.out⟩
 ·
  rw [if_neg c4] at H
  have c4b0 : (t904 == 0) = false := beq_eq_false_iff_ne.mpr c4
  have c4b1 : (t904 != 0) = true := bne_iff_ne.mpr c4
  obtain rfl := Option.some.inj H
  go_enter Try.func45, Try.ntmps45
  go_wp2_with (first | ((with_reducible refine gate_dst (N := 2) rfl ?_); refine box_event ?hg (N := 2) ?hd (cs := #[.slice A0_0 l0_0.length c0_0, .int .i64 a0_1, .slice A0_2 l0_2.length c0_2, .int .i64 a0_3, .slice A0_4 l0_4.length c0_4]) (t := 26) ?hr ?_; (case hd => rfl); (case hg => rfl); (case hr => first | (go_simp; done) | (go_simp; rfl)); intro gb903 hg w23 hbox hb; have BK903 := Aside0.mk (hbox); have GW903 := Aside0.mk ((by rw [hg]; exact (below_size (below_x HB.out)) : w.heap.size ≤ gb903)); have GE903 := Aside0.mk ((by rw [hg]; exact (below_size (below_x HB.out)) : w.heap.size ≤ gb903)); replace HB := Aside0.mk (below_step (below_x HB.out) hb); clear hb hbox hg; obtain ⟨_, _, _, _, _⟩ := cz5 BK903; have hfz24_0 := blk_frozen BK903.out) | ((with_reducible refine gate_callee (f := 15) rfl ?_); refine goesL_ (some 10) rfl rfl Try.func15 (by kernel_rfl) rfl #[.agg #[.slice A0_0 l0_0.length c0_0, .int .i64 a0_1, .slice A0_2 l0_2.length c0_2, .int .i64 a0_3, .slice A0_4 l0_4.length c0_4]] rfl (by (try simp only [List.map_toArray, List.map_cons, List.map_nil]); first | done | rfl | (simp only [List.length_drop, List.length_take]; rfl)) ?_; (with_reducible refine (swarfref04_Check.calls k _ _ l0_0 a0_1 _ _ l0_2 a0_3 _ _ l0_4 t904 _ ?side1 ?side2 ?side3 ?side4 ?side5 ?side6 A3.out).mono ?_); (case side1 => exact Kd.C_x HR0_0.out HB.out); (case side2 => exact HC0_0.out); (case side3 => exact Kd.C_x HR0_2.out HB.out); (case side4 => exact HC0_2.out); (case side5 => exact Kd.C_x HR0_4.out HB.out); (case side6 => exact HC0_4.out); rintro e w25 ⟨rfl, hb⟩; refine ⟨_, rfl, ?_⟩; replace BK903 := Aside0.mk (blk_below (blk_x BK903.out) hb); replace HB := bl_x HB hb; (try clear hb); (try clear hk); (try clear hi)))
  go_ret
  exact ⟨by first | rfl | (simp [errW_none, errW_some] <;> rfl) | (simp [*, errW_none, errW_some] <;> rfl), by exact below_y HB.out⟩
end Go.Proofs.Ytkkmfcdikkiodaa.PC4
namespace Go.Proofs.Ytkkmfcdikkiodaa.PC4
set_option linter.unusedVariables false
set_option linter.unusedSimpArgs false
open Go.RowKit Go.Proofs.YtkkmfcdikkiodaaW.PrintWords Go.Proofs.YtkkmfcdikkiodaaW.PrintLast Go.Proofs.YtkkmfcdikkiodaaW.PrintMore
theorem alloc_keeps {w : World} {a : Addr} {v : Value} (h : w.cell? a = some v) : ∀ o, (w.alloc o).cell? a = some v := fun o => (World.cell?_alloc_lt _ _ _ (World.block_lt_of_cell? _ _ h)).trans h
set_option maxHeartbeats 8000000 in
set_option maxRecDepth 100000 in
theorem equalCars_same (A0 : Option Addr) (c0 : Nat) (parts : List S50) (swap : Int) (A2 : Option Addr) (c2 : Nat) (looks : List S61) (wrong : Int) (A4 : Option Addr) (c4 : Nat) (needs : List Int) (B0 : Option Addr) (d0 : Nat) (B2 : Option Addr) (d2 : Nat) (B4 : Option Addr) (d4 : Nat) (w : World)
    (ha0 : Kd.C k50 w A0 parts.length parts) (hac0 : parts.length ≤ c0) (ha2 : Kd.C k61 w A2 looks.length looks) (hac2 : looks.length ≤ c2) (ha4 : Kd.C (Kd.int .i64) w A4 needs.length needs) (hac4 : needs.length ≤ c4)
    (hb0 : Kd.C k50 w B0 parts.length parts) (hbc0 : parts.length ≤ d0) (hb2 : Kd.C k61 w B2 looks.length looks) (hbc2 : looks.length ≤ d2) (hb4 : Kd.C (Kd.int .i64) w B4 needs.length needs) (hbc4 : needs.length ≤ d4)
    (hpl : parts.length ≤ 1000000) (hll : looks.length ≤ 1000000) (hn : ∃ k, swarfkit_EqualInts.f k needs needs = some true) (hb : ∀ p, p ∈ parts → ∃ k, swarfkit_EqualInts.f k p.f0 p.f0 = some true) :
    Calls Try.prog 23 #[.agg #[.slice A0 parts.length c0, .int .i64 swap, .slice A2 looks.length c2, .int .i64 wrong, .slice A4 needs.length c4], .agg #[.slice B0 parts.length d0, .int .i64 swap, .slice B2 looks.length d2, .int .i64 wrong, .slice B4 needs.length d4]] w fun e w' => e = .returned (.bool true) ∧ Below w.heap.size w w' := by
  have hu26 := Try.underlying26
  have hu50 := Try.underlying50
  have hu61 := Try.underlying61
  obtain ⟨kn, hn⟩ := hn
  have HA0 := Aside0.mk ha0
  have HA2 := Aside0.mk ha2
  have HA4 := Aside0.mk ha4
  have HB0 := Aside0.mk hb0
  have HB2 := Aside0.mk hb2
  have HB4 := Aside0.mk hb4
  have HN := Aside0.mk hn
  have HBF := Aside0.mk hb
  clear ha0 ha2 ha4 hb0 hb2 hb4 hn hb
  go_enter Try.func23, Try.ntmps23
  go_wp2_with (first
    | ((with_reducible refine gate_dst (N := 2) rfl ?_); refine box_event ?hg (N := 2) ?hd (cs := #[.slice A0 parts.length c0, .int .i64 swap, .slice A2 looks.length c2, .int .i64 wrong, .slice A4 needs.length c4]) (t := 26) ?hr ?_; (case hd => rfl); (case hg => rfl); (case hr => first | (go_simp; done) | (go_simp; rfl)); intro ga hga w1 hbox hbw; have BA := Aside0.mk hbox; have HW := Aside0.mk hbw; clear hga hbox hbw)
    | ((with_reducible refine gate_dst (N := 3) rfl ?_); refine box_event ?hg (N := 3) ?hd (cs := #[.slice B0 parts.length d0, .int .i64 swap, .slice B2 looks.length d2, .int .i64 wrong, .slice B4 needs.length d4]) (t := 26) ?hr ?_; (case hd => rfl); (case hg => rfl); (case hr => first | (go_simp; done) | (go_simp; rfl)); intro gb hgb w2 hbox hbw; have BB := Aside0.mk hbox; have BA2 := Aside0.mk (blk_below BA.out hbw); have HW2 := Aside0.mk (below_step HW.out hbw); clear hgb hbox hbw BA HW; have hx0 := (blk_cell BA2.out 0).trans rfl; have hx1 := (blk_cell BA2.out 1).trans rfl; have hx2 := (blk_cell BA2.out 2).trans rfl; have hx3 := (blk_cell BA2.out 3).trans rfl; have hx4 := (blk_cell BA2.out 4).trans rfl; have hy0 := (blk_cell BB.out 0).trans rfl; have hy1 := (blk_cell BB.out 1).trans rfl; have hy2 := (blk_cell BB.out 2).trans rfl; have hy3 := (blk_cell BB.out 3).trans rfl; have hy4 := (blk_cell BB.out 4).trans rfl)
    | (go_at_call 22; refine (swarfkit_EqualInts.calls kn A4 c4 needs B4 d4 needs true w2 (Kd.C_below HA4.out HW2.out) hac4 (Kd.C_below HB4.out HW2.out) hbc4 HN.out).mono ?_; rintro e w3 ⟨rfl, ⟨m3, rfl⟩⟩))
  obtain ⟨w4, hw4⟩ : ∃ w4 : World, w4 = w2.drewN m3 := ⟨_, rfl⟩
  have BA4 := Aside0.mk (show w4.heap[ga]? = some (.cells #[.slice A0 parts.length c0, .int .i64 swap, .slice A2 looks.length c2, .int .i64 wrong, .slice A4 needs.length c4] 26 (0, 0)) by rw [hw4]; exact BA2.out)
  have BB4 := Aside0.mk (show w4.heap[gb]? = some (.cells #[.slice B0 parts.length d0, .int .i64 swap, .slice B2 looks.length d2, .int .i64 wrong, .slice B4 needs.length d4] 26 (0, 0)) by rw [hw4]; exact BB.out)
  have HW4 := Aside0.mk (show Below w.heap.size w w4 by rw [hw4]; exact pw_below_drewN HW2.out m3)
  rw [← hw4]
  clear hw4 BA2 BB HW2 hx0 hx1 hx2 hx3 hx4 hy0 hy1 hy2 hy3 hy4
  go_loopg [5, 6] parts.length (fun gk v5 v6 wr => ∃ k : Nat, k ≤ parts.length ∧ parts.length - k ≤ gk ∧ v5 = .bool true ∧ v6 = .int .i64 k ∧ Aside0 (wr.heap[ga]? = some (.cells #[.slice A0 parts.length c0, .int .i64 swap, .slice A2 looks.length c2, .int .i64 wrong, .slice A4 needs.length c4] 26 (0, 0))) ∧ Aside0 (wr.heap[gb]? = some (.cells #[.slice B0 parts.length d0, .int .i64 swap, .slice B2 looks.length d2, .int .i64 wrong, .slice B4 needs.length d4] 26 (0, 0))) ∧ Aside0 (Below w.heap.size w wr))
  case atStart => exact ⟨0, Nat.zero_le _, by omega, rfl, rfl, BA4, BB4, HW4⟩
  case round =>
    clear BA4 BB4 HW4
    obtain ⟨k, hk, hgk, rfl, rfl, BA4, BB4, HW4⟩ := hrel
    have hx0 := (blk_cell BA4.out 0).trans rfl
    have hy0 := (blk_cell BB4.out 0).trans rfl
    by_cases hlt : k < parts.length
    · have hlz : (k : Int) < (parts.length : Int) := by omega
      obtain ⟨ad, A1, a1, e, hp0, hp1, hp2, hp3, hl1, hi1⟩ := at_T50 HA0.out (k : Int) (by omega) hlz
      cases e
      obtain ⟨bd, B1, b1, e, hq0, hq1, hq2, hq3, hl2, hi2⟩ := at_T50 HB0.out (k : Int) (by omega) hlz
      cases e
      rw [Int.toNat_natCast] at hp0 hp1 hp2 hp3 hq0 hq1 hq2 hq3
      replace hp0 := (HW4.out.cell (World.block_lt_of_cell? w _ hp0)).trans hp0
      replace hp1 := (HW4.out.cell (World.block_lt_of_cell? w _ hp1)).trans hp1
      replace hp2 := (HW4.out.cell (World.block_lt_of_cell? w _ hp2)).trans hp2
      replace hp3 := (HW4.out.cell (World.block_lt_of_cell? w _ hp3)).trans hp3
      replace hq0 := (HW4.out.cell (World.block_lt_of_cell? w _ hq0)).trans hq0
      replace hq1 := (HW4.out.cell (World.block_lt_of_cell? w _ hq1)).trans hq1
      replace hq2 := (HW4.out.cell (World.block_lt_of_cell? w _ hq2)).trans hq2
      replace hq3 := (HW4.out.cell (World.block_lt_of_cell? w _ hq3)).trans hq3
      have hE : rd_T50 parts (k : Int) ∈ parts := by
        have : rd_T50 parts (k : Int) = parts.getD k z50 := by simp [rd_T50]
        rw [this, List.getD, List.getElem?_eq_getElem hlt]; exact List.getElem_mem hlt
      obtain ⟨ke, he⟩ := HBF.out _ hE
      have HE := Aside0.mk he
      have HI1 := Aside0.mk hi1
      have HI2 := Aside0.mk hi2
      clear he hE hi1 hi2
      generalize rd_T50 parts (k : Int) = y at *
      go_upto_region 5 with (fail)
      obtain ⟨wo, hwo⟩ : ∃ wo : World, wo = wr := ⟨_, rfl⟩
      rw [← hwo] at BA4 BB4 HW4 hx0 hy0 hp0 hp1 hp2 hp3 hq0 hq1 hq2 hq3 ⊢
      clear hwo
      go_cut [7, 8] (fun v7 v8 wc => ∃ p q : Nat, v7 = .pointer (some ⟨p, 0, none⟩) ∧ v8 = .pointer (some ⟨q, 0, none⟩) ∧ Aside0 (wc.heap[p]? = some (.cells #[.slice A1 y.f0.length a1, .bool y.f1, .int .i64 y.f2, .int .i64 y.f3] 50 (0, 0))) ∧ Aside0 (wc.heap[q]? = some (.cells #[.slice B1 y.f0.length b1, .bool y.f1, .int .i64 y.f2, .int .i64 y.f3] 50 (0, 0))) ∧ Aside0 (Below wo.heap.size wo wc))
      case first =>
        have hx0a := alloc_keeps hx0
        have hx0b := fun o => alloc_keeps (hx0a o)
        have hy0a := alloc_keeps hy0
        have hy0b := fun o => alloc_keeps (hy0a o)
        have hp0a := alloc_keeps hp0
        have hp0b := fun o => alloc_keeps (hp0a o)
        have hp1a := alloc_keeps hp1
        have hp1b := fun o => alloc_keeps (hp1a o)
        have hp2a := alloc_keeps hp2
        have hp2b := fun o => alloc_keeps (hp2a o)
        have hp3a := alloc_keeps hp3
        have hp3b := fun o => alloc_keeps (hp3a o)
        have hq0a := alloc_keeps hq0
        have hq0b := fun o => alloc_keeps (hq0a o)
        have hq1a := alloc_keeps hq1
        have hq1b := fun o => alloc_keeps (hq1a o)
        have hq2a := alloc_keeps hq2
        have hq2b := fun o => alloc_keeps (hq2a o)
        have hq3a := alloc_keeps hq3
        have hq3b := fun o => alloc_keeps (hq3a o)
        go_region
        all_goals
          go_wp2
          go_meet
          case rel => first
            | exact ⟨_, _, rfl, rfl, ⟨blk_drew (blk_alloc (blk_new wo (.cells #[.slice A1 y.f0.length a1, .bool y.f1, .int .i64 y.f2, .int .i64 y.f3] 50 (0, 0))) _)⟩, ⟨blk_drew (by have h_ := blk_new (wo.alloc (.cells #[.slice A1 y.f0.length a1, .bool y.f1, .int .i64 y.f2, .int .i64 y.f3] 50 (0, 0))) (.cells #[.slice B1 y.f0.length b1, .bool y.f1, .int .i64 y.f2, .int .i64 y.f3] 50 (0, 0)); simpa using h_)⟩, ⟨below_drew1 (below_alloc (below_alloc (Below.refl _ _) _) _)⟩⟩
            | exact ⟨_, _, rfl, rfl, ⟨blk_drew (by have h_ := blk_new (wo.alloc (.cells #[.slice B1 y.f0.length b1, .bool y.f1, .int .i64 y.f2, .int .i64 y.f3] 50 (0, 0))) (.cells #[.slice A1 y.f0.length a1, .bool y.f1, .int .i64 y.f2, .int .i64 y.f3] 50 (0, 0)); simpa using h_)⟩, ⟨blk_drew (blk_alloc (blk_new wo (.cells #[.slice B1 y.f0.length b1, .bool y.f1, .int .i64 y.f2, .int .i64 y.f3] 50 (0, 0))) _)⟩, ⟨below_drew1 (below_alloc (below_alloc (Below.refl _ _) _) _)⟩⟩
      case rest =>
        obtain ⟨p, q, rfl, rfl, BP, BQ, HWc⟩ := hcut
        have BA5 := Aside0.mk (blk_below BA4.out HWc.out)
        have BB5 := Aside0.mk (blk_below BB4.out HWc.out)
        have HW5 := Aside0.mk (below_step HW4.out HWc.out)
        clear hx0 hy0 hp0 hp1 hp2 hp3 hq0 hq1 hq2 hq3 BA4 BB4 HW4 HWc
        have hp0 := (blk_cell BP.out 0).trans rfl
        have hp1 := (blk_cell BP.out 1).trans rfl
        have hp2 := (blk_cell BP.out 2).trans rfl
        have hp3 := (blk_cell BP.out 3).trans rfl
        have hq0 := (blk_cell BQ.out 0).trans rfl
        have hq1 := (blk_cell BQ.out 1).trans rfl
        have hq2 := (blk_cell BQ.out 2).trans rfl
        have hq3 := (blk_cell BQ.out 3).trans rfl
        go_wp2_with (fail)
        refine (swarfkit_EqualInts.calls ke A1 a1 y.f0 B1 b1 y.f0 true _ (Kd.C_below HI1.out HW5.out) hl1 (Kd.C_below HI2.out HW5.out) hl2 HE.out).mono ?_
        rintro e w6 ⟨rfl, ⟨m6, rfl⟩⟩
        go_wp2
        go_roundg (parts.length - (k + 1))
        case measure => omega
        case rel => exact ⟨k + 1, by omega, by omega, by first | rfl | simp, by go_num, ⟨BA5.out⟩, ⟨BB5.out⟩, ⟨pw_below_drewN HW5.out m6⟩⟩
    · have : k = parts.length := by omega
      subst this
      go_upto_region 7 with (fail)
      obtain ⟨wo, hwo⟩ : ∃ wo : World, wo = wr := ⟨_, rfl⟩
      rw [← hwo] at BA4 BB4 HW4 hx0 hy0 ⊢
      clear hwo hx0 hy0 hlt hk hgk
      go_wp2
      go_loopg [5, 9] looks.length (fun gk v5 v9 wr => ∃ k : Nat, k ≤ looks.length ∧ looks.length - k ≤ gk ∧ v5 = .bool true ∧ v9 = .int .i64 k ∧ Aside0 (wr.heap[ga]? = some (.cells #[.slice A0 parts.length c0, .int .i64 swap, .slice A2 looks.length c2, .int .i64 wrong, .slice A4 needs.length c4] 26 (0, 0))) ∧ Aside0 (wr.heap[gb]? = some (.cells #[.slice B0 parts.length d0, .int .i64 swap, .slice B2 looks.length d2, .int .i64 wrong, .slice B4 needs.length d4] 26 (0, 0))) ∧ Aside0 (Below w.heap.size w wr))
      case atStart => exact ⟨0, Nat.zero_le _, by omega, rfl, rfl, BA4, BB4, HW4⟩
      case round =>
        clear BA4 BB4 HW4
        obtain ⟨k, hk, hgk, rfl, rfl, BA4, BB4, HW4⟩ := hrel
        have hx2 := (blk_cell BA4.out 2).trans rfl
        have hy2 := (blk_cell BB4.out 2).trans rfl
        by_cases hlt : k < looks.length
        · have hlz : (k : Int) < (looks.length : Int) := by omega
          obtain ⟨ad, e, hp0, hp1⟩ := at_T61 HA2.out (k : Int) (by omega) hlz
          cases e
          obtain ⟨bd, e, hq0, hq1⟩ := at_T61 HB2.out (k : Int) (by omega) hlz
          cases e
          rw [Int.toNat_natCast] at hp0 hp1 hq0 hq1
          replace hp0 := (HW4.out.cell (World.block_lt_of_cell? w _ hp0)).trans hp0
          replace hp1 := (HW4.out.cell (World.block_lt_of_cell? w _ hp1)).trans hp1
          replace hq0 := (HW4.out.cell (World.block_lt_of_cell? w _ hq0)).trans hq0
          replace hq1 := (HW4.out.cell (World.block_lt_of_cell? w _ hq1)).trans hq1
          generalize rd_T61 looks (k : Int) = y at *
          go_upto_region 10 with (fail)
          go_quiet (fail)
          go_wp2
          go_roundg (looks.length - (k + 1))
          case measure => omega
          case rel => exact ⟨k + 1, by omega, by omega, by first | rfl | simp, by go_num, ⟨by first | exact BA4.out | exact blk_drewN BA4.out _⟩, ⟨by first | exact BB4.out | exact blk_drewN BB4.out _⟩, ⟨pw_below_drewN HW4.out _⟩⟩
        · have : k = looks.length := by omega
          subst this
          go_wp2
          go_ret
          exact ⟨rfl, HW4.out⟩
structure CarV where
  A0 : Option Addr
  c0 : Nat
  parts : List S50
  swap : Int
  A2 : Option Addr
  c2 : Nat
  looks : List S61
  wrong : Int
  A4 : Option Addr
  c4 : Nat
  needs : List Int
structure CarV.Ok (x : CarV) (w : World) : Prop where
  p : Kd.C k50 w x.A0 x.parts.length x.parts
  pc : x.parts.length ≤ x.c0
  l : Kd.C k61 w x.A2 x.looks.length x.looks
  lc : x.looks.length ≤ x.c2
  n : Kd.C (Kd.int .i64) w x.A4 x.needs.length x.needs
  nc : x.needs.length ≤ x.c4
structure SameOK (x : CarV) : Prop where
  p : x.parts.length ≤ 1000000
  l : x.looks.length ≤ 1000000
  n : ∃ k, swarfkit_EqualInts.f k x.needs x.needs = some true
  b : ∀ p, p ∈ x.parts → ∃ k, swarfkit_EqualInts.f k p.f0 p.f0 = some true
theorem cells_at {w : World} {g t : Nat} {cs : Array Value} (hb : w.heap[g]? = some (.cells cs t (0, 0))) (o : Nat) (ys : Array Value) (h : ∀ j v, ys[j]? = some v → cs[o + j]? = some v) : ∀ j v, ys[j]? = some v → w.cell? ⟨g, o + j, none⟩ = some v :=
  fun j v hj => (blk_cell hb (o + j)).trans (h j v hj)
theorem CarV.Ok.below {x : CarV} {w w' : World} (h : x.Ok w) (hb : Below w.heap.size w w') : x.Ok w' :=
  ⟨Kd.C_below h.p hb, h.pc, Kd.C_below h.l hb, h.lc, Kd.C_below h.n hb, h.nc⟩
theorem put_lit (l : List Value) (d : List Deferred) (i : Nat) (v : Value) : Act.put { tmps := l.toArray, defers := d } (some i) v = { tmps := (l.set i v).toArray, defers := d } := by simp [Act.put]
theorem cells_below {w w' : World} {g o : Nat} {ys : Array Value} (h : ∀ j v, ys[j]? = some v → w.cell? ⟨g, o + j, none⟩ = some v) (hb : Below w.heap.size w w') : ∀ j v, ys[j]? = some v → w'.cell? ⟨g, o + j, none⟩ = some v :=
  fun j v hj => (hb.cell (World.block_lt_of_cell? w _ (h j v hj))).trans (h j v hj)
theorem cell_zero {w : World} {g o : Nat} {v : Value} (h : w.cell? ⟨g, o + 0, none⟩ = some v) : w.cell? ⟨g, o, none⟩ = some v := h
def badTo (b : Bool) (p : S50) : S50 := ⟨p.f0, b, p.f2, p.f3⟩
theorem s50_bad {W : World} {base g n cap : Nat} {ok : Nat → Prop} {xs : List S50} (h : Kd.S k50 50 W base ok (.slice (some ⟨g, 0, none⟩) n cap) xs) (i : Nat) (hi : i < n) (b : Bool) :
    Kd.S k50 50 (W.setCell ⟨g, i * 4 + 1, none⟩ (.bool b)) base ok (.slice (some ⟨g, 0, none⟩) n cap) (xs.set i (badTo b (xs.getD i z50))) ∧ W.grownBy (W.setCell ⟨g, i * 4 + 1, none⟩ (.bool b)) (some g) ∧
      W.cell? ⟨g, i * 4 + 1, none⟩ = some (.bool (xs.getD i z50).f1) ∧ W.frozen? ⟨g, i * 4 + 1, none⟩ = false := by
  obtain ⟨oki, c, hcl, hM, hcc, hfr, hoki, hH⟩ := Kd.S_elem h z50 (i : Int) (by omega) (by omega)
  obtain ⟨v0, rfl, g0⟩ := k50_openM hM
  have hM2 : k50.M W base oki (badTo b (xs.getD i z50)) [v0, .bool b, .int .i64 (xs.getD i z50).f2, .int .i64 (xs.getD i z50).f3] := k50_mkM W base oki (badTo b (xs.getD i z50)) g0
  have h2 := Kd.S_seg (okg := fun _ => False) (Kd.H_mono (ok' := fun k => ok k ∧ ¬ False) hH (fun k hk => ⟨hk, fun hf => hf⟩)) (by omega) (by omega) (seg := [.bool b]) (j := 1) (by show 1 + 1 ≤ 4; decide) (x' := badTo b (xs.getD i z50)) (okp := oki) hM2 (fun k hk => .inl hk) (fun k hk => hk.elim)
  exact ⟨h2.1, h2.2, hcc 1 _ rfl, hfr 1⟩
structure OwnC (w : World) (base : Nat) (ok : Nat → Prop) (x : CarV) : Prop where
  p : Kd.S k50 50 w base ok (.slice x.A0 x.parts.length x.c0) x.parts
  l : Kd.R k61 61 w base ok (.slice x.A2 x.looks.length x.c2) x.looks
  n : Kd.R (Kd.int .i64) 3 w base ok (.slice x.A4 x.needs.length x.c4) x.needs
section
variable {w w1 : World} {base : Nat} {ok ok' : Nat → Prop} {x : CarV}
theorem OwnC.car (h : OwnC w base ok x) : x.Ok w := ⟨(Kd.S_reads' h.p).2.2, (Kd.S_reads' h.p).2.1, (Kd.R_reads' h.l).2.2, (Kd.R_reads' h.l).2.1, (Kd.R_reads' h.n).2.2, (Kd.R_reads' h.n).2.1⟩
theorem OwnC.below (h : OwnC w base ok x) (hb : Below w.heap.size w w1) : OwnC w1 base ok x := ⟨Kd.S_below h.p hb, Kd.R_below h.l hb, Kd.R_below h.n hb⟩
theorem OwnC.mono (h : OwnC w base ok x) (hk : ∀ k, ok k → ok' k) : OwnC w base ok' x := ⟨Kd.S_mono h.p hk, Kd.R_mono h.l hk, Kd.R_mono h.n hk⟩
theorem OwnC.lt (h : OwnC w base ok x) : OwnC w base (fun k => ok k ∧ k < w.heap.size) x :=
  ⟨Kd.S_mono (Kd.S_bound h.p) (fun k hk => ⟨hk.1, hk.2.2.1⟩), Kd.R_mono (Kd.R_bound h.l) (fun k hk => ⟨hk.1, hk.2.2.1⟩), Kd.R_mono (Kd.R_bound h.n) (fun k hk => ⟨hk.1, hk.2.2.1⟩)⟩
theorem OwnC.fed (h : OwnC w base ok x) {w0 : World} {g : Nat} {s : Int} (hi : IsS79 w0 w g s) (hk : KeepBut w w1 g none) : OwnC w1 base ok x :=
  ⟨Kd.S_mono (Kd.S_keep (IsS79.apartS hi h.p (by decide)) hk (fun _ h => h.2)) (fun _ h => h.1), Kd.R_mono (Kd.R_keep (IsS79.apart hi h.l (by decide)) hk (fun _ h => h.2)) (fun _ h => h.1), Kd.R_mono (Kd.R_keep (IsS79.apart hi h.n (by decide)) hk (fun _ h => h.2)) (fun _ h => h.1)⟩
theorem OwnC.far (h : OwnC w base ok x) {p : Addr} (hok : ∀ k, ok k → k ≠ p.block) (u : Value) : OwnC (w.setCell p u) base ok x := ⟨Kd.S_far h.p hok u, Kd.R_far h.l hok u, Kd.R_far h.n hok u⟩
theorem OwnC.bad (h : OwnC w base ok x) {g : Nat} (hA : x.A0 = some ⟨g, 0, none⟩) (i : Nat) (hi : i < x.parts.length) (b : Bool) :
    OwnC (w.setCell ⟨g, i * 4 + 1, none⟩ (.bool b)) base ok ⟨x.A0, x.c0, x.parts.set i (badTo b (x.parts.getD i z50)), x.swap, x.A2, x.c2, x.looks, x.wrong, x.A4, x.c4, x.needs⟩ := by
  obtain ⟨hp, hl, hn⟩ := h
  rw [hA] at hp
  obtain ⟨h1, h2, _, _⟩ := s50_bad hp i hi b
  refine ⟨?_, ?_, ?_⟩
  · show Kd.S k50 50 _ base ok (.slice x.A0 (x.parts.set i _).length x.c0) _
    rw [List.length_set, hA]
    exact h1
  · have hty := Kd.S_typed hp
    exact Kd.R_over' hl hty (by decide) h2
  · have hty := Kd.S_typed hp
    exact Kd.R_over' hn hty (by decide) h2
theorem OwnC.head (h : OwnC w base ok x) (hne : 0 < x.parts.length) : ∃ g, x.A0 = some ⟨g, 0, none⟩ ∧ base ≤ g ∧ g < w.heap.size ∧ ok g := by
  have hC := (Kd.S_reads' h.p).2.2
  obtain ⟨A, hA⟩ : ∃ A, x.A0 = some A := by
    obtain ⟨ad, _, _, e, _⟩ := at_T50 hC 0 (by omega) (by omega)
    exact ⟨ad, e⟩
  have hp := h.p
  rw [hA] at hp
  obtain ⟨g, rfl⟩ := Kd.R_head (Kd.S_R hp)
  have h2 := Kd.S_bound hp
  have h3 := (Kd.S_R h2).1 g (by simp [Value.ownBlock])
  exact ⟨g, hA, h3.2.1, h3.2.2.1, h3.1⟩
end
end Go.Proofs.Ytkkmfcdikkiodaa.PC4
namespace Go.Proofs.Ytkkmfcdikkiodaa.PC4
set_option linter.unusedVariables false
open Go.RowKit Go.Proofs.YtkkmfcdikkiodaaW.PrintWords Go.Proofs.YtkkmfcdikkiodaaW.PrintLast Go.Proofs.YtkkmfcdikkiodaaW.PrintMore
def feedX (s x : Int) : Int := Go.bits .xor .u64 s (IntKind.u64.wrap (IntKind.u64.wrap x * 15485907386658061715))
def feedAll (l : List Int) : Int := l.foldl (fun s x => feedN (feedX s x)) 88172645463325252
def swarfkit_FeedOf.f (l0 : List Int) : Option (Int) := if l0.length ≤ 140737488351232 then some (feedAll l0) else none
structure FeedNew (w0 w W : World) (g : Nat) (x : Int) : Prop where
  is : IsS79 w0 W g x
  be : Below w0.heap.size w0 W
  bw : Below w.heap.size w W
  ge : w.heap.size ≤ g
theorem FeedNew.next {w0 w W : World} {g : Nat} {x : Int} (h : FeedNew w0 w W g x) (y : Int) : FeedNew w0 w (W.setCell ⟨g, 0, none⟩ (.int .u64 y)) g y :=
  ⟨h.is.set_0 y, below_set h.be h.is.ge, below_set h.bw h.ge, h.ge⟩
theorem FeedNew.drew {w0 w W : World} {g : Nat} {x : Int} (h : FeedNew w0 w W g x) : FeedNew w0 w W.drew g x := ⟨h.is.drew, h.be.drew, h.bw.drew, h.ge⟩
theorem below_next {w0 w w1 w2 : World} {g : Nat} (hb : Below w.heap.size w w1) (h1 : Below w0.heap.size w0 w1) (h2 : Below w0.heap.size w0 w2) (hk : KeepBut w1 w2 g none) (hg : w.heap.size ≤ g) : Below w.heap.size w w2 :=
  ⟨(h2.os.trans h1.os.symm).trans hb.os, (h2.tape.trans h1.tape.symm).trans hb.tape, (h2.output.trans h1.output.symm).trans hb.output, Nat.le_trans hb.size hk.1,
    fun k hlt => (hk.2 k (Nat.lt_of_lt_of_le hlt hb.size) (by omega) (by simp)).trans (hb.block k hlt)⟩
theorem feedAll_step (l : List Int) (i : Nat) (h : i < l.length) : feedAll (l.take (i + 1)) = feedN (feedX (feedAll (l.take i)) (rd l (i : Int))) := by
  unfold feedAll
  rw [List.take_succ_eq_append_getElem h, List.foldl_append]
  simp [rd, List.getD, h]
set_option maxHeartbeats 4000000 in
set_option maxRecDepth 100000 in
theorem swarfkit_FeedOf.calls (A0 : Option Addr) (c0 : Nat) (l0 : List Int) (r : Int) (w0 w : World) (hB : Below w0.heap.size w0 w) (hr0 : Kd.C (Kd.int .i64) w0 A0 l0.length l0) (hc0 : l0.length ≤ c0) (h : swarfkit_FeedOf.f l0 = some r) :
    Calls Try.prog 18 #[.slice A0 l0.length c0] w fun e w' => ∃ g_ : Nat, e = .returned (.pointer (some ⟨g_, 0, none⟩)) ∧ IsS79 w0 w' g_ r ∧ Below w0.heap.size w0 w' ∧ Below w.heap.size w w' := by
  simp only [swarfkit_FeedOf.f] at h
  by_cases hl : l0.length ≤ 140737488351232
  case neg => rw [if_neg hl] at h; cases h
  rw [if_pos hl] at h
  obtain rfl := Option.some.inj h
  clear h
  have hu79 := Try.underlying79
  have HB := Aside0.mk hB
  have HR0 := Aside0.mk hr0
  clear hB hr0
  go_enter Try.func18, Try.ntmps18
  go_wp2
  have F := Aside0.mk (FeedNew.mk (IsS79.new w0 w (88172645463325252) HB.out) (below_alloc HB.out _) (below_alloc (Below.refl _ _) _) (Nat.le_refl _))
  go_loopw [4] (fun i wr => ∃ k : Nat, k ≤ l0.length ∧ i = .int .i64 k ∧ Aside0 (FeedNew w0 w wr w.heap.size (feedAll (l0.take k)))) (fun i _ => l0.length - (intOf i).toNat)
  case atStart => exact ⟨0, Nat.zero_le _, rfl, F⟩
  case round =>
    clear F
    obtain ⟨k, hk, rfl, F⟩ := hrel
    have hcell := (blk_cell F.out.is.1 0).trans rfl
    have hfree := blk_frozen F.out.is.1 0
    by_cases hlt : k < l0.length
    · have hlz : (k : Int) < (l0.length : Int) := by omega
      obtain ⟨ad, e, hx⟩ := Kd.at_int HR0.out (k : Int) (by omega) hlz
      cases e
      rw [Int.toNat_natCast] at hx
      replace hx := (F.out.be.cell (World.block_lt_of_cell? w0 _ hx)).trans hx
      have HF := Aside0.mk (feedAll_step l0 k hlt)
      generalize feedAll (l0.take k) = s at *
      generalize rd l0 (k : Int) = x at *
      go_wp2
      go_region
      clear hcell hfree hx
      have F1 := Aside0.mk (F.out.next (feedX s x)).drew
      generalize hx1 : bits BinOp.xor IntKind.u64 s (IntKind.u64.wrap (IntKind.u64.wrap x * 15485907386658061715)) = x1
      have hy1 : feedX s x = x1 := hx1
      rw [hy1] at F1 HF
      generalize hw1 : (wr.setCell ⟨w.heap.size, 0, none⟩ (.int .u64 x1)).drew = w1
      rw [hw1] at F1
      clear hx1 hw1 hy1 F
      have HC := Aside0.mk (swarfkit_Feed_next.calls w.heap.size x1 (feedM (feedN x1)) (feedN x1) w0 w1 F1.out.is F1.out.be rfl)
      go_wp2_with (go_at_call 56; refine HC.out.mono ?_; rintro e w2 ⟨rfl, hI2, hB2, hK2⟩; have F2 := Aside0.mk (FeedNew.mk hI2 hB2 (below_next F1.out.bw F1.out.be hB2 hK2 F1.out.ge) F1.out.ge); clear hI2 hB2 hK2 HC)
      go_roundw
      case rel => exact ⟨k + 1, by omega, by go_num, by rw [HF.out]; exact F2⟩
      case measure => simp [intOf]; omega
    · have : k = l0.length := by omega
      subst this
      go_wp2
      go_ret
      rw [List.take_length] at F
      exact ⟨_, rfl, F.out.is, F.out.be, F.out.bw⟩
end Go.Proofs.Ytkkmfcdikkiodaa.PC4
