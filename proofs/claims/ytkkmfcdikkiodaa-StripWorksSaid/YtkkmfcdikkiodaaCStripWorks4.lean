/- Lemmas on the way to this: Work finds the quickest order of work, or the error, as the reference does, and nothing is changed: for every car and every list of numbers of the size that Go can hold. -/
import Derived.Test.YtkkmfcdikkiodaaCStripWorks3
import Derived.Test.YtkkmfcdikkiodaaCStripWorks2
import Derived.Test.YtkkmfcdikkiodaaCStripWorks1
namespace Go.Proofs.Ytkkmfcdikkiodaa.PC4
set_option linter.unusedVariables false
open Go.RowKit Go.Proofs.YtkkmfcdikkiodaaW.PrintWords Go.Proofs.YtkkmfcdikkiodaaW.PrintLast Go.Proofs.YtkkmfcdikkiodaaW.PrintMore
theorem carOf_l2 {a1 a2 : Int} {parts : List S50} {swap : Int} {st : List Bool} (hp : PartsOK parts st) (h1 : 1 ≤ parts.length) (h2 : (parts.length : Int) ≤ a1) (h9 : a1 ≤ 9) (hsw : 0 ≤ swap ∧ swap ≤ 8) (h12 : a2 ≤ 12) (d : Nat) :
    ∀ (s : Int) (looks : List S61), (looks.length : Int) + d ≤ a2 → (∀ l, l ∈ looks → 0 ≤ l.f0 ∧ l.f0 < parts.length) → Res (fun K => swarfkit_CarOf.l2 K st (d : Int) s parts swap looks 0) (CarGoodT a1 a2) := by
  induction d with
  | zero =>
    intro s looks hd hl
    have hlen := hp.len
    have hle := wrongB_le st looks
    have hw := wrongs_ev parts swap looks 0 [] st (by omega) (fun l h => by have := hl l h; rw [hlen]; exact this)
    obtain ⟨r, s', he, hr⟩ := either_ok s [0, 0, 1] (by simp) (by simp)
    have hr01 : 0 ≤ r ∧ r ≤ 1 := by simp at hr; omega
    refine Res.step (f := fun K => (swarfref04_Wrongs.f K parts swap looks 0 ([] : List Int) st).bind fun t259 => swarfkit_CarOf.l3 K st ((0 : Nat) : Int) s' parts swap looks (mn 12 (wrap64 (t259 + r))) ([] : List Int)) (fun K => ?_) ?_
    · simp only [swarfkit_CarOf.l2]
      rw [if_neg (by omega), he]
      rfl
    · refine Res.bind hw ?_
      rw [wrap64_id (by omega) (by omega)]
      have hm : 0 ≤ mn 12 ((wrongB st looks : Int) + r) ∧ mn 12 ((wrongB st looks : Int) + r) ≤ 12 ∧ (wrongB st looks : Int) ≤ mn 12 ((wrongB st looks : Int) + r) := by
        unfold mn
        split <;> omega
      exact carOf_l3 (a1 := a1) (a2 := a2) ⟨hp, h1, h2, hsw, hl, by omega, hm, rfl, by simp⟩ 9 0 s' [] rfl rfl (fun x hx => by cases hx) (by simp)
  | succ d ih =>
    intro s looks hd hl
    have hlen := hp.len
    obtain ⟨q, s1, hb, hq0, hq1⟩ := below_ok s parts.length (by omega) (by omega)
    obtain ⟨b, s2, ho⟩ := often_ok s1 1 6 (by decide) (by decide)
    have hw : wrap64 (((d + 1 : Nat) : Int) - 1) = (d : Int) := by rw [wrap64_id (by omega) (by omega)]; omega
    refine Res.step (f := fun K => swarfkit_CarOf.l2 K st (d : Int) s2 parts swap (looks ++ [(⟨q, (rdOf false st q) != b⟩ : S61)]) 0) (fun K => ?_) ?_
    · simp only [swarfkit_CarOf.l2]
      rw [if_pos (by omega), hb]
      simp only [Option.bind_some]
      rw [if_pos hq0, if_pos (by omega), ho]
      simp only [Option.bind_some]
      rw [if_pos (by omega), hw]
    · refine ih s2 _ (by simp; omega) (fun l h => ?_)
      rcases List.mem_append.1 h with h | h
      · exact hl l h
      · rw [List.mem_singleton.1 h]
        exact ⟨hq0, hq1⟩
theorem bind_of {α β : Type} {o : Option α} {a : α} {f : α → Option β} {r : Option β} (h : o = some a) (h2 : f a = r) : o.bind f = r := by rw [h]; exact h2
theorem carOf_l1 {a1 a2 : Int} {parts : List S50} {st : List Bool} (hp : PartsOK parts st) (h9 : parts.length < 9) (x10 : Int) (bad : Bool) (tool min : Int) (ht : 1 ≤ tool ∧ tool ≤ 3) (hm : 0 ≤ min ∧ min ≤ 1000)
    (hT : ∀ (p : S50) (b : Bool) (s : Int), PartOK parts.length p → (b = true → ∀ x, x ∈ p.f0 → st.getD x.toNat false = true) → Res (fun K => swarfkit_CarOf.l0 K a2 (st ++ [b]) (wrap64 (x10 - 1)) s (parts ++ [p]) 0 0) (CarGoodT a1 a2)) (d : Nat) :
    ∀ (k : Nat) (s : Int) (may : Bool) (bef : List Int), k + d = parts.length → riseE ((parts.length : Int) - 1) 3 bef = 0 → (∀ x, x ∈ bef → 0 ≤ x ∧ x < k) → bef.length ≤ k → (may = true → ∀ x, x ∈ bef → st.getD x.toNat false = true) →
      Res (fun K => swarfkit_CarOf.l1 K a2 st x10 (parts.length : Int) may (k : Int) s parts 0 0 bef bad tool min) (CarGoodT a1 a2) := by
  induction d with
  | zero =>
    intro k s may bef hk hr hlt hlen hmay
    have hsl := hp.len
    have hP : PartOK parts.length ⟨bef, bad, tool, min⟩ := ⟨hr, fun x hx => by have := hlt x hx; omega, by show bef.length ≤ _; omega, ⟨ht.1, by have := ht.2; show tool ≤ 4; omega⟩, hm⟩
    have hl1 : parts.length < 2932031007402 := by omega
    have hl2 : st.length < 140737488355328 := by omega
    cases may with
    | true =>
      obtain ⟨b, s1, ho⟩ := often_ok s 3 5 (by decide) (by decide)
      refine Res.step (f := fun K => swarfkit_CarOf.l0 K a2 (st ++ [b]) (wrap64 (x10 - 1)) s1 (parts ++ [(⟨bef, bad, tool, min⟩ : S50)]) 0 0) (fun K => ?_) (hT _ b s1 hP (fun _ => hmay rfl))
      simp only [swarfkit_CarOf.l1]
      rw [if_neg (by omega)]
      simp only [hl1, hl2, if_true, Option.bind_some, ho]
    | false =>
      refine Res.step (f := fun K => swarfkit_CarOf.l0 K a2 (st ++ [false]) (wrap64 (x10 - 1)) s (parts ++ [(⟨bef, bad, tool, min⟩ : S50)]) 0 0) (fun K => ?_) (hT _ false s hP (fun h => by cases h))
      simp only [swarfkit_CarOf.l1]
      rw [if_neg (by omega)]
      simp only [hl1, hl2, if_true, Option.bind_some, Bool.false_eq_true, if_false]
  | succ d ih =>
    intro k s may bef hk hr hlt hlen hmay
    have hsl := hp.len
    obtain ⟨b, s1, ho⟩ := often_ok s 1 4 (by decide) (by decide)
    have hw : wrap64 ((k : Int) + 1) = ((k + 1 : Nat) : Int) := by rw [wrap64_id (by omega) (by omega)]; omega
    have hlt2 : (k : Int) < (parts.length : Int) := by omega
    have hlt3 : (k : Int) < (st.length : Int) := by omega
    have hk0 : 0 ≤ (k : Int) := by omega
    have hbl : bef.length < 17592186044416 := by omega
    have hlt4 : ∀ x, x ∈ bef → 0 ≤ x ∧ x < ((k + 1 : Nat) : Int) := fun x hx => by have := hlt x hx; omega
    have hlt5 : ∀ x, x ∈ bef ++ [(k : Int)] → 0 ≤ x ∧ x < ((k + 1 : Nat) : Int) := fun x hx => by
      rcases List.mem_append.1 hx with hx | hx
      · exact hlt4 x hx
      · rw [List.mem_singleton.1 hx]; omega
    have hr5 : riseE ((parts.length : Int) - 1) 3 (bef ++ [(k : Int)]) = 0 := riseE_snoc hr (fun y hy => (hlt y hy).2) hk0 (by omega)
    cases b with
    | false =>
      refine Res.step (f := fun K => swarfkit_CarOf.l1 K a2 st x10 (parts.length : Int) may ((k + 1 : Nat) : Int) s1 parts 0 0 bef bad tool min) (fun K => ?_) (ih (k + 1) s1 may bef (by omega) hr hlt4 (by omega) hmay)
      simp only [swarfkit_CarOf.l1, hlt2, if_true, ho, Option.bind_some, Bool.false_eq_true, if_false, hw]
    | true =>
      cases may with
      | false =>
        refine Res.step (f := fun K => swarfkit_CarOf.l1 K a2 st x10 (parts.length : Int) false ((k + 1 : Nat) : Int) s1 parts 0 0 (bef ++ [(k : Int)]) bad tool min) (fun K => ?_) (ih (k + 1) s1 false _ (by omega) hr5 hlt5 (by simp; omega) (fun h => by cases h))
        simp only [swarfkit_CarOf.l1, hlt2, if_true, ho, Option.bind_some, Bool.false_eq_true, if_false, hw, hbl]
      | true =>
        refine Res.step (f := fun K => swarfkit_CarOf.l1 K a2 st x10 (parts.length : Int) (rdOf false st (k : Int)) ((k + 1 : Nat) : Int) s1 parts 0 0 (bef ++ [(k : Int)]) bad tool min) (fun K => ?_) (ih (k + 1) s1 _ _ (by omega) hr5 hlt5 (by simp; omega) (fun h x hx => ?_))
        · simp only [swarfkit_CarOf.l1, hlt2, hlt3, hk0, if_true, ho, Option.bind_some, hw, hbl]
        · rcases List.mem_append.1 hx with hx | hx
          · exact hmay rfl x hx
          · rw [List.mem_singleton.1 hx]
            exact h
theorem carOf_l0 {a1 a2 : Int} (h9 : a1 ≤ 9) (h12 : a2 ≤ 12) (h0 : 0 ≤ a2) (d : Nat) :
    ∀ (parts : List S50) (st : List Bool) (s : Int), PartsOK parts st → (parts.length : Int) + d ≤ a1 → 1 ≤ parts.length + d → Res (fun K => swarfkit_CarOf.l0 K a2 st (d : Int) s parts 0 0) (CarGoodT a1 a2) := by
  induction d with
  | zero =>
    intro parts st s hp hd h1
    obtain ⟨r1, s1, hb1, hr1, hr1'⟩ := below_ok s 9 (by decide) (by decide)
    obtain ⟨r2, s2, hb2, hr2⟩ := either_ok s1 [0, r1] (by simp) (by simp)
    obtain ⟨r3, s3, hb3, hr3, hr3'⟩ := below_ok s2 (a2 + 1) (by omega) (by omega)
    have hsw : 0 ≤ r2 ∧ r2 ≤ 8 := by simp at hr2; omega
    have hw : wrap64 (a2 + 1) = a2 + 1 := wrap64_id (by omega) (by omega)
    obtain ⟨n, rfl⟩ : ∃ n : Nat, r3 = n := ⟨r3.toNat, by omega⟩
    refine Res.step (f := fun K => swarfkit_CarOf.l2 K st (n : Int) s3 parts r2 ([] : List S61) 0) (fun K => ?_) (carOf_l2 hp (by omega) (by omega) h9 hsw h12 n s3 [] (by simp; omega) (fun l h => by cases h))
    have hgt : ¬ (((0 : Nat) : Int) > 0) := by omega
    rw [swarfkit_CarOf.l0, if_neg hgt]
    refine bind_of hb1 ?_
    refine bind_of hb2 ?_
    refine bind_of (a := (((n : Nat) : Int), s3)) ?_ rfl
    rw [hw]
    exact hb3
  | succ d ih =>
    intro parts st s hp hd h1
    obtain ⟨b, s1, ho⟩ := often_ok s 1 2 (by decide) (by decide)
    obtain ⟨tool, s2, hbt, ht0, ht1⟩ := between_ok s1 1 3 (by decide) (by decide) (by decide)
    obtain ⟨m1, s3, hm1, hm10, hm11⟩ := below_ok s2 30 (by decide) (by decide)
    obtain ⟨m2, s4, hm2, hm20, hm21⟩ := below_ok s3 30 (by decide) (by decide)
    obtain ⟨m, s5, he, hm⟩ := either_ok s4 [0, m1, m2] (by simp) (by simp)
    have hmm : 0 ≤ m ∧ m ≤ 1000 := by simp at hm; omega
    have hw : wrap64 (((d + 1 : Nat) : Int) - 1) = (d : Int) := by rw [wrap64_id (by omega) (by omega)]; omega
    refine Res.step (f := fun K => swarfkit_CarOf.l1 K a2 st ((d + 1 : Nat) : Int) (parts.length : Int) true ((0 : Nat) : Int) s5 parts 0 0 ([] : List Int) b tool m) (fun K => ?_)
      (carOf_l1 hp (by omega) _ b tool m ⟨ht0, ht1⟩ hmm (fun p b s hP hst => ?_) parts.length 0 s5 true [] (by omega) (by simp [riseE, rise]) (fun x h => by cases h) (Nat.le_refl _) (fun _ x h => by cases h))
    · have hz : ((0 : Nat) : Int) = 0 := rfl
      have hgt : ((d + 1 : Nat) : Int) > 0 := by omega
      rw [swarfkit_CarOf.l0, if_pos hgt, hz]
      refine bind_of ho ?_
      refine bind_of hbt ?_
      refine bind_of hm1 ?_
      refine bind_of hm2 ?_
      exact bind_of he rfl
    · rw [hw]
      exact ih _ _ s (hp.snoc hP hst) (by simp; omega) (by rw [List.length_append, List.length_singleton]; omega)
theorem carOf_ev (s a1 a2 : Int) (h1 : 1 ≤ a1) (h9 : a1 ≤ 9) (h0 : 0 ≤ a2) (h12 : a2 ≤ 12) : Res (fun K => swarfkit_CarOf.f K s a1 a2) (CarGoodT a1 a2) := by
  obtain ⟨n, s1, hb, hn0, hn1⟩ := between_ok s 1 a1 h1 (by decide) (by omega)
  obtain ⟨m, rfl⟩ : ∃ m : Nat, n = m := ⟨n.toNat, by omega⟩
  have h := carOf_l0 (a1 := a1) h9 h12 h0 m [] [] s1 ⟨rfl, fun i h => by simp at h, fun i h => by simp at h⟩ (by simp; omega) (by simp; omega)
  obtain ⟨r, h2, h3⟩ := h
  refine ⟨r, ?_, h3⟩
  obtain ⟨K, h2⟩ := h2
  refine ⟨K, fun k hk => ?_⟩
  unfold swarfkit_CarOf.f
  rw [hb]
  exact h2 k hk
theorem rawHas_eq (s i : Nat) (hs : s < 65536) (hi : i ≤ 16) : rawHas (i : Int) (s : Int) = s.testBit i := by
  have h := has_f s i hs hi
  unfold strip_set_has.f at h
  rw [if_pos (by omega)] at h
  injection h
theorem verdict_cases (T : List Nat) (p : Int → Bool) (q : Nat → Bool) (hq : ∀ s, s ∈ T → p (s : Int) = q s) :
    (verdictS (setsI T) p = 1 ∧ ∀ s, s ∈ T → q s = true) ∨ (verdictS (setsI T) p = 2 ∧ T ≠ [] ∧ ∀ s, s ∈ T → q s = false) ∨ (verdictS (setsI T) p = 3 ∧ (∃ s, s ∈ T ∧ q s = true) ∧ ∃ s, s ∈ T ∧ q s = false) := by
  unfold verdictS
  by_cases h1 : (setsI T).any (fun x => !p x) = true
  · rw [if_pos h1]
    obtain ⟨x, hx, h1⟩ := List.any_eq_true.1 h1
    obtain ⟨s, hs, rfl⟩ := List.mem_map.1 hx
    have hs2 : q s = false := by rw [← hq s hs]; simpa using h1
    by_cases h2 : (setsI T).any p = true
    · rw [if_pos h2]
      obtain ⟨y, hy, h2⟩ := List.any_eq_true.1 h2
      obtain ⟨t, ht, rfl⟩ := List.mem_map.1 hy
      exact .inr (.inr ⟨rfl, ⟨t, ht, by rw [← hq t ht]; exact h2⟩, s, hs, hs2⟩)
    · rw [if_neg h2]
      refine .inr (.inl ⟨rfl, fun e => (by rw [e] at hs; cases hs), fun t ht => ?_⟩)
      cases hb : q t with
      | false => rfl
      | true => exact absurd (List.any_eq_true.2 ⟨(t : Int), List.mem_map.2 ⟨t, ht, rfl⟩, by rw [hq t ht]; exact hb⟩) h2
  · rw [if_neg h1]
    refine .inl ⟨rfl, fun t ht => ?_⟩
    cases hb : q t with
    | true => rfl
    | false => exact absurd (List.any_eq_true.2 ⟨(t : Int), List.mem_map.2 ⟨t, ht, rfl⟩, by rw [hq t ht, hb]; rfl⟩) h1
theorem okGo_iff (s : Nat) (l : List S50) : ∀ i, okGo s i l = true ↔ ∀ k (h : k < l.length), s.testBit (i + k) = true → subM (maskOf (l[k]).f0) s = true := by
  induction l with
  | nil => intro i; simp [okGo]
  | cons p l ih =>
    intro i
    rw [okGo_cons]
    by_cases hc : (s.testBit i && !subM (maskOf p.f0) s) = true
    · rw [if_pos hc]
      rw [Bool.and_eq_true, Bool.not_eq_true'] at hc
      refine ⟨fun h => (by cases h), fun h => ?_⟩
      have := h 0 (by simp) (by simpa using hc.1)
      rw [List.getElem_cons_zero, hc.2] at this
      cases this
    · rw [if_neg hc, ih]
      constructor
      · intro h k hk hb
        cases k with
        | zero =>
          rw [List.getElem_cons_zero]
          cases hs : subM (maskOf p.f0) s with
          | true => rfl
          | false => exact absurd (by rw [hs]; simpa using hb) hc
        | succ k =>
          rw [List.getElem_cons_succ]
          exact h k (by simpa using hk) (by rwa [show i + 1 + k = i + (k + 1) by omega])
      · intro h k hk hb
        have := h (k + 1) (by simpa using hk) (by rwa [show i + (k + 1) = i + 1 + k by omega])
        rwa [List.getElem_cons_succ] at this
theorem okM_iff {parts : List S50} (h : ∀ i, i < parts.length → PartOK i (parts.getD i z50)) (s : Nat) : okM parts s = true ↔ ∀ i, i < parts.length → s.testBit i = true → ∀ x, x ∈ (parts.getD i z50).f0 → s.testBit x.toNat = true := by
  unfold okM
  rw [okGo_iff]
  have hg : ∀ i (hi : i < parts.length), parts.getD i z50 = parts[i] := fun i hi => by rw [List.getD, List.getElem?_eq_getElem hi]; rfl
  constructor
  · intro h1 i hi hb x hx
    have h2 := h1 i hi (by rwa [Nat.zero_add])
    have hp := h i hi
    rw [hg i hi] at hx hp
    refine (subM_iff _ _).1 h2 _ ?_
    exact (maskOf_bit _ (fun y hy => (hp.lt y hy).1) _).2 (by have := (hp.lt x hx).1; rwa [Int.toNat_of_nonneg this])
  · intro h1 i hi hb
    rw [Nat.zero_add] at hb
    have hp := h i hi
    have h2 := h1 i hi hb
    rw [hg i hi] at h2 hp
    refine (subM_iff _ _).2 (fun k hk => ?_)
    have := h2 (k : Int) ((maskOf_bit _ (fun y hy => (hp.lt y hy).1) _).1 hk)
    rwa [Int.toNat_natCast] at this
theorem mem_truths {parts : List S50} {looks : List S61} {wrong : Int} (s : Nat) : s ∈ truthsL parts looks wrong ↔ s < 2 ^ parts.length ∧ okM parts s = true ∧ (wrongM s looks : Int) ≤ wrong := by
  unfold truthsL truthsOf statesL statesTo
  simp only [List.mem_map, List.mem_filter, List.mem_range, decide_eq_true_eq]
  constructor
  · rintro ⟨x, ⟨⟨t, ⟨h1, h2⟩, rfl⟩, h3⟩, rfl⟩
    exact ⟨h1, h2, h3⟩
  · rintro ⟨h1, h2, h3⟩
    exact ⟨(s, wrongM s looks), ⟨⟨s, ⟨h1, h2⟩, rfl⟩, h3⟩, rfl⟩
def stM : List Bool → Nat
  | [] => 0
  | b :: l => (if b then 1 else 0) + 2 * stM l
theorem stM_lt (l : List Bool) : stM l < 2 ^ l.length := by
  induction l with
  | nil => simp [stM]
  | cons b l ih => simp only [stM, List.length_cons, Nat.pow_succ]; split <;> omega
theorem stM_bit (l : List Bool) : ∀ i, (stM l).testBit i = l.getD i false := by
  induction l with
  | nil => intro i; simp [stM]
  | cons b l ih =>
    intro i
    cases i with
    | zero =>
      rw [Nat.testBit_zero]
      cases b <;> simp [stM] <;> omega
    | succ i =>
      rw [Nat.testBit_succ]
      have : stM (b :: l) / 2 = stM l := by simp only [stM]; split <;> omega
      rw [this, ih]
      simp
theorem wrongM_st (st : List Bool) (looks : List S61) : wrongM (stM st) looks = wrongB st looks := by
  induction looks with
  | nil => rfl
  | cons l t ih => simp only [wrongM, wrongB, stM_bit, ih]
theorem CarGood.truth {a1 a2 : Int} {parts : List S50} {swap : Int} {looks : List S61} {wrong : Int} {needs : List Int} {st : List Bool} (h : CarGood a1 a2 parts swap looks wrong needs st) : stM st ∈ truthsL parts looks wrong := by
  refine (mem_truths _).2 ⟨?_, (okM_iff h.p.ok _).2 (fun i hi hb x hx => ?_), by rw [wrongM_st]; exact h.wr.2.2⟩
  · rw [← h.p.len]; exact stM_lt st
  · rw [stM_bit] at hb ⊢
    exact h.p.st i hi hb x hx
theorem partsE_of (l : List S50) : ∀ i : Int, (∀ k (h : k < l.length), riseE (i + k - 1) 3 (l[k]).f0 = 0 ∧ inB (l[k]).f2 1 4 = true ∧ inB (l[k]).f3 0 1000 = true) → partsE i l = 0 := by
  induction l with
  | nil => intro i _; rfl
  | cons p l ih =>
    intro i h
    obtain ⟨h1, h2, h3⟩ := h 0 (by simp)
    rw [List.getElem_cons_zero] at h1 h2 h3
    rw [partsE_cons, if_pos (by simpa using h1), if_pos (by rw [h2, h3]; rfl)]
    refine ih (i + 1) (fun k hk => ?_)
    have := h (k + 1) (by simpa using hk)
    rw [List.getElem_cons_succ] at this
    rw [show i + 1 + (k : Int) - 1 = i + ((k + 1 : Nat) : Int) - 1 by omega]
    exact this
theorem CarGood.check {a1 a2 : Int} {parts : List S50} {swap : Int} {looks : List S61} {wrong : Int} {needs : List Int} {st : List Bool} (h : CarGood a1 a2 parts swap looks wrong needs st) (h9 : a1 ≤ 9) (h12 : a2 ≤ 12) : checkE parts swap looks wrong needs = 0 := by
  have hp := h.one
  have hf := h.few
  have hl := h.ll
  unfold checkE
  rw [if_neg (by omega), if_neg (by omega), if_pos ?_]
  · unfold checkT
    rw [if_pos (inB_of (by have := h.sw; omega)), if_neg (by omega), if_neg ?_, if_pos (inB_of ⟨h.wr.1, h.wr.2.1⟩), if_neg (by have := h.nl; omega), h.nd]
    intro e
    obtain ⟨l, hl, hb⟩ := List.any_eq_true.1 e
    have := h.lk l hl
    unfold lookBad at hb
    simp only [Bool.not_eq_true', Bool.and_eq_false_iff, decide_eq_false_iff_not] at hb
    omega
  · refine partsE_of _ _ (fun k hk => ?_)
    have hk2 := h.p.ok k hk
    have hg : parts.getD k z50 = parts[k] := by rw [List.getD, List.getElem?_eq_getElem hk]; rfl
    rw [hg] at hk2
    exact ⟨by rw [Int.zero_add]; exact hk2.ris, inB_of (by have := hk2.tool; omega), inB_of hk2.min⟩
theorem CarGood.fits {a1 a2 : Int} {parts : List S50} {swap : Int} {looks : List S61} {wrong : Int} {needs : List Int} {st : List Bool} (h : CarGood a1 a2 parts swap looks wrong needs st) (h9 : a1 ≤ 9) (h12 : a2 ≤ 12) : carFits parts looks needs := by
  have hf := h.few
  have hl := h.ll
  have hn := h.nl
  refine ⟨by omega, by omega, by omega, fun p hp => ?_⟩
  obtain ⟨i, hi, rfl⟩ := List.getElem_of_mem hp
  have hk2 := h.p.ok i hi
  rw [List.getD, List.getElem?_eq_getElem hi] at hk2
  have : (parts[i]).f0.length ≤ i := hk2.len
  omega
def carP : List S50 := [⟨[], true, 1, 10⟩, ⟨[0], true, 2, 20⟩, ⟨[1], true, 1, 15⟩, ⟨[], false, 3, 30⟩, ⟨[0, 3], true, 3, 5⟩]
def carL : List S61 := [⟨0, true⟩, ⟨1, true⟩, ⟨2, false⟩, ⟨4, false⟩]
set_option maxRecDepth 100000 in
theorem car_fits : carFits carP carL [2, 5] := by decide
theorem car_out : outE carP 2 carL 1 [2, 5] = ([1, 3, 3, 3, 3], 0) := by decide +kernel
theorem car_clean : cleanE carP 2 carL 1 [2, 5] = (2, 0) := by decide +kernel
theorem car_work : workE carP 2 carL 1 [2, 5] = ([1, 2, 3, 4], 74, 0) := by decide +kernel
theorem awake_eq (k : Nat) : swarflaw04_awake.f k = ((swarfkit_EqualInts.f k [1, 3, 3, 3, 3] [1, 3, 3, 3, 3]).bind fun t189 => (if t189 = true then ((swarfkit_EqualInts.f k [1, 2, 3, 4] [1, 2, 3, 4]).bind fun t193 => (some t193)) else (some false))) := by
  have hcar : swarflaw04_car.f = some (carP, 2, carL, 1, [2, 5]) := rfl
  have h1 : strip_Out.f carP 2 carL 1 [2, 5] = some ([1, 3, 3, 3, 3], 0) := by unfold strip_Out.f; rw [if_pos car_fits, car_out]
  have h2 : strip_Clean.f carP 2 carL 1 [2, 5] = some (2, 0) := by unfold strip_Clean.f; rw [if_pos car_fits, car_clean]
  have h3 : strip_Work.f carP 2 carL 1 [2, 5] = some ([1, 2, 3, 4], 74, 0) := by unfold strip_Work.f; rw [if_pos car_fits, car_work]
  unfold swarflaw04_awake.f
  refine bind_of hcar ?_
  refine bind_of h1 ?_
  refine bind_of hcar ?_
  refine bind_of h2 ?_
  refine bind_of hcar ?_
  exact bind_of h3 rfl
theorem equal_l0 (a b : List Int) (hl : a.length = b.length) (hs : a.length ≤ 1000000000) (d : Nat) : ∀ i : Nat, i + d = a.length → Ev (fun K => swarfkit_EqualInts.l0 K a b true (i : Int)) (decide (a.drop i = b.drop i)) := by
  induction d with
  | zero =>
    intro i hi
    have hc : ¬ (i : Int) < (a.length : Int) := by omega
    refine Ev.step (f := fun _ => some true) (fun K => ?_) ?_
    · simp only [swarfkit_EqualInts.l0, hc, if_true, if_false]
    · rw [List.drop_of_length_le (by omega), List.drop_of_length_le (by omega)]
      exact Ev.now _
  | succ d ih =>
    intro i hi
    have hc : (i : Int) < (a.length : Int) := by omega
    have hc2 : (i : Int) < (b.length : Int) := by omega
    have hc0 : 0 ≤ (i : Int) := by omega
    have hw : wrap64 ((i : Int) + 1) = ((i + 1 : Nat) : Int) := by rw [wrap64_id (by omega) (by omega)]; omega
    refine Ev.step (f := fun K => swarfkit_EqualInts.l0 K a b (a.getD i 0 == b.getD i 0) ((i + 1 : Nat) : Int)) (fun K => ?_) ?_
    · simp only [swarfkit_EqualInts.l0, hc, hc2, hc0, if_true, hw, rd_getD]
    · rw [drop_cons_rd a i (by omega) 0, drop_cons_rd b i (by omega) 0]
      by_cases he : a.getD i 0 = b.getD i 0
      · rw [he, beq_self_eq_true]
        have := ih (i + 1) (by omega)
        simpa using this
      · rw [beq_eq_false_iff_ne.2 he]
        refine Ev.step (f := fun _ => some false) (fun K => ?_) ?_
        · simp only [swarfkit_EqualInts.l0, Bool.false_eq_true, if_false]
        · have : decide (a.getD i 0 :: a.drop (i + 1) = b.getD i 0 :: b.drop (i + 1)) = false := decide_eq_false (fun e => he (by injection e))
          rw [this]
          exact Ev.now _
theorem equal_ev (a b : List Int) (hs : a.length ≤ 1000000000) (hs2 : b.length ≤ 1000000000) : Ev (fun K => swarfkit_EqualInts.f K a b) (decide (a = b)) := by
  unfold swarfkit_EqualInts.f
  by_cases hl : a.length = b.length
  · have : ((a.length : Int) == (b.length : Int)) = true := beq_iff_eq.2 (by omega)
    rw [this]
    have := equal_l0 a b hl hs a.length 0 (by omega)
    simpa using this
  · have h1 : ((a.length : Int) == (b.length : Int)) = false := beq_eq_false_iff_ne.2 (by omega)
    rw [h1, decide_eq_false (fun e => hl (by rw [e]))]
    refine Ev.step (f := fun _ => some false) (fun K => ?_) (Ev.now _)
    simp only [swarfkit_EqualInts.l0, Bool.false_eq_true, if_false]
theorem awake_ev : Ev (fun K => swarflaw04_awake.f K) true := by
  refine Ev.congr awake_eq ?_
  refine Ev.bind (equal_ev _ _ (by decide) (by decide)) ?_
  simp only [decide_true, if_true]
  refine Ev.bind (equal_ev _ _ (by decide) (by decide)) ?_
  simp only [decide_true]
  exact Ev.now _
theorem awake_true {k : Nat} {r : Bool} (h : swarflaw04_awake.f k = some r) : r = true := by
  obtain ⟨K, hK⟩ := awake_ev
  have h1 := at_rounds (g := fun k => swarflaw04_awake.f k) swarflaw04_awake.mono (Nat.le_max_left k K) h
  have h2 := hK (max k K) (Nat.le_max_right k K)
  exact Option.some.inj (h1.symm.trans h2)
end Go.Proofs.Ytkkmfcdikkiodaa.PC4
namespace Go.Proofs.Ytkkmfcdikkiodaa.PC4
open Go.RowKit Go.Proofs.YtkkmfcdikkiodaaW.PrintWords Go.Proofs.YtkkmfcdikkiodaaW.PrintLast Go.Proofs.YtkkmfcdikkiodaaW.PrintMore
attribute [local go_sem] max2_int min2_int max_two min_two max_three min_three max_four min_four
set_option linter.unusedVariables false
set_option linter.unusedSimpArgs false
set_option maxHeartbeats 8000000 in
set_option maxRecDepth 100000 in
theorem swarflaw04_awake.calls (k : Nat)  (r : Bool) (w : World) (h : swarflaw04_awake.f k  = some r) :
  Calls Try.prog 16 #[] w fun e w' => e = .returned (.bool r) ∧ Below w.heap.size w w' := by
 have hrt := Aside0.mk (awake_true h)
 have HB := Aside0.mk (Below.refl w.heap.size w)
 have H : ((swarflaw04_car.f).bind fun bt142 => ((strip_Out.f bt142.1 bt142.2.1 bt142.2.2.1 bt142.2.2.2.1 bt142.2.2.2.2).bind fun bt153 => ((swarflaw04_car.f).bind fun bt157 => ((strip_Clean.f bt157.1 bt157.2.1 bt157.2.2.1 bt157.2.2.2.1 bt157.2.2.2.2).bind fun bt168 => ((swarflaw04_car.f).bind fun bt170 => ((strip_Work.f bt170.1 bt170.2.1 bt170.2.2.1 bt170.2.2.2.1 bt170.2.2.2.2).bind fun bt181 => (if bt153.2 = 0 then (if bt168.2 = 0 then (if bt181.2.2 = 0 then (if bt168.1 = 2 then (if bt181.2.1 = 74 then ((swarfkit_EqualInts.f k bt153.1 (([1, 3, 3, 3, 3] : List Int))).bind fun t189 => (if t189 = true then ((swarfkit_EqualInts.f k bt181.1 (([1, 2, 3, 4] : List Int))).bind fun t193 => (some t193)) else (some false))) else (some false)) else (some false)) else (some false)) else (some false)) else (some false)))))))) = some r := h
 clear h
 replace H := Option.bind_eq_some_iff.mp H
 obtain ⟨⟨t142, t145, t146, t149, t150⟩, A10, H⟩ := H
 try dsimp only at H
 have A1 := Aside0.mk A10
 clear A10
 replace H := Option.bind_eq_some_iff.mp H
 obtain ⟨⟨t153, t156⟩, A20, H⟩ := H
 try dsimp only at H
 have A2 := Aside0.mk A20
 clear A20
 replace H := Option.bind_eq_some_iff.mp H
 obtain ⟨⟨t157, t160, t161, t164, t165⟩, A30, H⟩ := H
 try dsimp only at H
 have A3 := Aside0.mk A30
 clear A30
 replace H := Option.bind_eq_some_iff.mp H
 obtain ⟨⟨t168, t169⟩, A40, H⟩ := H
 try dsimp only at H
 have A4 := Aside0.mk A40
 clear A40
 replace H := Option.bind_eq_some_iff.mp H
 obtain ⟨⟨t170, t173, t174, t177, t178⟩, A50, H⟩ := H
 try dsimp only at H
 have A5 := Aside0.mk A50
 clear A50
 replace H := Option.bind_eq_some_iff.mp H
 obtain ⟨⟨t181, t184, t185⟩, A60, H⟩ := H
 try dsimp only at H
 have A6 := Aside0.mk A60
 clear A60
 by_cases c7 : t156 = 0
 ·
  rw [if_pos c7] at H
  have c7b0 : (t156 == 0) = true := beq_iff_eq.mpr c7
  have c7b1 : (t156 != 0) = false := bne_eq_false_iff_eq.mpr c7
  clear c7
  by_cases c8 : t169 = 0
  ·
   rw [if_pos c8] at H
   have c8b0 : (t169 == 0) = true := beq_iff_eq.mpr c8
   have c8b1 : (t169 != 0) = false := bne_eq_false_iff_eq.mpr c8
   clear c8
   by_cases c9 : t185 = 0
   ·
    rw [if_pos c9] at H
    have c9b0 : (t185 == 0) = true := beq_iff_eq.mpr c9
    have c9b1 : (t185 != 0) = false := bne_eq_false_iff_eq.mpr c9
    clear c9
    by_cases c10 : t168 = 2
    ·
     rw [if_pos c10] at H
     have c10b0 : (t168 == 2) = true := beq_iff_eq.mpr c10
     have c10b1 : (t168 != 2) = false := bne_eq_false_iff_eq.mpr c10
     clear c10
     by_cases c11 : t184 = 74
     ·
      rw [if_pos c11] at H
      have c11b0 : (t184 == 74) = true := beq_iff_eq.mpr c11
      have c11b1 : (t184 != 74) = false := bne_eq_false_iff_eq.mpr c11
      clear c11
      obtain ⟨y186, hy186⟩ : ∃ y_ : List Int, y_ = (([1, 3, 3, 3, 3] : List Int)) := ⟨_, rfl⟩
      replace H : ((swarfkit_EqualInts.f k t153 y186).bind fun t189 => (if t189 = true then ((swarfkit_EqualInts.f k t181 (([1, 2, 3, 4] : List Int))).bind fun t193 => (some t193)) else (some false))) = some r := by first | (rw [hy186]; with_reducible exact H) | (have H2_ := (Option.bind_some _ _).symm.trans H; rw [hy186]; with_reducible exact H2_) | (have H2_ := (Option.bind_some _ _).symm.trans H; with_reducible exact H2_) | with_reducible exact H | (rw [hy186]; exact H) | exact H
      have Ny186 := Aside0.mk hy186
      clear hy186
      replace H := Option.bind_eq_some_iff.mp H
      obtain ⟨t189, A120, H⟩ := H
      try dsimp only at H
      have A12 := Aside0.mk A120
      clear A120
      by_cases c13 : t189 = true
      ·
       subst c13
       have H1 : ((swarfkit_EqualInts.f k t181 (([1, 2, 3, 4] : List Int))).bind fun t193 => (some t193)) = some r := by rw [if_pos rfl] at H; exact H
       clear H
       have H := H1
       clear H1
       obtain ⟨y190, hy190⟩ : ∃ y_ : List Int, y_ = (([1, 2, 3, 4] : List Int)) := ⟨_, rfl⟩
       replace H : ((swarfkit_EqualInts.f k t181 y190).bind fun t193 => (some t193)) = some r := by first | (rw [hy190]; with_reducible exact H) | (have H2_ := (Option.bind_some _ _).symm.trans H; rw [hy190]; with_reducible exact H2_) | (have H2_ := (Option.bind_some _ _).symm.trans H; with_reducible exact H2_) | with_reducible exact H | (rw [hy190]; exact H) | exact H
       have Ny190 := Aside0.mk hy190
       clear hy190
       replace H := Option.bind_eq_some_iff.mp H
       obtain ⟨t193, A140, H⟩ := H
       replace H : (some t193) = some r := H
       have A14 := Aside0.mk A140
       clear A140
       obtain rfl := Option.some.inj H
       go_enter Try.func16, Try.ntmps16
       go_wp2_with (first | ((with_reducible refine gate_callee (f := 55) rfl ?_); refine goesL_ (some 10) rfl rfl Try.func55 (by kernel_rfl) rfl #[] rfl (by (try simp only [List.map_toArray, List.map_cons, List.map_nil]); first | done | rfl | (simp only [List.length_drop, List.length_take]; rfl)) ?_; (with_reducible refine (swarflaw04_car.calls  t142 t145 t146 t149 t150 _ A1.out).mono ?_); rintro e w15 ⟨v143, v147, v151, rfl, ho0, ho1, ho2, hb⟩; refine ⟨_, rfl, ?_⟩; have HO144 := Aside0.mk (Kd.N_lower (Kd.N_mono (ok' := fun k_ => some k_ ≠ (v147 : Value).ownBlock ∧ some k_ ≠ (v151 : Value).ownBlock) ho0 (fun k_ hk_ => ⟨hk_.2.1, hk_.2.2⟩)) (below_size (below_x HB.out))); have HO148 := Aside0.mk (Kd.R_lower (Kd.R_mono (ok' := fun k_ => True) ho1 (fun _ hk_ => trivial)) (below_size (below_x HB.out))); have HO152 := Aside0.mk (Kd.R_lower (Kd.R_mono (ok' := fun k_ => True) ho2 (fun _ hk_ => trivial)) (below_size (below_x HB.out))); replace HB := Aside0.mk (below_step (below_x HB.out) hb); (try clear hb); (try clear hk); (try clear hi); (try clear ho0); (try clear ho1); (try clear ho2); obtain ⟨Ao16, co16, eo16⟩ := Kd.N_slice HO144.out; subst eo16; obtain ⟨Ao17, co17, eo17⟩ := Kd.R_slice HO148.out; subst eo17; obtain ⟨Ao18, co18, eo18⟩ := Kd.R_slice HO152.out; subst eo18) | ((with_reducible refine gate_callee (f := 26) rfl ?_); refine goesL_ (some 11) rfl rfl Try.func26 (by kernel_rfl) rfl #[.agg #[.slice Ao16 t142.length co16, .int .i64 t145, .slice Ao17 t146.length co17, .int .i64 t149, .slice Ao18 t150.length co18]] rfl (by (try simp only [List.map_toArray, List.map_cons, List.map_nil]); first | done | rfl | (simp only [List.length_drop, List.length_take]; rfl)) ?_; (with_reducible refine (strip_Out.calls _ _ t142 t145 _ _ t146 t149 _ _ t150 t153 t156 _ ?side1 ?side2 ?side3 ?side4 ?side5 ?side6 A2.out).mono ?_); (case side1 => exact Kd.C_y (Kd.N_reads' HO144.out).2.2); (case side2 => exact (Kd.N_reads' HO144.out).2.1); (case side3 => exact Kd.C_y (Kd.R_reads' HO148.out).2.2); (case side4 => exact (Kd.R_reads' HO148.out).2.1); (case side5 => exact Kd.C_y (Kd.R_reads' HO152.out).2.2); (case side6 => exact (Kd.R_reads' HO152.out).2.1); rintro e w19 ⟨v154, rfl, ho0, hb⟩; refine ⟨_, rfl, ?_⟩; replace HO144 := Aside0.mk (Kd.N_elder' (Kd.N_x HO144.out) (Kd.R_base ho0) hb); replace HO148 := Aside0.mk (Kd.R_below (Kd.R_x HO148.out) hb); have HO155 := Aside0.mk (Kd.R_lower (Kd.R_new' ho0 (Kd.R_lt (Kd.R_x HO152.out))) (below_size (below_x HB.out))); replace HO152 := Aside0.mk (Kd.R_elder' (Kd.R_x HO152.out) (Kd.R_base ho0) hb); replace HB := Aside0.mk (below_step (below_x HB.out) hb); (try clear hb); (try clear hk); (try clear hi); (try clear ho0)) | ((with_reducible refine gate_callee (f := 55) rfl ?_); refine goesL_ (some 15) rfl rfl Try.func55 (by kernel_rfl) rfl #[] rfl (by (try simp only [List.map_toArray, List.map_cons, List.map_nil]); first | done | rfl | (simp only [List.length_drop, List.length_take]; rfl)) ?_; (with_reducible refine (swarflaw04_car.calls  t157 t160 t161 t164 t165 _ A3.out).mono ?_); rintro e w20 ⟨v158, v162, v166, rfl, ho0, ho1, ho2, hb⟩; refine ⟨_, rfl, ?_⟩; have HO159 := Aside0.mk (Kd.N_lower (Kd.N_mono (ok' := fun k_ => some k_ ≠ (v162 : Value).ownBlock ∧ some k_ ≠ (v166 : Value).ownBlock ∧ some k_ ≠ (.slice Ao16 t142.length co16 : Value).ownBlock ∧ some k_ ≠ (.slice Ao17 t146.length co17 : Value).ownBlock ∧ some k_ ≠ (.slice Ao18 t150.length co18 : Value).ownBlock ∧ some k_ ≠ (v154 : Value).ownBlock) ho0 (fun k_ hk_ => ⟨hk_.2.1, hk_.2.2, (Kd.fresh' (Kd.N_lt (Kd.N_x HO144.out)) k_ hk_.1), (Kd.fresh' (Kd.R_lt (Kd.R_x HO148.out)) k_ hk_.1), (Kd.fresh' (Kd.R_lt (Kd.R_x HO152.out)) k_ hk_.1), (Kd.fresh' (Kd.R_lt (Kd.R_x HO155.out)) k_ hk_.1)⟩)) (below_size (below_x HB.out))); replace HO144 := Aside0.mk (Kd.N_mono (Kd.N_told (Kd.N_told (Kd.N_told (Kd.N_old (Kd.N_x HO144.out) hb) (Kd.N_base ho0)) (Kd.R_base ho1)) (Kd.R_base ho2)) (fun _ h_ => h_.1)); have HO163 := Aside0.mk (Kd.R_lower (Kd.R_new' (Kd.R_mono (ok' := fun k_ => True) ho1 (fun _ hk_ => trivial)) (Kd.R_lt (Kd.R_x HO148.out))) (below_size (below_x HB.out))); replace HO148 := Aside0.mk (Kd.R_elder' (Kd.R_x HO148.out) (Kd.R_base ho1) hb); have HO167 := Aside0.mk (Kd.R_lower (Kd.R_new' (Kd.R_new' (Kd.R_mono (ok' := fun k_ => True) ho2 (fun _ hk_ => trivial)) (Kd.R_lt (Kd.R_x HO152.out))) (Kd.R_lt (Kd.R_x HO155.out))) (below_size (below_x HB.out))); replace HO152 := Aside0.mk (Kd.R_elder' (Kd.R_x HO152.out) (Kd.R_base ho2) hb); replace HO155 := Aside0.mk (Kd.R_elder' (Kd.R_x HO155.out) (Kd.R_base ho2) hb); replace HB := Aside0.mk (below_step (below_x HB.out) hb); (try clear hb); (try clear hk); (try clear hi); (try clear ho0); (try clear ho1); (try clear ho2); obtain ⟨Ao21, co21, eo21⟩ := Kd.N_slice HO159.out; subst eo21; obtain ⟨Ao22, co22, eo22⟩ := Kd.R_slice HO163.out; subst eo22; obtain ⟨Ao23, co23, eo23⟩ := Kd.R_slice HO167.out; subst eo23) | ((with_reducible refine gate_callee (f := 27) rfl ?_); refine goesL_ (some 16) rfl rfl Try.func27 (by kernel_rfl) rfl #[.agg #[.slice Ao21 t157.length co21, .int .i64 t160, .slice Ao22 t161.length co22, .int .i64 t164, .slice Ao23 t165.length co23]] rfl (by (try simp only [List.map_toArray, List.map_cons, List.map_nil]); first | done | rfl | (simp only [List.length_drop, List.length_take]; rfl)) ?_; (with_reducible refine (strip_Clean.calls _ _ t157 t160 _ _ t161 t164 _ _ t165 t168 t169 _ ?side1 ?side2 ?side3 ?side4 ?side5 ?side6 A4.out).mono ?_); (case side1 => exact Kd.C_y (Kd.N_reads' HO159.out).2.2); (case side2 => exact (Kd.N_reads' HO159.out).2.1); (case side3 => exact Kd.C_y (Kd.R_reads' HO163.out).2.2); (case side4 => exact (Kd.R_reads' HO163.out).2.1); (case side5 => exact Kd.C_y (Kd.R_reads' HO167.out).2.2); (case side6 => exact (Kd.R_reads' HO167.out).2.1); rintro e w24 ⟨rfl, hb⟩; refine ⟨_, rfl, ?_⟩; replace HO144 := Aside0.mk (Kd.N_below (Kd.N_x HO144.out) hb); replace HO148 := Aside0.mk (Kd.R_below (Kd.R_x HO148.out) hb); replace HO152 := Aside0.mk (Kd.R_below (Kd.R_x HO152.out) hb); replace HO155 := Aside0.mk (Kd.R_below (Kd.R_x HO155.out) hb); replace HO159 := Aside0.mk (Kd.N_below (Kd.N_x HO159.out) hb); replace HO163 := Aside0.mk (Kd.R_below (Kd.R_x HO163.out) hb); replace HO167 := Aside0.mk (Kd.R_below (Kd.R_x HO167.out) hb); replace HB := Aside0.mk (below_step (below_x HB.out) hb); (try clear hb); (try clear hk); (try clear hi)) | ((with_reducible refine gate_callee (f := 55) rfl ?_); refine goesL_ (some 20) rfl rfl Try.func55 (by kernel_rfl) rfl #[] rfl (by (try simp only [List.map_toArray, List.map_cons, List.map_nil]); first | done | rfl | (simp only [List.length_drop, List.length_take]; rfl)) ?_; (with_reducible refine (swarflaw04_car.calls  t170 t173 t174 t177 t178 _ A5.out).mono ?_); rintro e w25 ⟨v171, v175, v179, rfl, ho0, ho1, ho2, hb⟩; refine ⟨_, rfl, ?_⟩; have HO172 := Aside0.mk (Kd.N_lower (Kd.N_mono (ok' := fun k_ => some k_ ≠ (v175 : Value).ownBlock ∧ some k_ ≠ (v179 : Value).ownBlock ∧ some k_ ≠ (.slice Ao16 t142.length co16 : Value).ownBlock ∧ some k_ ≠ (.slice Ao17 t146.length co17 : Value).ownBlock ∧ some k_ ≠ (.slice Ao18 t150.length co18 : Value).ownBlock ∧ some k_ ≠ (v154 : Value).ownBlock ∧ some k_ ≠ (.slice Ao21 t157.length co21 : Value).ownBlock ∧ some k_ ≠ (.slice Ao22 t161.length co22 : Value).ownBlock ∧ some k_ ≠ (.slice Ao23 t165.length co23 : Value).ownBlock) ho0 (fun k_ hk_ => ⟨hk_.2.1, hk_.2.2, (Kd.fresh' (Kd.N_lt (Kd.N_x HO144.out)) k_ hk_.1), (Kd.fresh' (Kd.R_lt (Kd.R_x HO148.out)) k_ hk_.1), (Kd.fresh' (Kd.R_lt (Kd.R_x HO152.out)) k_ hk_.1), (Kd.fresh' (Kd.R_lt (Kd.R_x HO155.out)) k_ hk_.1), (Kd.fresh' (Kd.N_lt (Kd.N_x HO159.out)) k_ hk_.1), (Kd.fresh' (Kd.R_lt (Kd.R_x HO163.out)) k_ hk_.1), (Kd.fresh' (Kd.R_lt (Kd.R_x HO167.out)) k_ hk_.1)⟩)) (below_size (below_x HB.out))); replace HO144 := Aside0.mk (Kd.N_mono (Kd.N_told (Kd.N_told (Kd.N_told (Kd.N_old (Kd.N_x HO144.out) hb) (Kd.N_base ho0)) (Kd.R_base ho1)) (Kd.R_base ho2)) (fun _ h_ => h_.1)); replace HO159 := Aside0.mk (Kd.N_mono (Kd.N_told (Kd.N_told (Kd.N_told (Kd.N_old (Kd.N_x HO159.out) hb) (Kd.N_base ho0)) (Kd.R_base ho1)) (Kd.R_base ho2)) (fun _ h_ => h_.1)); have HO176 := Aside0.mk (Kd.R_lower (Kd.R_new' (Kd.R_new' (Kd.R_mono (ok' := fun k_ => True) ho1 (fun _ hk_ => trivial)) (Kd.R_lt (Kd.R_x HO148.out))) (Kd.R_lt (Kd.R_x HO163.out))) (below_size (below_x HB.out))); replace HO148 := Aside0.mk (Kd.R_elder' (Kd.R_x HO148.out) (Kd.R_base ho1) hb); replace HO163 := Aside0.mk (Kd.R_elder' (Kd.R_x HO163.out) (Kd.R_base ho1) hb); have HO180 := Aside0.mk (Kd.R_lower (Kd.R_new' (Kd.R_new' (Kd.R_new' (Kd.R_mono (ok' := fun k_ => True) ho2 (fun _ hk_ => trivial)) (Kd.R_lt (Kd.R_x HO152.out))) (Kd.R_lt (Kd.R_x HO155.out))) (Kd.R_lt (Kd.R_x HO167.out))) (below_size (below_x HB.out))); replace HO152 := Aside0.mk (Kd.R_elder' (Kd.R_x HO152.out) (Kd.R_base ho2) hb); replace HO155 := Aside0.mk (Kd.R_elder' (Kd.R_x HO155.out) (Kd.R_base ho2) hb); replace HO167 := Aside0.mk (Kd.R_elder' (Kd.R_x HO167.out) (Kd.R_base ho2) hb); replace HB := Aside0.mk (below_step (below_x HB.out) hb); (try clear hb); (try clear hk); (try clear hi); (try clear ho0); (try clear ho1); (try clear ho2); obtain ⟨Ao26, co26, eo26⟩ := Kd.N_slice HO172.out; subst eo26; obtain ⟨Ao27, co27, eo27⟩ := Kd.R_slice HO176.out; subst eo27; obtain ⟨Ao28, co28, eo28⟩ := Kd.R_slice HO180.out; subst eo28) | ((with_reducible refine gate_callee (f := 20) rfl ?_); refine goesL_ (some 21) rfl rfl Try.func20 (by kernel_rfl) rfl #[.agg #[.slice Ao26 t170.length co26, .int .i64 t173, .slice Ao27 t174.length co27, .int .i64 t177, .slice Ao28 t178.length co28]] rfl (by (try simp only [List.map_toArray, List.map_cons, List.map_nil]); first | done | rfl | (simp only [List.length_drop, List.length_take]; rfl)) ?_; (with_reducible refine (strip_Work.calls _ _ t170 t173 _ _ t174 t177 _ _ t178 t181 t184 t185 _ ?side1 ?side2 ?side3 ?side4 ?side5 ?side6 A6.out).mono ?_); (case side1 => exact Kd.C_y (Kd.N_reads' HO172.out).2.2); (case side2 => exact (Kd.N_reads' HO172.out).2.1); (case side3 => exact Kd.C_y (Kd.R_reads' HO176.out).2.2); (case side4 => exact (Kd.R_reads' HO176.out).2.1); (case side5 => exact Kd.C_y (Kd.R_reads' HO180.out).2.2); (case side6 => exact (Kd.R_reads' HO180.out).2.1); rintro e w29 ⟨v182, rfl, ho0, hb⟩; refine ⟨_, rfl, ?_⟩; replace HO144 := Aside0.mk (Kd.N_elder' (Kd.N_x HO144.out) (Kd.R_base ho0) hb); replace HO148 := Aside0.mk (Kd.R_below (Kd.R_x HO148.out) hb); replace HO159 := Aside0.mk (Kd.N_elder' (Kd.N_x HO159.out) (Kd.R_base ho0) hb); replace HO163 := Aside0.mk (Kd.R_below (Kd.R_x HO163.out) hb); replace HO172 := Aside0.mk (Kd.N_elder' (Kd.N_x HO172.out) (Kd.R_base ho0) hb); replace HO176 := Aside0.mk (Kd.R_below (Kd.R_x HO176.out) hb); have HO183 := Aside0.mk (Kd.R_lower (Kd.R_new' (Kd.R_new' (Kd.R_new' (Kd.R_new' ho0 (Kd.R_lt (Kd.R_x HO152.out))) (Kd.R_lt (Kd.R_x HO155.out))) (Kd.R_lt (Kd.R_x HO167.out))) (Kd.R_lt (Kd.R_x HO180.out))) (below_size (below_x HB.out))); replace HO152 := Aside0.mk (Kd.R_elder' (Kd.R_x HO152.out) (Kd.R_base ho0) hb); replace HO155 := Aside0.mk (Kd.R_elder' (Kd.R_x HO155.out) (Kd.R_base ho0) hb); replace HO167 := Aside0.mk (Kd.R_elder' (Kd.R_x HO167.out) (Kd.R_base ho0) hb); replace HO180 := Aside0.mk (Kd.R_elder' (Kd.R_x HO180.out) (Kd.R_base ho0) hb); replace HB := Aside0.mk (below_step (below_x HB.out) hb); (try clear hb); (try clear hk); (try clear hi); (try clear ho0)) | ((with_reducible refine gate_dst (N := 49) rfl ?_); (try (refine gate_guard (by rfl) ?_; dsimp only)); refine Kd.R_lit (Kd.int .i64) _ 3 ?hg (N := 49) ?hd (xs := ([1, 3, 3, 3, 3] : List Int)) (inner := [.int .i64 1, .int .i64 3, .int .i64 3, .int .i64 3, .int .i64 3]) (ok := fun _ => True) (okp := fun _ => True) ?hr ?hp (fun _ hk => hk) trivial (Below.refl _ _) (Nat.le_refl _) (by simp) ?_; (case hd => rfl); (case hg => rfl); (case hr => first | (go_simp; done) | (go_simp; rfl)); (case hp => exact (Reps.one (show Kd.M (Kd.int .i64) _ _ _ 1 [.int .i64 1] from rfl) (Reps.one (show Kd.M (Kd.int .i64) _ _ _ 3 [.int .i64 3] from rfl) (Reps.one (show Kd.M (Kd.int .i64) _ _ _ 3 [.int .i64 3] from rfl) (Reps.one (show Kd.M (Kd.int .i64) _ _ _ 3 [.int .i64 3] from rfl) (Reps.one (show Kd.M (Kd.int .i64) _ _ _ 3 [.int .i64 3] from rfl) (Reps.none _ _))))))); intro v187 w30 ho31 hb hg_ hnew_; clear hg_ hnew_; (first | rw [← Ny186.out] at ho31 | (simp only [Int.reduceToNat] at ho31; rw [← Ny186.out] at ho31)); replace HO144 := Aside0.mk (Kd.N_elder' (Kd.N_x HO144.out) (Kd.R_base ho31) hb); replace HO148 := Aside0.mk (Kd.R_below (Kd.R_x HO148.out) hb); replace HO159 := Aside0.mk (Kd.N_elder' (Kd.N_x HO159.out) (Kd.R_base ho31) hb); replace HO163 := Aside0.mk (Kd.R_below (Kd.R_x HO163.out) hb); replace HO172 := Aside0.mk (Kd.N_elder' (Kd.N_x HO172.out) (Kd.R_base ho31) hb); replace HO176 := Aside0.mk (Kd.R_below (Kd.R_x HO176.out) hb); have HO188 := Aside0.mk (Kd.R_lower (Kd.R_new' (Kd.R_new' (Kd.R_new' (Kd.R_new' (Kd.R_new' ho31 (Kd.R_lt (Kd.R_x HO152.out))) (Kd.R_lt (Kd.R_x HO155.out))) (Kd.R_lt (Kd.R_x HO167.out))) (Kd.R_lt (Kd.R_x HO180.out))) (Kd.R_lt (Kd.R_x HO183.out))) (below_size (below_x HB.out))); replace HO152 := Aside0.mk (Kd.R_elder' (Kd.R_x HO152.out) (Kd.R_base ho31) hb); replace HO155 := Aside0.mk (Kd.R_elder' (Kd.R_x HO155.out) (Kd.R_base ho31) hb); replace HO167 := Aside0.mk (Kd.R_elder' (Kd.R_x HO167.out) (Kd.R_base ho31) hb); replace HO180 := Aside0.mk (Kd.R_elder' (Kd.R_x HO180.out) (Kd.R_base ho31) hb); replace HO183 := Aside0.mk (Kd.R_elder' (Kd.R_x HO183.out) (Kd.R_base ho31) hb); replace HB := Aside0.mk (below_step (below_x HB.out) hb); clear hb ho31; obtain ⟨Ao32, co32, eo32⟩ := Kd.R_slice HO155.out; subst eo32; obtain ⟨Ao33, co33, eo33⟩ := Kd.R_slice HO188.out; subst eo33) | (go_at_call 22; (with_reducible refine (swarfkit_EqualInts.calls k _ _ t153 _ _ y186 true _ ?side1 ?side2 ?side3 ?side4 A12.out).mono ?_); (case side1 => exact Kd.C_y (Kd.R_reads' HO155.out).2.2); (case side2 => exact (Kd.R_reads' HO155.out).2.1); (case side3 => exact Kd.C_y (Kd.R_reads' HO188.out).2.2); (case side4 => exact (Kd.R_reads' HO188.out).2.1); rintro e w' ⟨rfl, ⟨nd, rfl⟩⟩) | ((with_reducible refine gate_dst (N := 54) rfl ?_); (try (refine gate_guard (by rfl) ?_; dsimp only)); refine Kd.R_lit (Kd.int .i64) _ 3 ?hg (N := 54) ?hd (xs := ([1, 2, 3, 4] : List Int)) (inner := [.int .i64 1, .int .i64 2, .int .i64 3, .int .i64 4]) (ok := fun _ => True) (okp := fun _ => True) ?hr ?hp (fun _ hk => hk) trivial (Below.refl _ _) (Nat.le_refl _) (by simp) ?_; (case hd => rfl); (case hg => rfl); (case hr => first | (go_simp; done) | (go_simp; rfl)); (case hp => exact (Reps.one (show Kd.M (Kd.int .i64) _ _ _ 1 [.int .i64 1] from rfl) (Reps.one (show Kd.M (Kd.int .i64) _ _ _ 2 [.int .i64 2] from rfl) (Reps.one (show Kd.M (Kd.int .i64) _ _ _ 3 [.int .i64 3] from rfl) (Reps.one (show Kd.M (Kd.int .i64) _ _ _ 4 [.int .i64 4] from rfl) (Reps.none _ _)))))); intro v191 w34 ho35 hb hg_ hnew_; clear hg_ hnew_; (first | rw [← Ny190.out] at ho35 | (simp only [Int.reduceToNat] at ho35; rw [← Ny190.out] at ho35)); replace HO144 := Aside0.mk (Kd.N_elder' (Kd.N_x HO144.out) (Kd.R_base ho35) hb); replace HO148 := Aside0.mk (Kd.R_below (Kd.R_x HO148.out) hb); replace HO159 := Aside0.mk (Kd.N_elder' (Kd.N_x HO159.out) (Kd.R_base ho35) hb); replace HO163 := Aside0.mk (Kd.R_below (Kd.R_x HO163.out) hb); replace HO172 := Aside0.mk (Kd.N_elder' (Kd.N_x HO172.out) (Kd.R_base ho35) hb); replace HO176 := Aside0.mk (Kd.R_below (Kd.R_x HO176.out) hb); have HO192 := Aside0.mk (Kd.R_lower (Kd.R_new' (Kd.R_new' (Kd.R_new' (Kd.R_new' (Kd.R_new' (Kd.R_new' ho35 (Kd.R_lt (Kd.R_x HO152.out))) (Kd.R_lt (Kd.R_x HO155.out))) (Kd.R_lt (Kd.R_x HO167.out))) (Kd.R_lt (Kd.R_x HO180.out))) (Kd.R_lt (Kd.R_x HO183.out))) (Kd.R_lt (Kd.R_x HO188.out))) (below_size (below_x HB.out))); replace HO152 := Aside0.mk (Kd.R_elder' (Kd.R_x HO152.out) (Kd.R_base ho35) hb); replace HO155 := Aside0.mk (Kd.R_elder' (Kd.R_x HO155.out) (Kd.R_base ho35) hb); replace HO167 := Aside0.mk (Kd.R_elder' (Kd.R_x HO167.out) (Kd.R_base ho35) hb); replace HO180 := Aside0.mk (Kd.R_elder' (Kd.R_x HO180.out) (Kd.R_base ho35) hb); replace HO183 := Aside0.mk (Kd.R_elder' (Kd.R_x HO183.out) (Kd.R_base ho35) hb); replace HO188 := Aside0.mk (Kd.R_elder' (Kd.R_x HO188.out) (Kd.R_base ho35) hb); replace HB := Aside0.mk (below_step (below_x HB.out) hb); clear hb ho35; obtain ⟨Ao36, co36, eo36⟩ := Kd.R_slice HO183.out; subst eo36; obtain ⟨Ao37, co37, eo37⟩ := Kd.R_slice HO192.out; subst eo37) | (go_at_call 22; (with_reducible refine (swarfkit_EqualInts.calls k _ _ t181 _ _ y190 t193 _ ?side1 ?side2 ?side3 ?side4 A14.out).mono ?_); (case side1 => exact Kd.C_y (Kd.R_reads' HO183.out).2.2); (case side2 => exact (Kd.R_reads' HO183.out).2.1); (case side3 => exact Kd.C_y (Kd.R_reads' HO192.out).2.2); (case side4 => exact (Kd.R_reads' HO192.out).2.1); rintro e w' ⟨rfl, ⟨nd, rfl⟩⟩))
       go_ret
       exact ⟨by first | rfl | (simp [errW_none, errW_some] <;> rfl) | (simp [*, errW_none, errW_some] <;> rfl), by exact below_y HB.out⟩
      ·
       replace c13 := Bool.eq_false_iff.mpr c13
       subst c13
       have H1 : (some false) = some r := by rw [if_neg (show ¬ (false = true) by decide)] at H; exact H
       clear H
       have H := H1
       clear H1
       exact absurd ((Option.some.inj H).trans hrt.out) (by decide)
     ·
      rw [if_neg c11] at H
      have c11b0 : (t184 == 74) = false := beq_eq_false_iff_ne.mpr c11
      have c11b1 : (t184 != 74) = true := bne_iff_ne.mpr c11
      exact absurd ((Option.some.inj H).trans hrt.out) (by decide)
    ·
     rw [if_neg c10] at H
     have c10b0 : (t168 == 2) = false := beq_eq_false_iff_ne.mpr c10
     have c10b1 : (t168 != 2) = true := bne_iff_ne.mpr c10
     exact absurd ((Option.some.inj H).trans hrt.out) (by decide)
   ·
    rw [if_neg c9] at H
    have c9b0 : (t185 == 0) = false := beq_eq_false_iff_ne.mpr c9
    have c9b1 : (t185 != 0) = true := bne_iff_ne.mpr c9
    exact absurd ((Option.some.inj H).trans hrt.out) (by decide)
  ·
   rw [if_neg c8] at H
   have c8b0 : (t169 == 0) = false := beq_eq_false_iff_ne.mpr c8
   have c8b1 : (t169 != 0) = true := bne_iff_ne.mpr c8
   exact absurd ((Option.some.inj H).trans hrt.out) (by decide)
 ·
  rw [if_neg c7] at H
  have c7b0 : (t156 == 0) = false := beq_eq_false_iff_ne.mpr c7
  have c7b1 : (t156 != 0) = true := bne_iff_ne.mpr c7
  exact absurd ((Option.some.inj H).trans hrt.out) (by decide)
def swarfkit_Ints.f (l0 : List Int) : Option (List Int) := (some (([] : List Int) : List Int)).bind fun y463 => (if y463.length + l0.length < 17592186044416 then (some (y463 ++ l0)) else (none))
set_option maxHeartbeats 8000000 in
set_option maxRecDepth 100000 in
theorem swarfkit_Ints.calls (A0 : Option Addr) (c0 : Nat) (l0 : List Int) (r : List Int) (w : World) (hr0 : Kd.C (Kd.int .i64) w A0 l0.length l0) (hc0 : l0.length ≤ c0) (h : swarfkit_Ints.f l0 = some r) :
  Calls Try.prog 43 #[.slice A0 l0.length c0] w fun e w' => ∃ v0_ : Value, e = .returned (v0_) ∧ Kd.R (Kd.int .i64) 3 w' w.heap.size (fun _ => True) v0_ r ∧ Below w.heap.size w w' := by
 have HR0 := Aside0.mk hr0
 have HC0 := Aside0.mk hc0
 clear hr0 hc0
 have HB := Aside0.mk (Below.refl w.heap.size w)
 have H : ((some (([] : List Int) : List Int)).bind fun y463 => (if y463.length + l0.length < 17592186044416 then (some (y463 ++ l0)) else (none))) = some r := h
 clear h
 obtain ⟨y463, hy463⟩ : ∃ y_ : List Int, y_ = (([] : List Int)) := ⟨_, rfl⟩
 replace H : (if y463.length + l0.length < 17592186044416 then (some (y463 ++ l0)) else (none)) = some r := by first | (rw [hy463]; with_reducible exact H) | (have H2_ := (Option.bind_some _ _).symm.trans H; rw [hy463]; with_reducible exact H2_) | (have H2_ := (Option.bind_some _ _).symm.trans H; with_reducible exact H2_) | with_reducible exact H | (rw [hy463]; exact H) | exact H
 have Ny463 := Aside0.mk hy463
 clear hy463
 by_cases c2 : y463.length + l0.length < 17592186044416
 ·
  rw [if_pos c2] at H
  have LMc2 := Aside0.mk c2
  clear c2
  obtain ⟨y466, hy466⟩ : ∃ y_ : List Int, y_ = (y463 ++ l0) := ⟨_, rfl⟩
  replace H : (some y466) = some r := by first | (rw [hy466]; with_reducible exact H) | (have H2_ := (Option.bind_some _ _).symm.trans H; rw [hy466]; with_reducible exact H2_) | (have H2_ := (Option.bind_some _ _).symm.trans H; with_reducible exact H2_) | with_reducible exact H | (rw [hy466]; exact H) | exact H
  have Ny466 := Aside0.mk hy466
  clear hy466
  obtain rfl := Option.some.inj H
  go_enter Try.func43, Try.ntmps43
  go_wp2_with (first | ((with_reducible refine gate_dst (N := 3) rfl ?_); refine Kd.R_lit (Kd.int .i64) _ 3 ?hg (N := 3) ?hd (xs := ([] : List Int)) (inner := []) (ok := fun _ => True) (okp := fun _ => True) ?hr ?hp (fun _ hk => hk) trivial (Below.refl _ _) (Nat.le_refl _) (by simp) ?_; (case hd => rfl); (case hg => rfl); (case hr => first | (go_simp; done) | (go_simp; rfl)); (case hp => exact (Reps.none _ _)); intro v464 w3 ho4 hb hg_ hnew_; clear hg_ hnew_; (first | rw [← Ny463.out] at ho4 | (simp only [Int.reduceToNat] at ho4; rw [← Ny463.out] at ho4)); have HO465 := Aside0.mk (Kd.R_lower ho4 (below_size (below_x HB.out))); replace HB := Aside0.mk (below_step (below_x HB.out) hb); clear hb ho4) | ((with_reducible refine gate_builtin (b := .append) (xs := #[.tmp 3, .tmp 4]) rfl ?_); at_builtin; refine Kd.R_append_rows (Kd.int .i64) (w0 := w) w.heap.size rfl (.tmp 3) (.tmp 4) 24 3 (.int .i64 0) 8 rfl Try.underlying24 info3 rfl (by decide) (by omega) v464 y463 l0 _ _ _ (fun _ => True) (fun _ => False) rfl rfl ?aO ?aR (fun _ _ h => h) (fun _ h => h.elim) ?aF ?aB ?aS ?aL ?_; (case aR => exact Kd.C_x HR0.out HB.out); (case aB => exact (below_x HB.out)); (case aF => exact (fun _ _ => trivial)); (case aO => exact (Kd.R_x HO465.out)); (case aS => exact (below_size (below_x HB.out))); (case aL => have := LMc2.out; omega); intro v467 w5 ho hb hg hat; rw [← Ny466.out] at ho; replace HB := Aside0.mk (hb); have HO468 := Aside0.mk (ho); clear HO465; clear ho hb hg hat))
  go_ret
  exact ⟨_, by first | rfl | (simp [errW_none, errW_some] <;> rfl) | (simp [*, errW_none, errW_some] <;> rfl), by (with_reducible repeat (first | apply Kd.R_alloc | apply Kd.R_drewN | apply Kd.R_drew)); exact HO468.out, by exact below_y HB.out⟩
 ·
  rw [if_neg c2] at H
  exact absurd H (by simp)
def swarfkit_CopyCar.l0 : Nat → Int → List (S50) → Int → List (S61) → Int → List Int → List (S50) → Int → List (S61) → Int → List Int → Option ((List (S50)) × Int × (List (S61)) × Int × List Int)
 | 0, _, _, _, _, _, _, _, _, _, _, _ => none
 | k + 1, x4, x470000, x470001, x470002, x470003, x470004, x472000, x472001, x472002, x472003, x472004 => if x4 < (x470000.length : Int) then (if 0 ≤ x4 then ((swarfkit_Ints.f ((rd_T50 x470000 x4).f0)).bind fun t483 => (if x472000.length < 2932031007402 then (swarfkit_CopyCar.l0 k (wrap64 (x4 + 1)) x470000 x470001 x470002 x470003 x470004 (x472000 ++ [(⟨t483, (rd_T50 x470000 x4).f1, (rd_T50 x470000 x4).f2, (rd_T50 x470000 x4).f3⟩ : S50)]) x472001 x472002 x472003 x472004) else (none))) else (none)) else (some (x472000, x472001, x472002, x472003, x472004))
def swarfkit_CopyCar.f (k : Nat) (l0_0 : List (S50)) (a0_1 : Int) (l0_2 : List (S61)) (a0_3 : Int) (l0_4 : List Int) : Option ((List (S50)) × Int × (List (S61)) × Int × List Int) := (some (([] : List (S61)) : List (S61))).bind fun y472 => (if y472.length + l0_2.length < 8796093022208 then ((swarfkit_Ints.f l0_4).bind fun t478 => (swarfkit_CopyCar.l0 k 0 l0_0 a0_1 l0_2 a0_3 l0_4 ([] : List (S50)) a0_1 (y472 ++ l0_2) a0_3 t478)) else (none))
theorem swarfkit_CopyCar.mono_l : ∀ k, (∀ y0 y1 y2 y3 y4 y5 y6 y7 y8 y9 y10, LeO (swarfkit_CopyCar.l0 k y0 y1 y2 y3 y4 y5 y6 y7 y8 y9 y10) (swarfkit_CopyCar.l0 (k + 1) y0 y1 y2 y3 y4 y5 y6 y7 y8 y9 y10))
 | 0 => fun _ _ _ _ _ _ _ _ _ _ _ r h => by simp [swarfkit_CopyCar.l0] at h
 | k + 1 => by
  have ih0 := swarfkit_CopyCar.mono_l k
  ·
   intro y0 y1 y2 y3 y4 y5 y6 y7 y8 y9 y10
   unfold swarfkit_CopyCar.l0
   repeat' first
   | (with_reducible exact ih0 _ _ _ _ _ _ _ _ _ _ _)
   | (with_reducible exact LeO.refl _)
   | (with_reducible exact LeO.none _)
   | (with_reducible refine LeO.ite ?_ ?_)
   | (with_reducible refine LeO.bind ?_ (fun _ => ?_))
   | exact ih0 _ _ _ _ _ _ _ _ _ _ _
   | exact LeO.none _
   | refine LeO.ite ?_ ?_
   | refine LeO.bind ?_ (fun _ => ?_)
theorem swarfkit_CopyCar.mono : ∀ a0 a1 a2 a3 a4 k, LeO (swarfkit_CopyCar.f k a0 a1 a2 a3 a4) (swarfkit_CopyCar.f (k + 1) a0 a1 a2 a3 a4) := by
 intro a0 a1 a2 a3 a4 k
 have ih0 := swarfkit_CopyCar.mono_l k
 unfold swarfkit_CopyCar.f
 repeat' first
   | (with_reducible exact ih0 _ _ _ _ _ _ _ _ _ _ _)
   | (with_reducible exact LeO.refl _)
   | (with_reducible exact LeO.none _)
   | (with_reducible refine LeO.ite ?_ ?_)
   | (with_reducible refine LeO.bind ?_ (fun _ => ?_))
   | exact ih0 _ _ _ _ _ _ _ _ _ _ _
   | exact LeO.none _
   | refine LeO.ite ?_ ?_
   | refine LeO.bind ?_ (fun _ => ?_)
def swarfkit_CopyCar.T2 : Bool × List (List Nat × List Nat) := (true, [([], []), ([], []), ([1], [1]), ([0, 2], [0, 2]), ([], []), ([4], [4]), ([5, 3], [5]), ([], []), ([7, 6], [7]), ([0, 1, 2, 3, 7, 8], []), ([9, 3, 8, 0, 1, 2, 3, 7, 8], [3, 9]), ([0, 1, 2, 3, 4, 5, 6, 7, 8, 9, 10], []), ([11, 6, 10, 0, 1, 2, 3, 4, 5, 6, 7, 8, 9, 10], [6, 11])])
def swarfkit_CopyCar.B2 : List Nat := [0, 0, 2, 7, 0, 16, 63, 0, 255, 511, 1023, 2047, 4095]
theorem swarfkit_CopyCar.tab2 : rtab .any (opsOf Try.f19 2) = swarfkit_CopyCar.T2 := by kernel_rfl
theorem swarfkit_CopyCar.bits2 : waitsOk swarfkit_CopyCar.T2.2 swarfkit_CopyCar.B2 = true := by kernel_rfl
set_option maxHeartbeats 8000000 in
set_option maxRecDepth 100000 in
theorem swarfkit_CopyCar.calls (k : Nat) (A0_0 : Option Addr) (c0_0 : Nat) (l0_0 : List (S50)) (a0_1 : Int) (A0_2 : Option Addr) (c0_2 : Nat) (l0_2 : List (S61)) (a0_3 : Int) (A0_4 : Option Addr) (c0_4 : Nat) (l0_4 : List Int) (r1 : List (S50)) (r2 : Int) (r3 : List (S61)) (r4 : Int) (r5 : List Int) (w : World) (hr0_0 : Kd.C k50 w A0_0 l0_0.length l0_0) (hc0_0 : l0_0.length ≤ c0_0) (hr0_2 : Kd.C k61 w A0_2 l0_2.length l0_2) (hc0_2 : l0_2.length ≤ c0_2) (hr0_4 : Kd.C (Kd.int .i64) w A0_4 l0_4.length l0_4) (hc0_4 : l0_4.length ≤ c0_4) (h : swarfkit_CopyCar.f k l0_0 a0_1 l0_2 a0_3 l0_4 = some (r1, r2, r3, r4, r5)) :
  Calls Try.prog 19 #[.agg #[.slice A0_0 l0_0.length c0_0, .int .i64 a0_1, .slice A0_2 l0_2.length c0_2, .int .i64 a0_3, .slice A0_4 l0_4.length c0_4]] w fun e w' => ∃ v0_ v2_ v4_ : Value, e = .returned (.agg #[v0_, .int .i64 r2, v2_, .int .i64 r4, v4_]) ∧ Kd.S k50 50 w' w.heap.size (fun k_ => some k_ ≠ (v4_ : Value).ownBlock) v0_ r1 ∧ Kd.R k61 61 w' w.heap.size (fun _ => True) v2_ r3 ∧ Kd.R (Kd.int .i64) 3 w' w.heap.size (fun _ => True) v4_ r5 ∧ Below w.heap.size w w' := by
 have hu26 := Try.underlying26
 have hu50 := Try.underlying50
 have HR0_0 := Aside0.mk hr0_0
 have HC0_0 := Aside0.mk hc0_0
 clear hr0_0 hc0_0
 have HR0_2 := Aside0.mk hr0_2
 have HC0_2 := Aside0.mk hc0_2
 clear hr0_2 hc0_2
 have HR0_4 := Aside0.mk hr0_4
 have HC0_4 := Aside0.mk hc0_4
 clear hr0_4 hc0_4
 have HB := Aside0.mk (Below.refl w.heap.size w)
 have H : ((some (([] : List (S61)) : List (S61))).bind fun y472 => (if y472.length + l0_2.length < 8796093022208 then ((swarfkit_Ints.f l0_4).bind fun t478 => (swarfkit_CopyCar.l0 k 0 l0_0 a0_1 l0_2 a0_3 l0_4 ([] : List (S50)) a0_1 (y472 ++ l0_2) a0_3 t478)) else (none))) = some (r1, r2, r3, r4, r5) := h
 clear h
 obtain ⟨y472, hy472⟩ : ∃ y_ : List (S61), y_ = (([] : List (S61))) := ⟨_, rfl⟩
 replace H : (if y472.length + l0_2.length < 8796093022208 then ((swarfkit_Ints.f l0_4).bind fun t478 => (swarfkit_CopyCar.l0 k 0 l0_0 a0_1 l0_2 a0_3 l0_4 ([] : List (S50)) a0_1 (y472 ++ l0_2) a0_3 t478)) else (none)) = some (r1, r2, r3, r4, r5) := by first | (rw [hy472]; with_reducible exact H) | (have H2_ := (Option.bind_some _ _).symm.trans H; rw [hy472]; with_reducible exact H2_) | (have H2_ := (Option.bind_some _ _).symm.trans H; with_reducible exact H2_) | with_reducible exact H | (rw [hy472]; exact H) | exact H
 have Ny472 := Aside0.mk hy472
 clear hy472
 by_cases c2 : y472.length + l0_2.length < 8796093022208
 ·
  rw [if_pos c2] at H
  have LMc2 := Aside0.mk c2
  clear c2
  obtain ⟨y475, hy475⟩ : ∃ y_ : List (S61), y_ = (y472 ++ l0_2) := ⟨_, rfl⟩
  replace H : ((swarfkit_Ints.f l0_4).bind fun t478 => (swarfkit_CopyCar.l0 k 0 l0_0 a0_1 l0_2 a0_3 l0_4 ([] : List (S50)) a0_1 y475 a0_3 t478)) = some (r1, r2, r3, r4, r5) := by first | (rw [hy475]; with_reducible exact H) | (have H2_ := (Option.bind_some _ _).symm.trans H; rw [hy475]; with_reducible exact H2_) | (have H2_ := (Option.bind_some _ _).symm.trans H; with_reducible exact H2_) | with_reducible exact H | (rw [hy475]; exact H) | exact H
  have Ny475 := Aside0.mk hy475
  clear hy475
  replace H := Option.bind_eq_some_iff.mp H
  obtain ⟨t478, A30, H⟩ := H
  try dsimp only at H
  have A3 := Aside0.mk A30
  clear A30
  have H' := Aside0.mk H
  clear H
  go_enter Try.func19, Try.ntmps19
  try go_wp2_with (first | ((with_reducible refine gate_dst (N := 1) rfl ?_); refine box_event ?hg (N := 1) ?hd (cs := #[.slice A0_0 l0_0.length c0_0, .int .i64 a0_1, .slice A0_2 l0_2.length c0_2, .int .i64 a0_3, .slice A0_4 l0_4.length c0_4]) (t := 26) ?hr ?_; (case hd => rfl); (case hg => rfl); (case hr => first | (go_simp; done) | (go_simp; rfl)); intro gb469 hg w4 hbox hb; have BK469 := Aside0.mk (hbox); have GW469 := Aside0.mk ((by rw [hg]; exact (below_size (below_x HB.out)) : w.heap.size ≤ gb469)); have GE469 := Aside0.mk ((by rw [hg]; exact (below_size (below_x HB.out)) : w.heap.size ≤ gb469)); replace HB := Aside0.mk (below_step (below_x HB.out) hb); clear hb hbox hg) | ((with_reducible refine gate_dst (N := 2) rfl ?_); refine box_event ?hg (N := 2) ?hd (cs := #[.slice none 0 0, .int .i64 0, .slice none 0 0, .int .i64 0, .slice none 0 0]) (t := 26) ?hr ?_; (case hd => rfl); (case hg => rfl); (case hr => first | (go_simp; done) | (go_simp; rfl)); intro gb470 hg w5 hbox hb; have BK470 := Aside0.mk (hbox); have GW470 := Aside0.mk ((by rw [hg]; exact (below_size (by exact below_y HB.out)) : w.heap.size ≤ gb470)); have GE470 := Aside0.mk ((by rw [hg]; exact (below_size (by exact below_y HB.out)) : w.heap.size ≤ gb470)); replace HB := bl_x HB hb; have NB469_470 := Aside0.mk ((by rw [hg]; exact Nat.ne_of_lt (blk_lt (g := gb469) (o := .cells #[.slice A0_0 l0_0.length c0_0, .int .i64 a0_1, .slice A0_2 l0_2.length c0_2, .int .i64 a0_3, .slice A0_4 l0_4.length c0_4] 26 (0, 0)) (blk_x BK469.out)) : gb469 ≠ gb470)); have NB470_469 := Aside0.mk ((by rw [hg]; exact Nat.ne_of_gt (blk_lt (g := gb469) (o := .cells #[.slice A0_0 l0_0.length c0_0, .int .i64 a0_1, .slice A0_2 l0_2.length c0_2, .int .i64 a0_3, .slice A0_4 l0_4.length c0_4] 26 (0, 0)) (blk_x BK469.out)) : gb470 ≠ gb469)); replace BK469 := Aside0.mk (blk_below (blk_x BK469.out) hb); clear hb hbox hg; have hnb6 := NB469_470.out; have hnc6 := NB470_469.out; obtain ⟨_, _, _, _, _⟩ := cz5 BK469; have hfz7_0 := blk_frozen BK469.out) | ((with_reducible refine gate_dst (N := 3) rfl ?_); refine box_event ?hg (N := 3) ?hd (cs := #[.slice none 0 0, .int .i64 0, .slice none 0 0, .int .i64 0, .slice none 0 0]) (t := 26) ?hr ?_; (case hd => rfl); (case hg => rfl); (case hr => first | (go_simp; done) | (go_simp; rfl)); intro gb471 hg w8 hbox hb; have BK471 := Aside0.mk (hbox); have GW471 := Aside0.mk ((by rw [hg]; exact (below_size (by exact below_y HB.out)) : w.heap.size ≤ gb471)); have GE471 := Aside0.mk ((by rw [hg]; exact (below_size (by exact below_y HB.out)) : w.heap.size ≤ gb471)); replace HB := bl_x HB hb; have NB469_471 := Aside0.mk ((by rw [hg]; exact Nat.ne_of_lt (blk_lt (g := gb469) (o := .cells #[.slice A0_0 l0_0.length c0_0, .int .i64 a0_1, .slice A0_2 l0_2.length c0_2, .int .i64 a0_3, .slice A0_4 l0_4.length c0_4] 26 (0, 0)) (blk_x BK469.out)) : gb469 ≠ gb471)); have NB471_469 := Aside0.mk ((by rw [hg]; exact Nat.ne_of_gt (blk_lt (g := gb469) (o := .cells #[.slice A0_0 l0_0.length c0_0, .int .i64 a0_1, .slice A0_2 l0_2.length c0_2, .int .i64 a0_3, .slice A0_4 l0_4.length c0_4] 26 (0, 0)) (blk_x BK469.out)) : gb471 ≠ gb469)); replace BK469 := Aside0.mk (blk_below (blk_x BK469.out) hb); have NB470_471 := Aside0.mk ((by rw [hg]; exact Nat.ne_of_lt (blk_lt (g := gb470) (o := .cells #[.slice none 0 0, .int .i64 0, .slice none 0 0, .int .i64 0, .slice none 0 0] 26 (0, 0)) (blk_x BK470.out)) : gb470 ≠ gb471)); have NB471_470 := Aside0.mk ((by rw [hg]; exact Nat.ne_of_gt (blk_lt (g := gb470) (o := .cells #[.slice none 0 0, .int .i64 0, .slice none 0 0, .int .i64 0, .slice none 0 0] 26 (0, 0)) (blk_x BK470.out)) : gb471 ≠ gb470)); replace BK470 := Aside0.mk (blk_below (blk_x BK470.out) hb); clear hb hbox hg; have hnb9 := NB471_469.out; have hnc9 := NB469_471.out; have hnb10 := NB471_470.out; have hnc10 := NB470_471.out; obtain ⟨_, _, _, _, _⟩ := cz5 BK471; have hfz11_0 := blk_frozen BK471.out))
  have n0_ : Aside0 ((((((w8.setCell ⟨gb471, 0, none⟩ (.slice A0_0 l0_0.length c0_0)).setCell ⟨gb471, 1, none⟩ (.int .i64 a0_1)).setCell ⟨gb471, 2, none⟩ (.slice A0_2 l0_2.length c0_2)).setCell ⟨gb471, 3, none⟩ (.int .i64 a0_3)).setCell ⟨gb471, 4, none⟩ (.slice A0_4 l0_4.length c0_4)).heap[gb469]? = some (.cells #[.slice A0_0 l0_0.length c0_0, .int .i64 a0_1, .slice A0_2 l0_2.length c0_2, .int .i64 a0_3, .slice A0_4 l0_4.length c0_4] 26 (0, 0))) := ⟨blk_w BK469.out⟩
  have n1_ : Aside0 ((((((w8.setCell ⟨gb471, 0, none⟩ (.slice A0_0 l0_0.length c0_0)).setCell ⟨gb471, 1, none⟩ (.int .i64 a0_1)).setCell ⟨gb471, 2, none⟩ (.slice A0_2 l0_2.length c0_2)).setCell ⟨gb471, 3, none⟩ (.int .i64 a0_3)).setCell ⟨gb471, 4, none⟩ (.slice A0_4 l0_4.length c0_4)).heap[gb470]? = some (.cells #[.slice none 0 0, .int .i64 0, .slice none 0 0, .int .i64 0, .slice none 0 0] 26 (0, 0))) := ⟨blk_w BK470.out⟩
  have n2_ : Aside0 ((((((w8.setCell ⟨gb471, 0, none⟩ (.slice A0_0 l0_0.length c0_0)).setCell ⟨gb471, 1, none⟩ (.int .i64 a0_1)).setCell ⟨gb471, 2, none⟩ (.slice A0_2 l0_2.length c0_2)).setCell ⟨gb471, 3, none⟩ (.int .i64 a0_3)).setCell ⟨gb471, 4, none⟩ (.slice A0_4 l0_4.length c0_4)).heap[gb471]? = some (.cells #[.slice A0_0 l0_0.length c0_0, .int .i64 a0_1, .slice A0_2 l0_2.length c0_2, .int .i64 a0_3, .slice A0_4 l0_4.length c0_4] 26 (0, 0))) := ⟨by (with_reducible repeat (first | refine blk_drewN ?_ _ | refine blk_drew ?_ | refine blk_alloc ?_ _)); refine blk_put (cs := #[.slice A0_0 l0_0.length c0_0, .int .i64 a0_1, .slice A0_2 l0_2.length c0_2, .int .i64 a0_3, .slice none 0 0]) ?_ 4 _ rfl; (with_reducible repeat (first | refine blk_drewN ?_ _ | refine blk_drew ?_ | refine blk_alloc ?_ _)); refine blk_put (cs := #[.slice A0_0 l0_0.length c0_0, .int .i64 a0_1, .slice A0_2 l0_2.length c0_2, .int .i64 0, .slice none 0 0]) ?_ 3 _ rfl; (with_reducible repeat (first | refine blk_drewN ?_ _ | refine blk_drew ?_ | refine blk_alloc ?_ _)); refine blk_put (cs := #[.slice A0_0 l0_0.length c0_0, .int .i64 a0_1, .slice none 0 0, .int .i64 0, .slice none 0 0]) ?_ 2 _ rfl; (with_reducible repeat (first | refine blk_drewN ?_ _ | refine blk_drew ?_ | refine blk_alloc ?_ _)); refine blk_put (cs := #[.slice A0_0 l0_0.length c0_0, .int .i64 0, .slice none 0 0, .int .i64 0, .slice none 0 0]) ?_ 1 _ rfl; (with_reducible repeat (first | refine blk_drewN ?_ _ | refine blk_drew ?_ | refine blk_alloc ?_ _)); refine blk_put (cs := #[.slice none 0 0, .int .i64 0, .slice none 0 0, .int .i64 0, .slice none 0 0]) ?_ 0 _ rfl; (with_reducible repeat (first | refine blk_drewN ?_ _ | refine blk_drew ?_ | refine blk_alloc ?_ _)); exact BK471.out⟩
  have n3_ : Aside0 (Below w.heap.size w (((((w8.setCell ⟨gb471, 0, none⟩ (.slice A0_0 l0_0.length c0_0)).setCell ⟨gb471, 1, none⟩ (.int .i64 a0_1)).setCell ⟨gb471, 2, none⟩ (.slice A0_2 l0_2.length c0_2)).setCell ⟨gb471, 3, none⟩ (.int .i64 a0_3)).setCell ⟨gb471, 4, none⟩ (.slice A0_4 l0_4.length c0_4))) := ⟨by exact below_y HB.out⟩
  (try clear BK469)
  (try clear BK470)
  (try clear BK471)
  (try clear HB)
  generalize (((((w8.setCell ⟨gb471, 0, none⟩ (.slice A0_0 l0_0.length c0_0)).setCell ⟨gb471, 1, none⟩ (.int .i64 a0_1)).setCell ⟨gb471, 2, none⟩ (.slice A0_2 l0_2.length c0_2)).setCell ⟨gb471, 3, none⟩ (.int .i64 a0_3)).setCell ⟨gb471, 4, none⟩ (.slice A0_4 l0_4.length c0_4)) = w12 at n0_ n1_ n2_ n3_ ⊢
  have BK469 := n0_
  have BK470 := n1_
  have BK471 := n2_
  have HB := n3_
  clear n0_ n1_ n2_ n3_
  replace BK469 := Aside0.mk (blk_drew BK469.out)
  replace BK470 := Aside0.mk (blk_drew BK470.out)
  replace BK471 := Aside0.mk (blk_drew BK471.out)
  replace HB := Aside0.mk (below_drew1 HB.out)
  refine start_ (n := 13) (S := fun w' => w'.cell? ⟨gb469, 0, none⟩ = some (.slice A0_0 l0_0.length c0_0) ∧ w'.cell? ⟨gb469, 1, none⟩ = some (.int .i64 a0_1) ∧ w'.cell? ⟨gb469, 2, none⟩ = some (.slice A0_2 l0_2.length c0_2) ∧ w'.cell? ⟨gb469, 3, none⟩ = some (.int .i64 a0_3) ∧ w'.cell? ⟨gb469, 4, none⟩ = some (.slice A0_4 l0_4.length c0_4)) (ds := []) #[false, false, false, false, false, false, false, false, false, false, false, false, false] (by kernel_rfl) rfl rfl ⟨(blk_cell BK469.out 0).trans rfl, (blk_cell BK469.out 1).trans rfl, (blk_cell BK469.out 2).trans rfl, (blk_cell BK469.out 3).trans rfl, (blk_cell BK469.out 4).trans rfl⟩ (fun hHeld => ?_); refine with_tabW swarfkit_CopyCar.tab2 swarfkit_CopyCar.bits2 (fun HT_ HW_ => ?_)
  generalize w12.drew = w13 at BK469 BK470 BK471 HB hHeld ⊢
  refine pure_ (i := 1) (N := some 8) (v := ?_) (a' := ?_) (bz 13 2) rfl rfl (any_of HT_.out (by kernel_rfl)) (fun _ _ _ h => h) (Or.inl ⟨by rfl, ?_⟩) ?_ ?_
  rotate_left
  ·
   intro w'
   go_simp
   with_reducible rfl
  rotate_left
  ·
   simp only [Act.put, put_x, i64_w, i32_w]
   rfl
  refine pure_ (i := 4) (N := some 11) (v := ?_) (a' := ?_) (bz 13 18) rfl rfl (any_of HT_.out (by kernel_rfl)) (fun _ _ _ h => h) (Or.inl ⟨by rfl, ?_⟩) ?_ ?_
  rotate_left
  ·
   intro w'
   go_simp
   with_reducible rfl
  rotate_left
  ·
   simp only [Act.put, put_x, i64_w, i32_w]
   rfl
  refine pure_ (i := 7) (N := some 14) (v := ?_) (a' := ?_) (bz 13 146) rfl rfl (any_of HT_.out (by kernel_rfl)) (fun _ _ _ h => h) (Or.inl ⟨by rfl, ?_⟩) ?_ ?_
  rotate_left
  ·
   intro w'
   go_simp
   with_reducible rfl
  rotate_left
  ·
   simp only [Act.put, put_x, i64_w, i32_w]
   rfl
  refine take_ (i := 2) (N := some 9) (v := ?_) (a' := ?_) (bz 13 150) rfl rfl (take_ofW HT_.out HW_.out (by kernel_rfl)) (fun _ _ _ h => h) (Or.inl ⟨by rfl, ?_⟩) hHeld ?_ ?_
  rotate_left
  ·
   rintro w' ⟨s0, s1, s2, s3, s4⟩
   go_simp
   with_reducible rfl
  rotate_left
  ·
   simp only [Act.put, put_x, i64_w, i32_w]
   rfl
  refine take_ (i := 5) (N := some 12) (v := ?_) (a' := ?_) (bz 13 182) rfl rfl (take_ofW HT_.out HW_.out (by kernel_rfl)) (fun _ _ _ h => h) (Or.inl ⟨by rfl, ?_⟩) hHeld ?_ ?_
  rotate_left
  ·
   rintro w' ⟨s0, s1, s2, s3, s4⟩
   go_simp
   with_reducible rfl
  rotate_left
  ·
   simp only [Act.put, put_x, i64_w, i32_w]
   rfl
  refine one_ (i := 0) (N := some 7) (bz 13 183) rfl rfl (one_of HT_.out (by kernel_rfl)) (by decide) (fun K hK => ?_)
  refine Kd.R_lit_step k61 _ 61 ?hg (N := 7) ?hd (xs := ([] : List (S61))) (inner := []) (ok := fun _ => True) (okp := fun _ => True) ?hr ?hp (fun _ hk => hk) trivial (Below.refl _ _) (Nat.le_refl _) (by simp) ?_; (case hd => rfl); (case hg => rfl); (case hr => first | (go_simp; done) | (go_simp; rfl)); (case hp => exact (Reps.none _ _))
  intro v473 w14 ho15 hb hg_ hnew_
  clear hg_ hnew_
  (first | rw [← Ny472.out] at ho15 | (simp only [Int.reduceToNat] at ho15; rw [← Ny472.out] at ho15))
  have HO474 := Aside0.mk (Kd.R_lower ho15 (below_size (by exact below_y HB.out)))
  replace BK469 := Aside0.mk (blk_below (blk_x BK469.out) hb)
  replace BK470 := Aside0.mk (blk_below (blk_x BK470.out) hb)
  replace BK471 := Aside0.mk (blk_below (blk_x BK471.out) hb)
  replace HB := bl_x HB hb
  clear hb ho15
  refine hK.out _ _ ⟨(blk_cell BK469.out 0).trans rfl, (blk_cell BK469.out 1).trans rfl, (blk_cell BK469.out 2).trans rfl, (blk_cell BK469.out 3).trans rfl, (blk_cell BK469.out 4).trans rfl⟩ (fun hHeld => ?_)
  clear hK K
  refine norm_ (a' := ?_) ?_ ?_
  rotate_left
  ·
   show Act.put _ (some 7) _ = _
   simp only [Act.put, put_x, i64_w, i32_w]
   rfl
  refine one_ (i := 3) (N := some 10) (bz 13 191) rfl rfl (one_of HT_.out (by kernel_rfl)) (by decide) (fun K hK => ?_)
  refine Kd.R_append_rows_step k61 (w0 := w) w.heap.size (by rfl) (.tmp 7) (.tmp 9) 23 61 (.agg #[(.int .i64 0), (.bool false)]) 16 rfl Try.underlying23 info61 rfl (by decide) (by omega) v473 y472 l0_2 _ _ _ (fun _ => True) (fun _ => False) rfl rfl ?aO ?aR (fun _ _ h => h) (fun _ h => h.elim) ?aF ?aB ?aS ?aL ?_
  (case aR => exact Kd.C_x HR0_2.out HB.out)
  (case aB => exact (by exact below_y HB.out))
  (case aF => exact (fun _ _ => trivial))
  (case aO => exact (Kd.R_x HO474.out))
  (case aS => exact (below_size (by exact below_y HB.out)))
  (case aL => have := LMc2.out; omega)
  intro v476 w16 ho hb hg hat
  rw [← Ny475.out] at ho
  replace BK469 := Aside0.mk (blk_grown (blk_x BK469.out) hg (Kd.R_ne HO474.out BK469.out (by decide)))
  replace BK470 := Aside0.mk (blk_grown (blk_x BK470.out) hg (Kd.R_ne HO474.out BK470.out (by decide)))
  replace BK471 := Aside0.mk (blk_grown (blk_x BK471.out) hg (Kd.R_ne HO474.out BK471.out (by decide)))
  replace HB := Aside0.mk (hb)
  have HO477 := Aside0.mk (ho)
  clear HO474 ho hb hg hat
  refine hK.out _ _ ⟨(blk_cell BK469.out 0).trans rfl, (blk_cell BK469.out 1).trans rfl, (blk_cell BK469.out 2).trans rfl, (blk_cell BK469.out 3).trans rfl, (blk_cell BK469.out 4).trans rfl⟩ (fun hHeld => ?_)
  clear hK K
  refine norm_ (a' := ?_) ?_ ?_
  rotate_left
  ·
   show Act.put _ (some 10) _ = _
   simp only [Act.put, put_x, i64_w, i32_w]
   rfl
  refine one_ (i := 6) (N := some 13) (bz 13 255) rfl rfl (one_of HT_.out (by kernel_rfl)) (by decide) (fun K hK => ?_)
  refine goes_ Try.func43 (by kernel_rfl) rfl #[.slice A0_4 l0_4.length c0_4] (by rfl) rfl rfl (by (try simp only [List.map_toArray, List.map_cons, List.map_nil]); first | done | rfl | (simp only [List.length_drop, List.length_take]; rfl)) ?_
  with_reducible refine (swarfkit_Ints.calls _ _ l0_4 t478 _ ?side1 ?side2 A3.out).mono ?_
  (case side1 => exact Kd.C_x HR0_4.out HB.out)
  (case side2 => exact HC0_4.out)
  rintro e w17 ⟨v479, rfl, ho0, hb⟩
  refine ⟨_, rfl, ?_⟩
  replace HO477 := Aside0.mk (Kd.R_below (Kd.R_x HO477.out) hb)
  have HO480 := Aside0.mk (Kd.R_lower ho0 (below_size (by exact below_y HB.out)))
  replace BK469 := Aside0.mk (blk_below (blk_x BK469.out) hb)
  replace BK470 := Aside0.mk (blk_below (blk_x BK470.out) hb)
  replace BK471 := Aside0.mk (blk_below (blk_x BK471.out) hb)
  replace HB := bl_x HB hb
  (try clear hb)
  (try clear hb2)
  (try clear hk)
  (try clear hi)
  (try clear ho0)
  obtain ⟨Ao19, co19, eo19⟩ := Kd.R_slice HO477.out
  (first | subst eo19 | (injection eo19 with f1_ f2_ f3_; have f4_ := f1_.symm; have f5_ := f3_.symm; clear f1_ f2_ f3_; subst f4_; subst f5_))
  obtain ⟨Ao21, co21, eo21⟩ := Kd.R_slice HO480.out
  (first | subst eo21 | (injection eo21 with f1_ f2_ f3_; have f4_ := f1_.symm; have f5_ := f3_.symm; clear f1_ f2_ f3_; subst f4_; subst f5_))
  refine hK.out _ _ ⟨(blk_cell BK469.out 0).trans rfl, (blk_cell BK469.out 1).trans rfl, (blk_cell BK469.out 2).trans rfl, (blk_cell BK469.out 3).trans rfl, (blk_cell BK469.out 4).trans rfl⟩ (fun hHeld => ?_)
  clear hK K
  refine norm_ (a' := ?_) ?_ ?_
  rotate_left
  ·
   show Act.put _ (some 13) _ = _
   simp only [Act.put, put_x, i64_w, i32_w]
   rfl
  refine one_ (i := 8) (N := none) (bz 13 511) rfl rfl (one_of HT_.out (by kernel_rfl)) (by decide) (fun K hK => ?_)
  have hs18 : w17.cell? ⟨gb471, 0, none⟩ = some (.slice A0_0 l0_0.length c0_0) := (blk_cell BK471.out 0).trans rfl
  have hfs18 := blk_frozen BK471.out 0
  have hns18_0 := NB469_471.out
  have hns18_1 := NB470_471.out
  have hms18_0 := NB471_469.out
  have hms18_1 := NB471_470.out
  refine skip_ (w1 := ?_) (by rfl) rfl ?_ ?_
  rotate_left
  ·
   go_simp
   rfl
  refine hK.out _ _ ⟨((cell_far (p := ⟨gb471, _, none⟩) NB469_471.out _).trans (hHeld.1)), ((cell_far (p := ⟨gb471, _, none⟩) NB469_471.out _).trans (hHeld.2.1)), ((cell_far (p := ⟨gb471, _, none⟩) NB469_471.out _).trans (hHeld.2.2.1)), ((cell_far (p := ⟨gb471, _, none⟩) NB469_471.out _).trans (hHeld.2.2.2.1)), ((cell_far (p := ⟨gb471, _, none⟩) NB469_471.out _).trans (hHeld.2.2.2.2))⟩ (fun hHeld => ?_)
  clear hK K
  refine pure_ (i := 9) (N := some 15) (v := ?_) (a' := ?_) (bz 13 1023) rfl rfl (any_of HT_.out (by kernel_rfl)) (fun _ _ _ h => h) (Or.inl ⟨by rfl, ?_⟩) ?_ ?_
  rotate_left
  ·
   intro w'
   go_simp
   with_reducible rfl
  rotate_left
  ·
   simp only [Act.put, put_x, i64_w, i32_w]
   rfl
  refine one_ (i := 10) (N := none) (bz 13 2047) rfl rfl (one_of HT_.out (by kernel_rfl)) (by decide) (fun K hK => ?_)
  have hs20 : w17.cell? ⟨gb471, 2, none⟩ = some (.slice A0_2 l0_2.length c0_2) := (blk_cell BK471.out 2).trans rfl
  have hfs20 := blk_frozen BK471.out 2
  have hns20_0 := NB469_471.out
  have hns20_1 := NB470_471.out
  have hms20_0 := NB471_469.out
  have hms20_1 := NB471_470.out
  refine skip_ (w1 := ?_) (by rfl) rfl ?_ ?_
  rotate_left
  ·
   go_simp
   rfl
  refine hK.out _ _ ⟨((cell_far (p := ⟨gb471, _, none⟩) NB469_471.out _).trans (hHeld.1)), ((cell_far (p := ⟨gb471, _, none⟩) NB469_471.out _).trans (hHeld.2.1)), ((cell_far (p := ⟨gb471, _, none⟩) NB469_471.out _).trans (hHeld.2.2.1)), ((cell_far (p := ⟨gb471, _, none⟩) NB469_471.out _).trans (hHeld.2.2.2.1)), ((cell_far (p := ⟨gb471, _, none⟩) NB469_471.out _).trans (hHeld.2.2.2.2))⟩ (fun hHeld => ?_)
  clear hK K
  refine pure_ (i := 11) (N := some 16) (v := ?_) (a' := ?_) (bz 13 4095) rfl rfl (any_of HT_.out (by kernel_rfl)) (fun _ _ _ h => h) (Or.inl ⟨by rfl, ?_⟩) ?_ ?_
  rotate_left
  ·
   intro w'
   go_simp
   with_reducible rfl
  rotate_left
  ·
   simp only [Act.put, put_x, i64_w, i32_w]
   rfl
  refine one_ (i := 12) (N := none) (bz 13 8191) rfl rfl (one_of HT_.out (by kernel_rfl)) (by decide) (fun K hK => ?_)
  have hs22 : w17.cell? ⟨gb471, 4, none⟩ = some (.slice A0_4 l0_4.length c0_4) := (blk_cell BK471.out 4).trans rfl
  have hfs22 := blk_frozen BK471.out 4
  have hns22_0 := NB469_471.out
  have hns22_1 := NB470_471.out
  have hms22_0 := NB471_469.out
  have hms22_1 := NB471_470.out
  refine skip_ (w1 := ?_) (by rfl) rfl ?_ ?_
  rotate_left
  ·
   go_simp
   rfl
  refine hK.out _ _ ⟨((cell_far (p := ⟨gb471, _, none⟩) NB469_471.out _).trans (hHeld.1)), ((cell_far (p := ⟨gb471, _, none⟩) NB469_471.out _).trans (hHeld.2.1)), ((cell_far (p := ⟨gb471, _, none⟩) NB469_471.out _).trans (hHeld.2.2.1)), ((cell_far (p := ⟨gb471, _, none⟩) NB469_471.out _).trans (hHeld.2.2.2.1)), ((cell_far (p := ⟨gb471, _, none⟩) NB469_471.out _).trans (hHeld.2.2.2.2))⟩ (fun hHeld => ?_)
  clear hK K
  refine done_ (done_of HT_.out (by kernel_rfl)) ?_
  try go_wp2
  go_loopg [4] k (fun kq v4 w' => ∃ (x4_1 : Int) (x472000_1 : List (S50)) (u472000 : Value), v4 = .int .i64 x4_1 ∧ Aside0 (swarfkit_CopyCar.l0 kq x4_1 l0_0 a0_1 l0_2 a0_3 l0_4 x472000_1 a0_1 y475 a0_3 t478 = some (r1, r2, r3, r4, r5)) ∧ Aside0 (kq ≤ k) ∧ Aside0 (Kd.S k50 50 w' w.heap.size (fun k_ => some k_ ≠ ((.slice Ao21 t478.length co21) : Value).ownBlock) u472000 x472000_1) ∧ Aside0 (Kd.R k61 61 w' w.heap.size (fun _ => True) (.slice Ao19 y475.length co19) y475) ∧ Aside0 (Kd.R (Kd.int .i64) 3 w' w.heap.size (fun _ => True) (.slice Ao21 t478.length co21) t478) ∧ Aside0 (w'.heap[gb469]? = some (.cells #[(.slice A0_0 l0_0.length c0_0), .int .i64 a0_1, (.slice A0_2 l0_2.length c0_2), .int .i64 a0_3, (.slice A0_4 l0_4.length c0_4)] 26 (0, 0))) ∧ Aside0 (w'.heap[gb470]? = some (.cells #[(.slice none 0 0), .int .i64 0, (.slice none 0 0), .int .i64 0, (.slice none 0 0)] 26 (0, 0))) ∧ Aside0 (w'.heap[gb471]? = some (.cells #[u472000, .int .i64 a0_1, (.slice Ao19 y475.length co19), .int .i64 a0_3, (.slice Ao21 t478.length co21)] 26 (0, 0))) ∧ Aside0 (Below w.heap.size w w'))
  case atStart => exact ⟨(0), (([] : List (S50))), (.slice none 0 0), (by first | rfl | (simp; done) | (simp [*]; done)), H', ⟨Nat.le_refl _⟩, ⟨by first | exact Kd.S_nil _ _ _ _ _ | exact Kd.N_nil _ _ _ _ _ | exact Kd.V_nil _ _ _ _ _ | exact Kd.Q_nil _ _ _ _ _ | exact Kd.R_nil _ _ _ _ _⟩, ⟨by (with_reducible repeat (first | apply Kd.R_alloc | apply Kd.R_drewN | apply Kd.R_drew)); exact Kd.R_mono (Kd.R_far (p := ⟨gb471, 4, none⟩) (Kd.R_far (p := ⟨gb471, 2, none⟩) (Kd.R_far (p := ⟨gb471, 0, none⟩) (Kd.R_types HO477.out BK471.out (by decide)) (fun _ hk => hk.2) (.slice none 0 0)) (fun _ hk => hk.2) (.slice Ao19 y475.length co19)) (fun _ hk => hk.2) (.slice Ao21 t478.length co21)) (fun _ hk => trivial)⟩, ⟨by (with_reducible repeat (first | apply Kd.R_alloc | apply Kd.R_drewN | apply Kd.R_drew)); exact Kd.R_mono (Kd.R_far (p := ⟨gb471, 4, none⟩) (Kd.R_far (p := ⟨gb471, 2, none⟩) (Kd.R_far (p := ⟨gb471, 0, none⟩) (Kd.R_types HO480.out BK471.out (by decide)) (fun _ hk => hk.2) (.slice none 0 0)) (fun _ hk => hk.2) (.slice Ao19 y475.length co19)) (fun _ hk => hk.2) (.slice Ao21 t478.length co21)) (fun _ hk => trivial)⟩, ⟨blk_w BK469.out⟩, ⟨blk_w BK470.out⟩, ⟨by (with_reducible repeat (first | refine blk_drewN ?_ _ | refine blk_drew ?_ | refine blk_alloc ?_ _)); refine blk_put (cs := #[.slice none 0 0, .int .i64 a0_1, .slice Ao19 y475.length co19, .int .i64 a0_3, .slice A0_4 l0_4.length c0_4]) ?_ 4 _ rfl; (with_reducible repeat (first | refine blk_drewN ?_ _ | refine blk_drew ?_ | refine blk_alloc ?_ _)); refine blk_put (cs := #[.slice none 0 0, .int .i64 a0_1, .slice A0_2 l0_2.length c0_2, .int .i64 a0_3, .slice A0_4 l0_4.length c0_4]) ?_ 2 _ rfl; (with_reducible repeat (first | refine blk_drewN ?_ _ | refine blk_drew ?_ | refine blk_alloc ?_ _)); refine blk_put (cs := #[.slice A0_0 l0_0.length c0_0, .int .i64 a0_1, .slice A0_2 l0_2.length c0_2, .int .i64 a0_3, .slice A0_4 l0_4.length c0_4]) ?_ 0 _ rfl; (with_reducible repeat (first | refine blk_drewN ?_ _ | refine blk_drew ?_ | refine blk_alloc ?_ _)); exact BK471.out⟩, ⟨by exact below_y HB.out⟩⟩
  case round =>
   clear H'
   try clear HO_472000
   try clear HO_472002
   try clear HO_472004
   try clear BK469
   try clear BK470
   try clear BK471
   try clear HB
   obtain ⟨x4_1, x472000_1, u472000, rfl, HA, HK1, HO_472000, HO_472002, HO_472004, BK469, BK470, BK471, HB⟩ := hrel
   cases gk with
   | zero => exact absurd HA.out (by simp [swarfkit_CopyCar.l0])
   | succ k1 =>
    have H := HA.out
    clear HA
    simp only [swarfkit_CopyCar.l0] at H
    by_cases c23 : x4_1 < (l0_0.length : Int)
    ·
     rw [if_pos c23] at H
     have c23b0 : decide (x4_1 < (l0_0.length : Int)) = true := decide_eq_true c23
     clear c23
     by_cases c24 : 0 ≤ x4_1
     ·
      rw [if_pos c24] at H
      have c24b0 : decide (0 ≤ x4_1) = true := decide_eq_true c24
      clear c24
      replace H := Option.bind_eq_some_iff.mp H
      obtain ⟨t483, A250, H⟩ := H
      try dsimp only at H
      have A25 := Aside0.mk A250
      clear A250
      by_cases c26 : x472000_1.length < 2932031007402
      ·
       rw [if_pos c26] at H
       have LMc26 := Aside0.mk c26
       clear c26
       obtain ⟨y486, hy486⟩ : ∃ y_ : List (S50), y_ = (x472000_1 ++ [(⟨t483, (rd_T50 l0_0 x4_1).f1, (rd_T50 l0_0 x4_1).f2, (rd_T50 l0_0 x4_1).f3⟩ : S50)]) := ⟨_, rfl⟩
       replace H : (swarfkit_CopyCar.l0 k1 (wrap64 (x4_1 + 1)) l0_0 a0_1 l0_2 a0_3 l0_4 y486 a0_1 y475 a0_3 t478) = some (r1, r2, r3, r4, r5) := by first | (rw [hy486]; with_reducible exact H) | (have H2_ := (Option.bind_some _ _).symm.trans H; rw [hy486]; with_reducible exact H2_) | (have H2_ := (Option.bind_some _ _).symm.trans H; with_reducible exact H2_) | with_reducible exact H | (rw [hy486]; exact H) | exact H
       have Ny486 := Aside0.mk hy486
       clear hy486
       have H' := Aside0.mk H
       clear H
       have hnb27 := NB469_470.out
       have hnc27 := NB470_469.out
       have hnb28 := NB469_471.out
       have hnc28 := NB471_469.out
       obtain ⟨_, _, _, _, _⟩ := cz5 BK469
       have hfz29_0 := blk_frozen BK469.out
       have p481 : 0 ≤ (x4_1 : Int) := of_x
       have q481 : x4_1 < (l0_0.length : Int) := of_x
       obtain ⟨ad481, A481_0, c481_0, e481, hx481_0, hx481_1, hx481_2, hx481_3, hl481_0, hi481_0⟩ := at_T50 HR0_0.out x4_1 p481 q481
       cases e481
       replace hx481_0 := cell_x HB hx481_0
       replace hx481_1 := cell_x HB hx481_1
       replace hx481_2 := cell_x HB hx481_2
       replace hx481_3 := cell_x HB hx481_3
       have HR481_0 := Aside0.mk hi481_0
       have HC481_0 := Aside0.mk hl481_0
       clear hi481_0 hl481_0
       replace p481 := eq_true p481
       replace q481 := eq_true q481
       go_wp2_with (first | ((with_reducible refine gate_dst (N := 5) rfl ?_); refine box_event ?hg (N := 5) ?hd (cs := #[.slice none 0 0, .bool false, .int .i64 0, .int .i64 0]) (t := 50) ?hr ?_; (case hd => rfl); (case hg => rfl); (case hr => first | (go_simp; done) | (go_simp; rfl)); intro gb482 hg w30 hbox hb; replace HO_472000 := Aside0.mk (Kd.S_below (Kd.S_elderB (Kd.S_x HO_472000.out) gb482 (Nat.le_of_eq hg.symm)) hb); replace HO_472002 := Aside0.mk (Kd.R_below (Kd.R_x HO_472002.out) hb); replace HO_472004 := Aside0.mk (Kd.R_below (Kd.R_x HO_472004.out) hb); have BK482 := Aside0.mk (hbox); have GW482 := Aside0.mk ((by rw [hg]; exact (below_size (by exact below_y HB.out)) : w.heap.size ≤ gb482)); have GE482 := Aside0.mk ((by rw [hg]; exact (below_size (by exact below_y HB.out)) : w.heap.size ≤ gb482)); replace HB := bl_x HB hb; have NB469_482 := Aside0.mk ((by rw [hg]; exact Nat.ne_of_lt (blk_lt (g := gb469) (o := .cells #[.slice (some ad481) l0_0.length c0_0, .int .i64 a0_1, .slice A0_2 l0_2.length c0_2, .int .i64 a0_3, .slice A0_4 l0_4.length c0_4] 26 (0, 0)) (blk_x BK469.out)) : gb469 ≠ gb482)); have NB482_469 := Aside0.mk ((by rw [hg]; exact Nat.ne_of_gt (blk_lt (g := gb469) (o := .cells #[.slice (some ad481) l0_0.length c0_0, .int .i64 a0_1, .slice A0_2 l0_2.length c0_2, .int .i64 a0_3, .slice A0_4 l0_4.length c0_4] 26 (0, 0)) (blk_x BK469.out)) : gb482 ≠ gb469)); replace BK469 := Aside0.mk (blk_below (blk_x BK469.out) hb); have NB470_482 := Aside0.mk ((by rw [hg]; exact Nat.ne_of_lt (blk_lt (g := gb470) (o := .cells #[.slice none 0 0, .int .i64 0, .slice none 0 0, .int .i64 0, .slice none 0 0] 26 (0, 0)) (blk_x BK470.out)) : gb470 ≠ gb482)); have NB482_470 := Aside0.mk ((by rw [hg]; exact Nat.ne_of_gt (blk_lt (g := gb470) (o := .cells #[.slice none 0 0, .int .i64 0, .slice none 0 0, .int .i64 0, .slice none 0 0] 26 (0, 0)) (blk_x BK470.out)) : gb482 ≠ gb470)); replace BK470 := Aside0.mk (blk_below (blk_x BK470.out) hb); have NB471_482 := Aside0.mk ((by rw [hg]; exact Nat.ne_of_lt (blk_lt (g := gb471) (o := .cells #[u472000, .int .i64 a0_1, .slice Ao19 y475.length co19, .int .i64 a0_3, .slice Ao21 t478.length co21] 26 (0, 0)) (blk_x BK471.out)) : gb471 ≠ gb482)); have NB482_471 := Aside0.mk ((by rw [hg]; exact Nat.ne_of_gt (blk_lt (g := gb471) (o := .cells #[u472000, .int .i64 a0_1, .slice Ao19 y475.length co19, .int .i64 a0_3, .slice Ao21 t478.length co21] 26 (0, 0)) (blk_x BK471.out)) : gb482 ≠ gb471)); replace BK471 := Aside0.mk (blk_below (blk_x BK471.out) hb); clear hb hbox hg; have hnb31 := NB482_469.out; have hnc31 := NB469_482.out; have hnb32 := NB482_470.out; have hnc32 := NB470_482.out; have hnb33 := NB482_471.out; have hnc33 := NB471_482.out; obtain ⟨_, _, _, _⟩ := cz4 BK482; have hfz34_0 := blk_frozen BK482.out) | ((with_reducible refine gate_callee (f := 43) rfl ?_); refine goesL_ (some 31) rfl rfl Try.func43 (by kernel_rfl) rfl #[.slice A481_0 ((rd_T50 l0_0 x4_1).f0).length c481_0] rfl (by (try simp only [List.map_toArray, List.map_cons, List.map_nil]); first | done | rfl | (simp only [List.length_drop, List.length_take]; rfl)) ?_; (with_reducible refine (swarfkit_Ints.calls _ _ ((rd_T50 l0_0 x4_1).f0) t483 _ ?side1 ?side2 A25.out).mono ?_); (case side1 => exact Kd.C_below HR481_0.out (by exact below_y HB.out)); (case side2 => exact HC481_0.out); rintro e w35 ⟨v484, rfl, ho0, hb⟩; refine ⟨_, rfl, ?_⟩; replace HO_472000 := Aside0.mk (Kd.S_elder' (by (with_reducible repeat (first | apply Kd.S_alloc | apply Kd.S_drewN | apply Kd.S_drew)); exact (Kd.S_mono (Kd.S_far (p := ⟨gb482, 3, none⟩) (Kd.S_far (p := ⟨gb482, 2, none⟩) (Kd.S_far (p := ⟨gb482, 1, none⟩) (Kd.S_far (p := ⟨gb482, 0, none⟩) (Kd.S_mono HO_472000.out (fun k_ hk => (⟨hk, hk.2⟩ : _ ∧ k_ ≠ gb482))) (fun _ hk => hk.2) (.slice A481_0 ((rd_T50 l0_0 x4_1).f0).length c481_0)) (fun _ hk => hk.2) (.bool ((rd_T50 l0_0 x4_1).f1))) (fun _ hk => hk.2) (.int .i64 ((rd_T50 l0_0 x4_1).f2))) (fun _ hk => hk.2) (.int .i64 ((rd_T50 l0_0 x4_1).f3))) (fun _ h_ => h_.1))) (Kd.R_base ho0) hb); replace HO_472002 := Aside0.mk (Kd.R_below (by (with_reducible repeat (first | apply Kd.R_alloc | apply Kd.R_drewN | apply Kd.R_drew)); exact (Kd.R_mono (Kd.R_far (p := ⟨gb482, 3, none⟩) (Kd.R_far (p := ⟨gb482, 2, none⟩) (Kd.R_far (p := ⟨gb482, 1, none⟩) (Kd.R_far (p := ⟨gb482, 0, none⟩) (Kd.R_types HO_472002.out BK482.out (by decide)) (fun _ hk => hk.2) (.slice A481_0 ((rd_T50 l0_0 x4_1).f0).length c481_0)) (fun _ hk => hk.2) (.bool ((rd_T50 l0_0 x4_1).f1))) (fun _ hk => hk.2) (.int .i64 ((rd_T50 l0_0 x4_1).f2))) (fun _ hk => hk.2) (.int .i64 ((rd_T50 l0_0 x4_1).f3))) (fun _ h_ => h_.1))) hb); have HO485 := Aside0.mk (Kd.R_lower (Kd.R_new' ho0 (Kd.R_lt (by (with_reducible repeat (first | apply Kd.R_alloc | apply Kd.R_drewN | apply Kd.R_drew)); exact (Kd.R_mono (Kd.R_far (p := ⟨gb482, 3, none⟩) (Kd.R_far (p := ⟨gb482, 2, none⟩) (Kd.R_far (p := ⟨gb482, 1, none⟩) (Kd.R_far (p := ⟨gb482, 0, none⟩) (Kd.R_types HO_472004.out BK482.out (by decide)) (fun _ hk => hk.2) (.slice A481_0 ((rd_T50 l0_0 x4_1).f0).length c481_0)) (fun _ hk => hk.2) (.bool ((rd_T50 l0_0 x4_1).f1))) (fun _ hk => hk.2) (.int .i64 ((rd_T50 l0_0 x4_1).f2))) (fun _ hk => hk.2) (.int .i64 ((rd_T50 l0_0 x4_1).f3))) (fun _ h_ => h_.1))))) (below_size (by exact below_y HB.out))); replace HO_472004 := Aside0.mk (Kd.R_elder' (by (with_reducible repeat (first | apply Kd.R_alloc | apply Kd.R_drewN | apply Kd.R_drew)); exact (Kd.R_mono (Kd.R_far (p := ⟨gb482, 3, none⟩) (Kd.R_far (p := ⟨gb482, 2, none⟩) (Kd.R_far (p := ⟨gb482, 1, none⟩) (Kd.R_far (p := ⟨gb482, 0, none⟩) (Kd.R_types HO_472004.out BK482.out (by decide)) (fun _ hk => hk.2) (.slice A481_0 ((rd_T50 l0_0 x4_1).f0).length c481_0)) (fun _ hk => hk.2) (.bool ((rd_T50 l0_0 x4_1).f1))) (fun _ hk => hk.2) (.int .i64 ((rd_T50 l0_0 x4_1).f2))) (fun _ hk => hk.2) (.int .i64 ((rd_T50 l0_0 x4_1).f3))) (fun _ h_ => h_.1))) (Kd.R_base ho0) hb); replace BK469 := Aside0.mk (blk_below (g := gb469) (o := .cells #[.slice (some ad481) l0_0.length c0_0, .int .i64 a0_1, .slice A0_2 l0_2.length c0_2, .int .i64 a0_3, .slice A0_4 l0_4.length c0_4] 26 (0, 0)) (blk_w BK469.out) hb); replace BK470 := Aside0.mk (blk_below (g := gb470) (o := .cells #[.slice none 0 0, .int .i64 0, .slice none 0 0, .int .i64 0, .slice none 0 0] 26 (0, 0)) (blk_w BK470.out) hb); replace BK471 := Aside0.mk (blk_below (g := gb471) (o := .cells #[u472000, .int .i64 a0_1, .slice Ao19 y475.length co19, .int .i64 a0_3, .slice Ao21 t478.length co21] 26 (0, 0)) (blk_w BK471.out) hb); replace BK482 := Aside0.mk (blk_below (g := gb482) (o := .cells #[.slice A481_0 ((rd_T50 l0_0 x4_1).f0).length c481_0, .bool ((rd_T50 l0_0 x4_1).f1), .int .i64 ((rd_T50 l0_0 x4_1).f2), .int .i64 ((rd_T50 l0_0 x4_1).f3)] 50 (0, 0)) (by (with_reducible repeat (first | refine blk_drewN ?_ _ | refine blk_drew ?_ | refine blk_alloc ?_ _)); refine blk_put (cs := #[.slice A481_0 ((rd_T50 l0_0 x4_1).f0).length c481_0, .bool ((rd_T50 l0_0 x4_1).f1), .int .i64 ((rd_T50 l0_0 x4_1).f2), .int .i64 0]) ?_ 3 _ rfl; (with_reducible repeat (first | refine blk_drewN ?_ _ | refine blk_drew ?_ | refine blk_alloc ?_ _)); refine blk_put (cs := #[.slice A481_0 ((rd_T50 l0_0 x4_1).f0).length c481_0, .bool ((rd_T50 l0_0 x4_1).f1), .int .i64 0, .int .i64 0]) ?_ 2 _ rfl; (with_reducible repeat (first | refine blk_drewN ?_ _ | refine blk_drew ?_ | refine blk_alloc ?_ _)); refine blk_put (cs := #[.slice A481_0 ((rd_T50 l0_0 x4_1).f0).length c481_0, .bool false, .int .i64 0, .int .i64 0]) ?_ 1 _ rfl; (with_reducible repeat (first | refine blk_drewN ?_ _ | refine blk_drew ?_ | refine blk_alloc ?_ _)); refine blk_put (cs := #[.slice none 0 0, .bool false, .int .i64 0, .int .i64 0]) ?_ 0 _ rfl; (with_reducible repeat (first | refine blk_drewN ?_ _ | refine blk_drew ?_ | refine blk_alloc ?_ _)); exact BK482.out) hb); replace HB := bl_x HB hb; (try clear hb); (try clear hk); (try clear hi); (try clear ho0); obtain ⟨Ao36, co36, eo36⟩ := Kd.R_slice HO485.out; subst eo36; obtain ⟨_, _, _, _⟩ := cz4 BK482; have hfz37_0 := blk_frozen BK482.out) | ((with_reducible refine gate_store (t := 24) (p := 32) rfl ?_); refine store_event (t := 24) (p := 32) (v := ?vo_w38) (w1 := (w35.setCell ⟨gb482, 0, none⟩ (.slice Ao36 t483.length co36))) ?hg ?ho ?hn ?hr ?_; (case ho => rfl); (case hg => rfl); (case hn => rfl); (case hr => first | (go_simp; done) | (go_simp; rfl)); intro w38 hw; replace HO_472000 : Aside0 (Kd.S k50 50 w38 w.heap.size (fun k_ => some k_ ≠ (.slice Ao21 t478.length co21 : Value).ownBlock ∧ some k_ ≠ (.slice Ao36 t483.length co36 : Value).ownBlock ∧ k_ ≠ gb482) u472000 x472000_1) := ⟨(by rw [hw]; exact (by (with_reducible repeat (first | apply Kd.S_alloc | apply Kd.S_drewN | apply Kd.S_drew)); exact Kd.S_mono (Kd.S_far (p := ⟨gb482, 0, none⟩) (Kd.S_mono HO_472000.out (fun k_ hk => (⟨hk, hk.1.2⟩ : _ ∧ k_ ≠ gb482))) (fun _ hk => hk.2) (.slice Ao36 t483.length co36)) (fun _ hk => ⟨hk.1.1.1, ⟨hk.1.2, hk.1.1.2⟩⟩)))⟩; replace HO_472002 : Aside0 (Kd.R k61 61 w38 w.heap.size (fun _ => True) (.slice Ao19 y475.length co19) y475) := ⟨(by rw [hw]; exact (by (with_reducible repeat (first | apply Kd.R_alloc | apply Kd.R_drewN | apply Kd.R_drew)); exact Kd.R_mono (Kd.R_far (p := ⟨gb482, 0, none⟩) (Kd.R_types HO_472002.out BK482.out (by decide)) (fun _ hk => hk.2) (.slice Ao36 t483.length co36)) (fun _ hk => trivial)))⟩; replace HO_472004 : Aside0 (Kd.R (Kd.int .i64) 3 w38 w.heap.size (fun k_ => some k_ ≠ (.slice Ao36 t483.length co36 : Value).ownBlock) (.slice Ao21 t478.length co21) t478) := ⟨(by rw [hw]; exact (by (with_reducible repeat (first | apply Kd.R_alloc | apply Kd.R_drewN | apply Kd.R_drew)); exact Kd.R_mono (Kd.R_far (p := ⟨gb482, 0, none⟩) (Kd.R_types HO_472004.out BK482.out (by decide)) (fun _ hk => hk.2) (.slice Ao36 t483.length co36)) (fun _ hk => hk.1.2)))⟩; replace HO485 : Aside0 (Kd.R (Kd.int .i64) 3 w38 w.heap.size (fun k_ => some k_ ≠ (.slice Ao21 t478.length co21 : Value).ownBlock) (.slice Ao36 t483.length co36) t483) := ⟨(by rw [hw]; exact (by (with_reducible repeat (first | apply Kd.R_alloc | apply Kd.R_drewN | apply Kd.R_drew)); exact Kd.R_mono (Kd.R_far (p := ⟨gb482, 0, none⟩) (Kd.R_types HO485.out BK482.out (by decide)) (fun _ hk => hk.2) (.slice Ao36 t483.length co36)) (fun _ hk => hk.1.2)))⟩; replace BK469 : Aside0 (w38.heap[gb469]? = some (.cells #[.slice (some ad481) l0_0.length c0_0, .int .i64 a0_1, .slice A0_2 l0_2.length c0_2, .int .i64 a0_3, .slice A0_4 l0_4.length c0_4] 26 (0, 0))) := ⟨(by rw [hw]; exact (blk_w BK469.out))⟩; replace BK470 : Aside0 (w38.heap[gb470]? = some (.cells #[.slice none 0 0, .int .i64 0, .slice none 0 0, .int .i64 0, .slice none 0 0] 26 (0, 0))) := ⟨(by rw [hw]; exact (blk_w BK470.out))⟩; replace BK471 : Aside0 (w38.heap[gb471]? = some (.cells #[u472000, .int .i64 a0_1, .slice Ao19 y475.length co19, .int .i64 a0_3, .slice Ao21 t478.length co21] 26 (0, 0))) := ⟨(by rw [hw]; exact (blk_w BK471.out))⟩; replace BK482 : Aside0 (w38.heap[gb482]? = some (.cells #[.slice Ao36 t483.length co36, .bool ((rd_T50 l0_0 x4_1).f1), .int .i64 ((rd_T50 l0_0 x4_1).f2), .int .i64 ((rd_T50 l0_0 x4_1).f3)] 50 (0, 0))) := ⟨(by rw [hw]; exact (by (with_reducible repeat (first | refine blk_drewN ?_ _ | refine blk_drew ?_ | refine blk_alloc ?_ _)); refine blk_put (cs := #[.slice A481_0 ((rd_T50 l0_0 x4_1).f0).length c481_0, .bool ((rd_T50 l0_0 x4_1).f1), .int .i64 ((rd_T50 l0_0 x4_1).f2), .int .i64 ((rd_T50 l0_0 x4_1).f3)]) ?_ 0 _ rfl; (with_reducible repeat (first | refine blk_drewN ?_ _ | refine blk_drew ?_ | refine blk_alloc ?_ _)); exact BK482.out))⟩; replace HB : Aside0 (Below w.heap.size w w38) := ⟨(by rw [hw]; exact (by exact below_y HB.out))⟩; clear hw; have hnb39 := NB471_470.out; have hnc39 := NB470_471.out; obtain ⟨_, _, _, _, _⟩ := cz5 BK471; have hfz40_0 := blk_frozen BK471.out; obtain ⟨_, _, _, _⟩ := cz4 BK482; have hfz41_0 := blk_frozen BK482.out) | ((with_reducible refine gate_builtin (b := .append) (xs := #[.tmp 34, .tmp 36]) rfl ?_); at_builtin; refine Kd.S_append k50 (w0 := w) w.heap.size rfl (.tmp 34) (.tmp 36) 22 50 (.agg #[(.slice none 0 0), (.bool false), (.int .i64 0), (.int .i64 0)]) 48 rfl Try.underlying22 info50 rfl (by decide) (by omega) u472000 x472000_1 (⟨t483, (rd_T50 l0_0 x4_1).f1, (rd_T50 l0_0 x4_1).f2, (rd_T50 l0_0 x4_1).f3⟩ : S50) [.slice Ao36 t483.length co36, .bool ((rd_T50 l0_0 x4_1).f1), .int .i64 ((rd_T50 l0_0 x4_1).f2), .int .i64 ((rd_T50 l0_0 x4_1).f3)] (fun k_ => some k_ ≠ (.slice Ao21 t478.length co21 : Value).ownBlock ∧ k_ ≠ gb482) (fun k_ => some k_ = (.slice Ao36 t483.length co36 : Value).ownBlock) rfl rfl ?aP (fun k_ hk_ => ((Kd.R_mono (ok' := fun k_ => ((fun k_ => some k_ ≠ (.slice Ao21 t478.length co21 : Value).ownBlock ∧ k_ ≠ gb482)) k_ ∧ some k_ ≠ (u472000 : Value).ownBlock) (Kd.R_types (Kd.R_apart' (HO485.out) (Kd.S_typed HO_472000.out) (by decide)) BK482.out (by decide)) (fun k_ hk => ⟨⟨hk.1.1, hk.2⟩, hk.1.2⟩))).1 k_ hk_.symm) ?aF ?aO ?aB ?aS ?aL ?_; (case aP => exact k50_mkM _ _ _ (⟨t483, (rd_T50 l0_0 x4_1).f1, (rd_T50 l0_0 x4_1).f2, (rd_T50 l0_0 x4_1).f3⟩ : S50) (Kd.R_mono (Kd.R_tight rfl (Kd.R_mono (ok' := fun k_ => ((fun k_ => some k_ ≠ (.slice Ao21 t478.length co21 : Value).ownBlock ∧ k_ ≠ gb482)) k_ ∧ some k_ ≠ (u472000 : Value).ownBlock) (Kd.R_types (Kd.R_apart' (HO485.out) (Kd.S_typed HO_472000.out) (by decide)) BK482.out (by decide)) (fun k_ hk => ⟨⟨hk.1.1, hk.2⟩, hk.1.2⟩))) (fun _ h_ => h_))); (case aB => exact (by exact below_y HB.out)); (case aF => exact (fun k_ hk => ⟨Kd.fresh' (Kd.R_lt (Kd.R_x HO_472004.out)) k_ hk, Kd.freshB (g := gb482) (o := .cells #[.slice Ao36 t483.length co36, .bool ((rd_T50 l0_0 x4_1).f1), .int .i64 ((rd_T50 l0_0 x4_1).f2), .int .i64 ((rd_T50 l0_0 x4_1).f3)] 50 (0, 0)) (blk_x BK482.out) k_ hk⟩)); (case aO => exact (by (with_reducible repeat (first | apply Kd.S_alloc | apply Kd.S_drewN | apply Kd.S_drew)); exact Kd.S_mono HO_472000.out (fun k_ hk => ⟨⟨hk.1, hk.2.2⟩, fun e_ => hk.2.1 e_⟩))); (case aS => exact (below_size (by exact below_y HB.out))); (case aL => have := LMc26.out; omega); intro v487 w42 ho hb hg hat; rw [← Ny486.out] at ho; replace HO_472002 := Aside0.mk (Kd.R_over' (Kd.R_x HO_472002.out) (Kd.S_typed (Kd.S_x HO_472000.out)) (by decide) hg); replace HO_472004 := Aside0.mk (Kd.R_over' (Kd.R_x HO_472004.out) (Kd.S_typed (Kd.S_x HO_472000.out)) (by decide) hg); replace BK469 := Aside0.mk (blk_grown (blk_x BK469.out) hg (Kd.S_ne HO_472000.out BK469.out (by decide))); replace BK470 := Aside0.mk (blk_grown (blk_x BK470.out) hg (Kd.S_ne HO_472000.out BK470.out (by decide))); replace BK471 := Aside0.mk (blk_grown (blk_x BK471.out) hg (Kd.S_ne HO_472000.out BK471.out (by decide))); replace BK482 := Aside0.mk (blk_grown (blk_x BK482.out) hg (Kd.S_away HO_472000.out (fun _ hk => hk.2.2))); replace HB := Aside0.mk (hb); have HO488 := Aside0.mk (ho); clear HO_472000 HO485; clear ho hb hg hat; obtain ⟨Ao43, co43, eo43⟩ := Kd.S_slice HO488.out; subst eo43; obtain ⟨_, _, _, _, _⟩ := cz5 BK471; have hfz44_0 := blk_frozen BK471.out))
       go_roundg k1
       case measure => have := HK1.out; omega
       case rel => exact ⟨(wrap64 (x4_1 + 1)), (y486), (.slice Ao43 y486.length co43), (by first | rfl | (simp; done) | (simp [*]; done)), H', ⟨by have := HK1.out; omega⟩, ⟨by (with_reducible repeat (first | apply Kd.S_alloc | apply Kd.S_drewN | apply Kd.S_drew)); exact Kd.S_mono (Kd.S_far (p := ⟨gb471, 0, none⟩) (Kd.S_types HO488.out BK471.out (by decide)) (fun _ hk => hk.2) (.slice Ao43 y486.length co43)) (fun _ hk => hk.1.1)⟩, ⟨by (with_reducible repeat (first | apply Kd.R_alloc | apply Kd.R_drewN | apply Kd.R_drew)); exact Kd.R_mono (Kd.R_far (p := ⟨gb471, 0, none⟩) (Kd.R_types HO_472002.out BK471.out (by decide)) (fun _ hk => hk.2) (.slice Ao43 y486.length co43)) (fun _ hk => trivial)⟩, ⟨by (with_reducible repeat (first | apply Kd.R_alloc | apply Kd.R_drewN | apply Kd.R_drew)); exact Kd.R_mono (Kd.R_far (p := ⟨gb471, 0, none⟩) (Kd.R_types HO_472004.out BK471.out (by decide)) (fun _ hk => hk.2) (.slice Ao43 y486.length co43)) (fun _ hk => trivial)⟩, ⟨blk_w BK469.out⟩, ⟨blk_w BK470.out⟩, ⟨by (with_reducible repeat (first | refine blk_drewN ?_ _ | refine blk_drew ?_ | refine blk_alloc ?_ _)); refine blk_put (cs := #[u472000, .int .i64 a0_1, .slice Ao19 y475.length co19, .int .i64 a0_3, .slice Ao21 t478.length co21]) ?_ 0 _ rfl; (with_reducible repeat (first | refine blk_drewN ?_ _ | refine blk_drew ?_ | refine blk_alloc ?_ _)); exact BK471.out⟩, ⟨by exact below_y HB.out⟩⟩
      ·
       rw [if_neg c26] at H
       exact absurd H (by simp)
     ·
      rw [if_neg c24] at H
      exact absurd H (by simp)
    ·
     rw [if_neg c23] at H
     have c23b0 : decide (x4_1 < (l0_0.length : Int)) = false := decide_eq_false c23
     clear c23
     simp only [Option.some.injEq, Prod.mk.injEq] at H
     obtain ⟨rfl, rfl, rfl, rfl, rfl⟩ := H
     have hnb45 := NB469_470.out
     have hnc45 := NB470_469.out
     have hnb46 := NB469_471.out
     have hnc46 := NB471_469.out
     obtain ⟨_, _, _, _, _⟩ := cz5 BK469
     have hfz47_0 := blk_frozen BK469.out
     have hnb48 := NB471_470.out
     have hnc48 := NB470_471.out
     obtain ⟨_, _, _, _, _⟩ := cz5 BK471
     have hfz49_0 := blk_frozen BK471.out
     obtain ⟨Ao50, co50, eo50⟩ := Kd.S_slice HO_472000.out
     subst eo50
     obtain ⟨_, _, _, _, _⟩ := cz5 BK470
     have hfz51_0 := blk_frozen BK470.out
     go_wp2
     refine bodyPost_ret (results_cell_row rfl _ _ gb470 26 #[.slice Ao50 x472000_1.length co50, .int .i64 a0_1, .slice Ao19 y475.length co19, .int .i64 a0_3, .slice Ao21 t478.length co21] (0, 0) _ rfl (by (with_reducible repeat (first | refine blk_drewN ?_ _ | refine blk_drew ?_ | refine blk_alloc ?_ _)); refine blk_put (cs := #[.slice Ao50 x472000_1.length co50, .int .i64 a0_1, .slice Ao19 y475.length co19, .int .i64 a0_3, .slice none 0 0]) ?_ 4 _ rfl; (with_reducible repeat (first | refine blk_drewN ?_ _ | refine blk_drew ?_ | refine blk_alloc ?_ _)); refine blk_put (cs := #[.slice Ao50 x472000_1.length co50, .int .i64 a0_1, .slice Ao19 y475.length co19, .int .i64 0, .slice none 0 0]) ?_ 3 _ rfl; (with_reducible repeat (first | refine blk_drewN ?_ _ | refine blk_drew ?_ | refine blk_alloc ?_ _)); refine blk_put (cs := #[.slice Ao50 x472000_1.length co50, .int .i64 a0_1, .slice none 0 0, .int .i64 0, .slice none 0 0]) ?_ 2 _ rfl; (with_reducible repeat (first | refine blk_drewN ?_ _ | refine blk_drew ?_ | refine blk_alloc ?_ _)); refine blk_put (cs := #[.slice Ao50 x472000_1.length co50, .int .i64 0, .slice none 0 0, .int .i64 0, .slice none 0 0]) ?_ 1 _ rfl; (with_reducible repeat (first | refine blk_drewN ?_ _ | refine blk_drew ?_ | refine blk_alloc ?_ _)); refine blk_put (cs := #[.slice none 0 0, .int .i64 0, .slice none 0 0, .int .i64 0, .slice none 0 0]) ?_ 0 _ rfl; (with_reducible repeat (first | refine blk_drewN ?_ _ | refine blk_drew ?_ | refine blk_alloc ?_ _)); exact BK470.out) Try.underlying26 rfl (by kernel_rfl)) rfl ?_
     exact ⟨_, _, _, by first | rfl | (simp [errW_none, errW_some] <;> rfl) | (simp [*, errW_none, errW_some] <;> rfl), by (with_reducible repeat (first | apply Kd.S_alloc | apply Kd.S_drewN | apply Kd.S_drew)); exact Kd.S_mono (Kd.S_far (p := ⟨gb470, 4, none⟩) (Kd.S_far (p := ⟨gb470, 3, none⟩) (Kd.S_far (p := ⟨gb470, 2, none⟩) (Kd.S_far (p := ⟨gb470, 1, none⟩) (Kd.S_far (p := ⟨gb470, 0, none⟩) (Kd.S_types HO_472000.out BK470.out (by decide)) (fun _ hk => hk.2) (.slice Ao50 x472000_1.length co50)) (fun _ hk => hk.2) (.int .i64 a0_1)) (fun _ hk => hk.2) (.slice Ao19 y475.length co19)) (fun _ hk => hk.2) (.int .i64 a0_3)) (fun _ hk => hk.2) (.slice Ao21 t478.length co21)) (fun _ hk => hk.1), by (with_reducible repeat (first | apply Kd.R_alloc | apply Kd.R_drewN | apply Kd.R_drew)); exact Kd.R_mono (Kd.R_far (p := ⟨gb470, 4, none⟩) (Kd.R_far (p := ⟨gb470, 3, none⟩) (Kd.R_far (p := ⟨gb470, 2, none⟩) (Kd.R_far (p := ⟨gb470, 1, none⟩) (Kd.R_far (p := ⟨gb470, 0, none⟩) (Kd.R_types HO_472002.out BK470.out (by decide)) (fun _ hk => hk.2) (.slice Ao50 x472000_1.length co50)) (fun _ hk => hk.2) (.int .i64 a0_1)) (fun _ hk => hk.2) (.slice Ao19 y475.length co19)) (fun _ hk => hk.2) (.int .i64 a0_3)) (fun _ hk => hk.2) (.slice Ao21 t478.length co21)) (fun _ hk => trivial), by (with_reducible repeat (first | apply Kd.R_alloc | apply Kd.R_drewN | apply Kd.R_drew)); exact Kd.R_mono (Kd.R_far (p := ⟨gb470, 4, none⟩) (Kd.R_far (p := ⟨gb470, 3, none⟩) (Kd.R_far (p := ⟨gb470, 2, none⟩) (Kd.R_far (p := ⟨gb470, 1, none⟩) (Kd.R_far (p := ⟨gb470, 0, none⟩) (Kd.R_types HO_472004.out BK470.out (by decide)) (fun _ hk => hk.2) (.slice Ao50 x472000_1.length co50)) (fun _ hk => hk.2) (.int .i64 a0_1)) (fun _ hk => hk.2) (.slice Ao19 y475.length co19)) (fun _ hk => hk.2) (.int .i64 a0_3)) (fun _ hk => hk.2) (.slice Ao21 t478.length co21)) (fun _ hk => trivial), by exact below_y HB.out⟩
 ·
  rw [if_neg c2] at H
  exact absurd H (by simp)
def swarfref04_Time.l0 : Nat → List Int → Int → Int → List (S50) → Int → List (S61) → Int → List Int → Option (Int)
 | 0, _, _, _, _, _, _, _, _ => none
 | k + 1, x1, x5, x6, x362000, x362001, x362002, x362003, x362004 => if x6 < (x1.length : Int) then (if 0 ≤ x6 then (if 0 ≤ (rd x1 x6) then (if (rd x1 x6) < (x362000.length : Int) then (if x6 > 0 then (if 0 ≤ (wrap64 (x6 - 1)) then (if (wrap64 (x6 - 1)) < (x1.length : Int) then (if 0 ≤ (rd x1 (wrap64 (x6 - 1))) then (if (rd x1 (wrap64 (x6 - 1))) < (x362000.length : Int) then (if ((rd_T50 x362000 (rd x1 x6)).f2) = ((rd_T50 x362000 (rd x1 (wrap64 (x6 - 1)))).f2) then (swarfref04_Time.l0 k x1 (wrap64 (x5 + ((rd_T50 x362000 (rd x1 x6)).f3))) (wrap64 (x6 + 1)) x362000 x362001 x362002 x362003 x362004) else (swarfref04_Time.l0 k x1 (wrap64 ((wrap64 (x5 + ((rd_T50 x362000 (rd x1 x6)).f3))) + x362001)) (wrap64 (x6 + 1)) x362000 x362001 x362002 x362003 x362004)) else (none)) else (none)) else (none)) else (none)) else (swarfref04_Time.l0 k x1 (wrap64 (x5 + ((rd_T50 x362000 (rd x1 x6)).f3))) (wrap64 (x6 + 1)) x362000 x362001 x362002 x362003 x362004)) else (none)) else (none)) else (none)) else (some x5)
def swarfref04_Time.f (k : Nat) (l0_0 : List (S50)) (a0_1 : Int) (l0_2 : List (S61)) (a0_3 : Int) (l0_4 : List Int) (l1 : List Int) : Option (Int) := swarfref04_Time.l0 k l1 0 0 l0_0 a0_1 l0_2 a0_3 l0_4
theorem swarfref04_Time.mono_l : ∀ k, (∀ y0 y1 y2 y3 y4 y5 y6 y7, LeO (swarfref04_Time.l0 k y0 y1 y2 y3 y4 y5 y6 y7) (swarfref04_Time.l0 (k + 1) y0 y1 y2 y3 y4 y5 y6 y7))
 | 0 => fun _ _ _ _ _ _ _ _ r h => by simp [swarfref04_Time.l0] at h
 | k + 1 => by
  have ih0 := swarfref04_Time.mono_l k
  ·
   intro y0 y1 y2 y3 y4 y5 y6 y7
   unfold swarfref04_Time.l0
   repeat' first
   | (with_reducible exact ih0 _ _ _ _ _ _ _ _)
   | (with_reducible exact LeO.refl _)
   | (with_reducible exact LeO.none _)
   | (with_reducible refine LeO.ite ?_ ?_)
   | (with_reducible refine LeO.bind ?_ (fun _ => ?_))
   | exact ih0 _ _ _ _ _ _ _ _
   | exact LeO.none _
   | refine LeO.ite ?_ ?_
   | refine LeO.bind ?_ (fun _ => ?_)
theorem swarfref04_Time.mono : ∀ a0 a1 a2 a3 a4 a5 k, LeO (swarfref04_Time.f k a0 a1 a2 a3 a4 a5) (swarfref04_Time.f (k + 1) a0 a1 a2 a3 a4 a5) := by
 intro a0 a1 a2 a3 a4 a5 k
 have ih0 := swarfref04_Time.mono_l k
 unfold swarfref04_Time.f
 repeat' first
   | (with_reducible exact ih0 _ _ _ _ _ _ _ _)
   | (with_reducible exact LeO.refl _)
   | (with_reducible exact LeO.none _)
   | (with_reducible refine LeO.ite ?_ ?_)
   | (with_reducible refine LeO.bind ?_ (fun _ => ?_))
   | exact ih0 _ _ _ _ _ _ _ _
   | exact LeO.none _
   | refine LeO.ite ?_ ?_
   | refine LeO.bind ?_ (fun _ => ?_)
set_option maxHeartbeats 8000000 in
set_option maxRecDepth 100000 in
theorem swarfref04_Time.calls (k : Nat) (A0_0 : Option Addr) (c0_0 : Nat) (l0_0 : List (S50)) (a0_1 : Int) (A0_2 : Option Addr) (c0_2 : Nat) (l0_2 : List (S61)) (a0_3 : Int) (A0_4 : Option Addr) (c0_4 : Nat) (l0_4 : List Int) (A1 : Option Addr) (c1 : Nat) (l1 : List Int) (r : Int) (w : World) (hr0_0 : Kd.C k50 w A0_0 l0_0.length l0_0) (hc0_0 : l0_0.length ≤ c0_0) (hr0_2 : Kd.C k61 w A0_2 l0_2.length l0_2) (hc0_2 : l0_2.length ≤ c0_2) (hr0_4 : Kd.C (Kd.int .i64) w A0_4 l0_4.length l0_4) (hc0_4 : l0_4.length ≤ c0_4) (hr1 : Kd.C (Kd.int .i64) w A1 l1.length l1) (hc1 : l1.length ≤ c1) (h : swarfref04_Time.f k l0_0 a0_1 l0_2 a0_3 l0_4 l1 = some r) :
  Calls Try.prog 31 #[.agg #[.slice A0_0 l0_0.length c0_0, .int .i64 a0_1, .slice A0_2 l0_2.length c0_2, .int .i64 a0_3, .slice A0_4 l0_4.length c0_4], .slice A1 l1.length c1] w fun e w' => e = .returned (.int .i64 r) ∧ Below w.heap.size w w' := by
 have hu26 := Try.underlying26
 have HR0_0 := Aside0.mk hr0_0
 have HC0_0 := Aside0.mk hc0_0
 clear hr0_0 hc0_0
 have HR0_2 := Aside0.mk hr0_2
 have HC0_2 := Aside0.mk hc0_2
 clear hr0_2 hc0_2
 have HR0_4 := Aside0.mk hr0_4
 have HC0_4 := Aside0.mk hc0_4
 clear hr0_4 hc0_4
 have HR1 := Aside0.mk hr1
 have HC1 := Aside0.mk hc1
 clear hr1 hc1
 have HB := Aside0.mk (Below.refl w.heap.size w)
 have H : (swarfref04_Time.l0 k l1 0 0 l0_0 a0_1 l0_2 a0_3 l0_4) = some r := h
 clear h
 have H' := Aside0.mk H
 clear H
 go_enter Try.func31, Try.ntmps31
 go_wp2_with (first | ((with_reducible refine gate_dst (N := 2) rfl ?_); refine box_event ?hg (N := 2) ?hd (cs := #[.slice A0_0 l0_0.length c0_0, .int .i64 a0_1, .slice A0_2 l0_2.length c0_2, .int .i64 a0_3, .slice A0_4 l0_4.length c0_4]) (t := 26) ?hr ?_; (case hd => rfl); (case hg => rfl); (case hr => first | (go_simp; done) | (go_simp; rfl)); intro gb361 hg w3 hbox hb; have BK361 := Aside0.mk (hbox); have GW361 := Aside0.mk ((by rw [hg]; exact (below_size (below_x HB.out)) : w.heap.size ≤ gb361)); have GE361 := Aside0.mk ((by rw [hg]; exact (below_size (below_x HB.out)) : w.heap.size ≤ gb361)); replace HB := Aside0.mk (below_step (below_x HB.out) hb); clear hb hbox hg))
 go_loopg [5, 6] k (fun kq v5 v6 w' => ∃ (x5_1 : Int) (x6_1 : Int), v5 = .int .i64 x5_1 ∧ v6 = .int .i64 x6_1 ∧ Aside0 (swarfref04_Time.l0 kq l1 x5_1 x6_1 l0_0 a0_1 l0_2 a0_3 l0_4 = some r) ∧ Aside0 (kq ≤ k) ∧ Aside0 (w'.heap[gb361]? = some (.cells #[(.slice A0_0 l0_0.length c0_0), .int .i64 a0_1, (.slice A0_2 l0_2.length c0_2), .int .i64 a0_3, (.slice A0_4 l0_4.length c0_4)] 26 (0, 0))) ∧ Aside0 (Below w.heap.size w w'))
 case atStart => exact ⟨(0), (0), (by first | rfl | (simp; done) | (simp [*]; done)), (by first | rfl | (simp; done) | (simp [*]; done)), H', ⟨Nat.le_refl _⟩, ⟨blk_x BK361.out⟩, ⟨by exact below_y HB.out⟩⟩
 case round =>
  clear H'
  obtain ⟨x5_1, x6_1, rfl, rfl, HA, HK1, BK361, HB⟩ := hrel
  cases gk with
  | zero => exact absurd HA.out (by simp [swarfref04_Time.l0])
  | succ k1 =>
   have H := HA.out
   clear HA
   simp only [swarfref04_Time.l0] at H
   by_cases c4 : x6_1 < (l1.length : Int)
   ·
    rw [if_pos c4] at H
    have c4b0 : decide (x6_1 < (l1.length : Int)) = true := decide_eq_true c4
    clear c4
    by_cases c5 : 0 ≤ x6_1
    ·
     rw [if_pos c5] at H
     have c5b0 : decide (0 ≤ x6_1) = true := decide_eq_true c5
     clear c5
     by_cases c6 : 0 ≤ (rd l1 x6_1)
     ·
      rw [if_pos c6] at H
      have c6b0 : decide (0 ≤ (rd l1 x6_1)) = true := decide_eq_true c6
      clear c6
      by_cases c7 : (rd l1 x6_1) < (l0_0.length : Int)
      ·
       rw [if_pos c7] at H
       have c7b0 : decide ((rd l1 x6_1) < (l0_0.length : Int)) = true := decide_eq_true c7
       clear c7
       by_cases c8 : x6_1 > 0
       ·
        rw [if_pos c8] at H
        have c8b0 : decide (0 < x6_1) = true := decide_eq_true c8
        clear c8
        obtain ⟨ji9, hji9⟩ : ∃ j_ : Int, (wrap64 (x6_1 - 1)) = j_ := ⟨_, rfl⟩
        replace H : (if 0 ≤ (ji9) then (if (ji9) < (l1.length : Int) then (if 0 ≤ (rd l1 (ji9)) then (if (rd l1 (ji9)) < (l0_0.length : Int) then (if ((rd_T50 l0_0 (rd l1 x6_1)).f2) = ((rd_T50 l0_0 (rd l1 (ji9))).f2) then (swarfref04_Time.l0 k1 l1 (wrap64 (x5_1 + ((rd_T50 l0_0 (rd l1 x6_1)).f3))) (wrap64 (x6_1 + 1)) l0_0 a0_1 l0_2 a0_3 l0_4) else (swarfref04_Time.l0 k1 l1 (wrap64 ((wrap64 (x5_1 + ((rd_T50 l0_0 (rd l1 x6_1)).f3))) + a0_1)) (wrap64 (x6_1 + 1)) l0_0 a0_1 l0_2 a0_3 l0_4)) else (none)) else (none)) else (none)) else (none)) = some r := by first | (rw [hji9] at H; exact H) | (simp only [hji9] at H ⊢; exact H)
        have hji9w : (IntKind.i64.wrap (x6_1 - 1)) = ji9 := (i64_w _).trans hji9
        by_cases c10 : 0 ≤ (ji9)
        ·
         rw [if_pos c10] at H
         have c10b0 : decide (0 ≤ (ji9)) = true := decide_eq_true c10
         clear c10
         by_cases c11 : (ji9) < (l1.length : Int)
         ·
          rw [if_pos c11] at H
          have c11b0 : decide ((ji9) < (l1.length : Int)) = true := decide_eq_true c11
          clear c11
          by_cases c12 : 0 ≤ (rd l1 (ji9))
          ·
           rw [if_pos c12] at H
           have c12b0 : decide (0 ≤ (rd l1 (ji9))) = true := decide_eq_true c12
           clear c12
           by_cases c13 : (rd l1 (ji9)) < (l0_0.length : Int)
           ·
            rw [if_pos c13] at H
            have c13b0 : decide ((rd l1 (ji9)) < (l0_0.length : Int)) = true := decide_eq_true c13
            clear c13
            by_cases c14 : ((rd_T50 l0_0 (rd l1 x6_1)).f2) = ((rd_T50 l0_0 (rd l1 (ji9))).f2)
            ·
             rw [if_pos c14] at H
             have c14b0 : (((rd_T50 l0_0 (rd l1 x6_1)).f2) == ((rd_T50 l0_0 (rd l1 (ji9))).f2)) = true := beq_iff_eq.mpr c14
             have c14b1 : (((rd_T50 l0_0 (rd l1 x6_1)).f2) != ((rd_T50 l0_0 (rd l1 (ji9))).f2)) = false := bne_eq_false_iff_eq.mpr c14
             clear c14
             have H' := Aside0.mk H
             clear H
             obtain ⟨_, _, _, _, _⟩ := cz5 BK361
             have hfz15_0 := blk_frozen BK361.out
             have p362 : 0 ≤ (x6_1 : Int) := of_x
             have q362 : x6_1 < (l1.length : Int) := of_x
             obtain ⟨ad362, e362, hx362_0⟩ := Kd.at_int HR1.out x6_1 p362 q362
             cases e362
             replace hx362_0 := cell_x HB hx362_0
             replace p362 := eq_true p362
             replace q362 := eq_true q362
             have p363 : 0 ≤ ((rd l1 x6_1) : Int) := of_x
             have q363 : (rd l1 x6_1) < (l0_0.length : Int) := of_x
             obtain ⟨ad363, A363_0, c363_0, e363, hx363_0, hx363_1, hx363_2, hx363_3, hl363_0, hi363_0⟩ := at_T50 HR0_0.out (rd l1 x6_1) p363 q363
             cases e363
             replace hx363_0 := cell_x HB hx363_0
             replace hx363_1 := cell_x HB hx363_1
             replace hx363_2 := cell_x HB hx363_2
             replace hx363_3 := cell_x HB hx363_3
             have HR363_0 := Aside0.mk hi363_0
             have HC363_0 := Aside0.mk hl363_0
             clear hi363_0 hl363_0
             replace p363 := eq_true p363
             replace q363 := eq_true q363
             have p364 : 0 ≤ (x6_1 : Int) := of_x
             have q364 : x6_1 < (l1.length : Int) := of_x
             obtain ⟨ad364, e364, hx364_0⟩ := Kd.at_int HR1.out x6_1 p364 q364
             obtain rfl : ad362 = ad364 := (by injection e364)
             replace hx364_0 := cell_x HB hx364_0
             replace p364 := eq_true p364
             replace q364 := eq_true q364
             have p365 : 0 ≤ ((rd l1 x6_1) : Int) := of_x
             have q365 : (rd l1 x6_1) < (l0_0.length : Int) := of_x
             obtain ⟨ad365, A365_0, c365_0, e365, hx365_0, hx365_1, hx365_2, hx365_3, hl365_0, hi365_0⟩ := at_T50 HR0_0.out (rd l1 x6_1) p365 q365
             obtain rfl : ad363 = ad365 := (by injection e365)
             replace hx365_0 := cell_x HB hx365_0
             replace hx365_1 := cell_x HB hx365_1
             replace hx365_2 := cell_x HB hx365_2
             replace hx365_3 := cell_x HB hx365_3
             have HR365_0 := Aside0.mk hi365_0
             have HC365_0 := Aside0.mk hl365_0
             clear hi365_0 hl365_0
             replace p365 := eq_true p365
             replace q365 := eq_true q365
             have ea_ := Option.some.inj (hx363_0.symm.trans hx365_0)
             injection ea_ with ea_ en_ ec_
             subst ea_
             subst ec_
             clear en_
             have p366 : 0 ≤ ((ji9) : Int) := of_x
             have q366 : (ji9) < (l1.length : Int) := of_x
             obtain ⟨ad366, e366, hx366_0⟩ := Kd.at_int HR1.out (ji9) p366 q366
             obtain rfl : ad362 = ad366 := (by injection e366)
             replace hx366_0 := cell_x HB hx366_0
             replace p366 := eq_true p366
             replace q366 := eq_true q366
             have p367 : 0 ≤ ((rd l1 (ji9)) : Int) := of_x
             have q367 : (rd l1 (ji9)) < (l0_0.length : Int) := of_x
             obtain ⟨ad367, A367_0, c367_0, e367, hx367_0, hx367_1, hx367_2, hx367_3, hl367_0, hi367_0⟩ := at_T50 HR0_0.out (rd l1 (ji9)) p367 q367
             obtain rfl : ad363 = ad367 := (by injection e367)
             replace hx367_0 := cell_x HB hx367_0
             replace hx367_1 := cell_x HB hx367_1
             replace hx367_2 := cell_x HB hx367_2
             replace hx367_3 := cell_x HB hx367_3
             have HR367_0 := Aside0.mk hi367_0
             have HC367_0 := Aside0.mk hl367_0
             clear hi367_0 hl367_0
             replace p367 := eq_true p367
             replace q367 := eq_true q367
             go_wp2
             repeat (go_quiet (fail); try go_wp2)
             go_roundg k1
             case measure => have := HK1.out; omega
             case rel => exact ⟨(wrap64 (x5_1 + ((rd_T50 l0_0 (rd l1 x6_1)).f3))), (wrap64 (x6_1 + 1)), (by first | rfl | (simp; done) | (simp [*]; done)), (by first | rfl | (simp; done) | (simp [*]; done)), H', ⟨by have := HK1.out; omega⟩, ⟨blk_x BK361.out⟩, ⟨by exact below_y HB.out⟩⟩
            ·
             rw [if_neg c14] at H
             have c14b0 : (((rd_T50 l0_0 (rd l1 x6_1)).f2) == ((rd_T50 l0_0 (rd l1 (ji9))).f2)) = false := beq_eq_false_iff_ne.mpr c14
             have c14b1 : (((rd_T50 l0_0 (rd l1 x6_1)).f2) != ((rd_T50 l0_0 (rd l1 (ji9))).f2)) = true := bne_iff_ne.mpr c14
             have H' := Aside0.mk H
             clear H
             obtain ⟨_, _, _, _, _⟩ := cz5 BK361
             have hfz16_0 := blk_frozen BK361.out
             have p362 : 0 ≤ (x6_1 : Int) := of_x
             have q362 : x6_1 < (l1.length : Int) := of_x
             obtain ⟨ad362, e362, hx362_0⟩ := Kd.at_int HR1.out x6_1 p362 q362
             cases e362
             replace hx362_0 := cell_x HB hx362_0
             replace p362 := eq_true p362
             replace q362 := eq_true q362
             have p363 : 0 ≤ ((rd l1 x6_1) : Int) := of_x
             have q363 : (rd l1 x6_1) < (l0_0.length : Int) := of_x
             obtain ⟨ad363, A363_0, c363_0, e363, hx363_0, hx363_1, hx363_2, hx363_3, hl363_0, hi363_0⟩ := at_T50 HR0_0.out (rd l1 x6_1) p363 q363
             cases e363
             replace hx363_0 := cell_x HB hx363_0
             replace hx363_1 := cell_x HB hx363_1
             replace hx363_2 := cell_x HB hx363_2
             replace hx363_3 := cell_x HB hx363_3
             have HR363_0 := Aside0.mk hi363_0
             have HC363_0 := Aside0.mk hl363_0
             clear hi363_0 hl363_0
             replace p363 := eq_true p363
             replace q363 := eq_true q363
             have p364 : 0 ≤ (x6_1 : Int) := of_x
             have q364 : x6_1 < (l1.length : Int) := of_x
             obtain ⟨ad364, e364, hx364_0⟩ := Kd.at_int HR1.out x6_1 p364 q364
             obtain rfl : ad362 = ad364 := (by injection e364)
             replace hx364_0 := cell_x HB hx364_0
             replace p364 := eq_true p364
             replace q364 := eq_true q364
             have p365 : 0 ≤ ((rd l1 x6_1) : Int) := of_x
             have q365 : (rd l1 x6_1) < (l0_0.length : Int) := of_x
             obtain ⟨ad365, A365_0, c365_0, e365, hx365_0, hx365_1, hx365_2, hx365_3, hl365_0, hi365_0⟩ := at_T50 HR0_0.out (rd l1 x6_1) p365 q365
             obtain rfl : ad363 = ad365 := (by injection e365)
             replace hx365_0 := cell_x HB hx365_0
             replace hx365_1 := cell_x HB hx365_1
             replace hx365_2 := cell_x HB hx365_2
             replace hx365_3 := cell_x HB hx365_3
             have HR365_0 := Aside0.mk hi365_0
             have HC365_0 := Aside0.mk hl365_0
             clear hi365_0 hl365_0
             replace p365 := eq_true p365
             replace q365 := eq_true q365
             have ea_ := Option.some.inj (hx363_0.symm.trans hx365_0)
             injection ea_ with ea_ en_ ec_
             subst ea_
             subst ec_
             clear en_
             have p366 : 0 ≤ ((ji9) : Int) := of_x
             have q366 : (ji9) < (l1.length : Int) := of_x
             obtain ⟨ad366, e366, hx366_0⟩ := Kd.at_int HR1.out (ji9) p366 q366
             obtain rfl : ad362 = ad366 := (by injection e366)
             replace hx366_0 := cell_x HB hx366_0
             replace p366 := eq_true p366
             replace q366 := eq_true q366
             have p367 : 0 ≤ ((rd l1 (ji9)) : Int) := of_x
             have q367 : (rd l1 (ji9)) < (l0_0.length : Int) := of_x
             obtain ⟨ad367, A367_0, c367_0, e367, hx367_0, hx367_1, hx367_2, hx367_3, hl367_0, hi367_0⟩ := at_T50 HR0_0.out (rd l1 (ji9)) p367 q367
             obtain rfl : ad363 = ad367 := (by injection e367)
             replace hx367_0 := cell_x HB hx367_0
             replace hx367_1 := cell_x HB hx367_1
             replace hx367_2 := cell_x HB hx367_2
             replace hx367_3 := cell_x HB hx367_3
             have HR367_0 := Aside0.mk hi367_0
             have HC367_0 := Aside0.mk hl367_0
             clear hi367_0 hl367_0
             replace p367 := eq_true p367
             replace q367 := eq_true q367
             go_wp2
             repeat (go_quiet (fail); try go_wp2)
             go_roundg k1
             case measure => have := HK1.out; omega
             case rel => exact ⟨(wrap64 ((wrap64 (x5_1 + ((rd_T50 l0_0 (rd l1 x6_1)).f3))) + a0_1)), (wrap64 (x6_1 + 1)), (by first | rfl | (simp; done) | (simp [*]; done)), (by first | rfl | (simp; done) | (simp [*]; done)), H', ⟨by have := HK1.out; omega⟩, ⟨blk_x BK361.out⟩, ⟨by exact below_y HB.out⟩⟩
           ·
            rw [if_neg c13] at H
            exact absurd H (by simp)
          ·
           rw [if_neg c12] at H
           exact absurd H (by simp)
         ·
          rw [if_neg c11] at H
          exact absurd H (by simp)
        ·
         rw [if_neg c10] at H
         exact absurd H (by simp)
       ·
        rw [if_neg c8] at H
        have c8b0 : decide (0 < x6_1) = false := decide_eq_false c8
        clear c8
        have H' := Aside0.mk H
        clear H
        obtain ⟨_, _, _, _, _⟩ := cz5 BK361
        have hfz17_0 := blk_frozen BK361.out
        have p362 : 0 ≤ (x6_1 : Int) := of_x
        have q362 : x6_1 < (l1.length : Int) := of_x
        obtain ⟨ad362, e362, hx362_0⟩ := Kd.at_int HR1.out x6_1 p362 q362
        cases e362
        replace hx362_0 := cell_x HB hx362_0
        replace p362 := eq_true p362
        replace q362 := eq_true q362
        have p363 : 0 ≤ ((rd l1 x6_1) : Int) := of_x
        have q363 : (rd l1 x6_1) < (l0_0.length : Int) := of_x
        obtain ⟨ad363, A363_0, c363_0, e363, hx363_0, hx363_1, hx363_2, hx363_3, hl363_0, hi363_0⟩ := at_T50 HR0_0.out (rd l1 x6_1) p363 q363
        cases e363
        replace hx363_0 := cell_x HB hx363_0
        replace hx363_1 := cell_x HB hx363_1
        replace hx363_2 := cell_x HB hx363_2
        replace hx363_3 := cell_x HB hx363_3
        have HR363_0 := Aside0.mk hi363_0
        have HC363_0 := Aside0.mk hl363_0
        clear hi363_0 hl363_0
        replace p363 := eq_true p363
        replace q363 := eq_true q363
        go_wp2
        repeat (go_quiet (fail); try go_wp2)
        go_roundg k1
        case measure => have := HK1.out; omega
        case rel => exact ⟨(wrap64 (x5_1 + ((rd_T50 l0_0 (rd l1 x6_1)).f3))), (wrap64 (x6_1 + 1)), (by first | rfl | (simp; done) | (simp [*]; done)), (by first | rfl | (simp; done) | (simp [*]; done)), H', ⟨by have := HK1.out; omega⟩, ⟨blk_x BK361.out⟩, ⟨by exact below_y HB.out⟩⟩
      ·
       rw [if_neg c7] at H
       exact absurd H (by simp)
     ·
      rw [if_neg c6] at H
      exact absurd H (by simp)
    ·
     rw [if_neg c5] at H
     exact absurd H (by simp)
   ·
    rw [if_neg c4] at H
    have c4b0 : decide (x6_1 < (l1.length : Int)) = false := decide_eq_false c4
    clear c4
    obtain rfl := Option.some.inj H
    go_wp2
    go_ret
    exact ⟨by first | rfl | (simp [errW_none, errW_some] <;> rfl) | (simp [*, errW_none, errW_some] <;> rfl), by exact below_y HB.out⟩
def swarfref04_has.l0 : Nat → List Int → Int → Int → Option (Bool)
 | 0, _, _, _ => none
 | k + 1, x0, x1, x5 => if x5 < (x0.length : Int) then (if 0 ≤ x5 then (if (rd x0 x5) = x1 then (some true) else (swarfref04_has.l0 k x0 x1 (wrap64 (x5 + 1)))) else (none)) else (some false)
def swarfref04_has.f (k : Nat) (l0 : List Int) (a1 : Int) : Option (Bool) := swarfref04_has.l0 k l0 a1 0
theorem swarfref04_has.mono_l : ∀ k, (∀ y0 y1 y2, LeO (swarfref04_has.l0 k y0 y1 y2) (swarfref04_has.l0 (k + 1) y0 y1 y2))
 | 0 => fun _ _ _ r h => by simp [swarfref04_has.l0] at h
 | k + 1 => by
  have ih0 := swarfref04_has.mono_l k
  ·
   intro y0 y1 y2
   unfold swarfref04_has.l0
   repeat' first
   | (with_reducible exact ih0 _ _ _)
   | (with_reducible exact LeO.refl _)
   | (with_reducible exact LeO.none _)
   | (with_reducible refine LeO.ite ?_ ?_)
   | (with_reducible refine LeO.bind ?_ (fun _ => ?_))
   | exact ih0 _ _ _
   | exact LeO.none _
   | refine LeO.ite ?_ ?_
   | refine LeO.bind ?_ (fun _ => ?_)
theorem swarfref04_has.mono : ∀ a0 a1 k, LeO (swarfref04_has.f k a0 a1) (swarfref04_has.f (k + 1) a0 a1) := by
 intro a0 a1 k
 have ih0 := swarfref04_has.mono_l k
 unfold swarfref04_has.f
 repeat' first
   | (with_reducible exact ih0 _ _ _)
   | (with_reducible exact LeO.refl _)
   | (with_reducible exact LeO.none _)
   | (with_reducible refine LeO.ite ?_ ?_)
   | (with_reducible refine LeO.bind ?_ (fun _ => ?_))
   | exact ih0 _ _ _
   | exact LeO.none _
   | refine LeO.ite ?_ ?_
   | refine LeO.bind ?_ (fun _ => ?_)
set_option maxHeartbeats 8000000 in
set_option maxRecDepth 100000 in
theorem swarfref04_has.calls (k : Nat) (A0 : Option Addr) (c0 : Nat) (l0 : List Int) (a1 : Int) (r : Bool) (w : World) (hr0 : Kd.C (Kd.int .i64) w A0 l0.length l0) (hc0 : l0.length ≤ c0) (h : swarfref04_has.f k l0 a1 = some r) :
  Calls Try.prog 67 #[.slice A0 l0.length c0, .int .i64 a1] w fun e w' => e = .returned (.bool r) ∧ Drawn0 w w' := by
 have HR0 := Aside0.mk hr0
 have HC0 := Aside0.mk hc0
 clear hr0 hc0
 have H : (swarfref04_has.l0 k l0 a1 0) = some r := h
 clear h
 have H' := Aside0.mk H
 clear H
 go_enter Try.func67, Try.ntmps67
 go_wp2
 go_loopg [5] k (fun kq v5 w' => ∃ (x5_1 : Int), v5 = .int .i64 x5_1 ∧ Aside0 (swarfref04_has.l0 kq l0 a1 x5_1 = some r) ∧ Aside0 (kq ≤ k) ∧ Drawn0 w w')
 case atStart => exact ⟨(0), (by first | rfl | (simp; done) | (simp [*]; done)), H', ⟨Nat.le_refl _⟩, by repeat (first | exact Drawn0.refl _ | apply Drawn0.step)⟩
 case round =>
  clear H'
  obtain ⟨x5_1, rfl, HA, HK1, ⟨m1, rfl⟩⟩ := hrel
  cases gk with
  | zero => exact absurd HA.out (by simp [swarfref04_has.l0])
  | succ k1 =>
   have H := HA.out
   clear HA
   simp only [swarfref04_has.l0] at H
   by_cases c3 : x5_1 < (l0.length : Int)
   ·
    rw [if_pos c3] at H
    have c3b0 : decide (x5_1 < (l0.length : Int)) = true := decide_eq_true c3
    clear c3
    by_cases c4 : 0 ≤ x5_1
    ·
     rw [if_pos c4] at H
     have c4b0 : decide (0 ≤ x5_1) = true := decide_eq_true c4
     clear c4
     by_cases c5 : (rd l0 x5_1) = a1
     ·
      rw [if_pos c5] at H
      have c5b0 : ((rd l0 x5_1) == a1) = true := beq_iff_eq.mpr c5
      have c5b1 : ((rd l0 x5_1) != a1) = false := bne_eq_false_iff_eq.mpr c5
      clear c5
      obtain rfl := Option.some.inj H
      have p375 : 0 ≤ (x5_1 : Int) := of_x
      have q375 : x5_1 < (l0.length : Int) := of_x
      obtain ⟨ad375, e375, hx375_0⟩ := Kd.at_int HR0.out x5_1 p375 q375
      cases e375
      replace p375 := eq_true p375
      replace q375 := eq_true q375
      go_wp2
      go_ret
      exact ⟨by first | rfl | (simp; done) | (simp [*]; done), by repeat (first | exact Drawn0.refl _ | apply Drawn0.step)⟩
     ·
      rw [if_neg c5] at H
      have c5b0 : ((rd l0 x5_1) == a1) = false := beq_eq_false_iff_ne.mpr c5
      have c5b1 : ((rd l0 x5_1) != a1) = true := bne_iff_ne.mpr c5
      have H' := Aside0.mk H
      clear H
      have p375 : 0 ≤ (x5_1 : Int) := of_x
      have q375 : x5_1 < (l0.length : Int) := of_x
      obtain ⟨ad375, e375, hx375_0⟩ := Kd.at_int HR0.out x5_1 p375 q375
      cases e375
      replace p375 := eq_true p375
      replace q375 := eq_true q375
      go_wp2
      go_roundg k1
      case measure => have := HK1.out; omega
      case rel => exact ⟨(wrap64 (x5_1 + 1)), (by first | rfl | (simp; done) | (simp [*]; done)), H', ⟨by have := HK1.out; omega⟩, by repeat (first | exact Drawn0.refl _ | apply Drawn0.step)⟩
    ·
     rw [if_neg c4] at H
     exact absurd H (by simp)
   ·
    rw [if_neg c3] at H
    have c3b0 : decide (x5_1 < (l0.length : Int)) = false := decide_eq_false c3
    clear c3
    obtain rfl := Option.some.inj H
    go_wp2
    go_ret
    exact ⟨by first | rfl | (simp; done) | (simp [*]; done), by repeat (first | exact Drawn0.refl _ | apply Drawn0.step)⟩
mutual
def swarfref04_Orders.l0 : Nat → List Bool → List Int → List (List Int) → Bool → Int → List (S50) → Int → List (S61) → Int → List Int → Option ((List (List Int)))
 | 0, _, _, _, _, _, _, _, _, _, _ => none
 | k + 1, x1, x2, x7, x8, x9, x377000, x377001, x377002, x377003, x377004 => if x9 < (x1.length : Int) then (if 0 ≤ x9 then (if rdOf false x1 x9 = true then ((swarfref04_has.f k x2 x9).bind fun t381 => (swarfref04_Orders.j1 k x1 x2 x7 x8 x9 t381 x377000 x377001 x377002 x377003 x377004)) else (swarfref04_Orders.j1 k x1 x2 x7 x8 x9 true x377000 x377001 x377002 x377003 x377004)) else (none)) else (if x8 = true then (some (([x2] : List (List Int)))) else (some x7))
def swarfref04_Orders.j1 : Nat → List Bool → List Int → List (List Int) → Bool → Int → Bool → List (S50) → Int → List (S61) → Int → List Int → Option ((List (List Int)))
 | 0, _, _, _, _, _, _, _, _, _, _, _ => none
 | k + 1, x1, x2, x7, x8, x9, x28, x377000, x377001, x377002, x377003, x377004 => if x28 = true then (swarfref04_Orders.l0 k x1 x2 x7 x8 (wrap64 (x9 + 1)) x377000 x377001 x377002 x377003 x377004) else (swarfref04_Orders.l1 k x1 x2 x7 false x9 true 0 x377000 x377001 x377002 x377003 x377004)
def swarfref04_Orders.l1 : Nat → List Bool → List Int → List (List Int) → Bool → Int → Bool → Int → List (S50) → Int → List (S61) → Int → List Int → Option ((List (List Int)))
 | 0, _, _, _, _, _, _, _, _, _, _, _, _ => none
 | k + 1, x1, x2, x7, x8, x9, x10, x11, x377000, x377001, x377002, x377003, x377004 => if 0 ≤ x9 then (if x9 < (x377000.length : Int) then (if x11 < (((rd_T50 x377000 x9).f0).length : Int) then (if 0 ≤ x11 then (if x10 = true then (if 0 ≤ (rd ((rd_T50 x377000 x9).f0) x11) then (if (rd ((rd_T50 x377000 x9).f0) x11) < (x1.length : Int) then (if (rdOf false x1 (rd ((rd_T50 x377000 x9).f0) x11) = true) then ((swarfref04_has.f k x2 (rd ((rd_T50 x377000 x9).f0) x11)).bind fun t386 => (swarfref04_Orders.l1 k x1 x2 x7 x8 x9 t386 (wrap64 (x11 + 1)) x377000 x377001 x377002 x377003 x377004)) else (swarfref04_Orders.l1 k x1 x2 x7 x8 x9 true (wrap64 (x11 + 1)) x377000 x377001 x377002 x377003 x377004)) else (none)) else (none)) else (swarfref04_Orders.l1 k x1 x2 x7 x8 x9 false (wrap64 (x11 + 1)) x377000 x377001 x377002 x377003 x377004)) else (none)) else (if x10 = true then ((some (([] : List Int) : List Int)).bind fun y387 => (if y387.length + x2.length < 17592186044416 then ((some (y387 ++ x2 : List Int)).bind fun y390 => ((some (([x9] : List Int) : List Int)).bind fun y393 => (if y390.length + y393.length < 17592186044416 then ((swarfref04_Orders.f k x377000 x377001 x377002 x377003 x377004 x1 (y390 ++ y393)).bind fun t399 => (if x7.length + t399.length < 5864062014805 then (swarfref04_Orders.l0 k x1 x2 (x7 ++ t399) x8 (wrap64 (x9 + 1)) x377000 x377001 x377002 x377003 x377004) else (none))) else (none)))) else (none))) else (swarfref04_Orders.l0 k x1 x2 x7 x8 (wrap64 (x9 + 1)) x377000 x377001 x377002 x377003 x377004))) else (none)) else (none)
def swarfref04_Orders.f : Nat → List (S50) → Int → List (S61) → Int → List Int → List Bool → List Int → Option ((List (List Int)))
 | 0, _, _, _, _, _, _, _ => none
 | k + 1, l0_0, a0_1, l0_2, a0_3, l0_4, l1, l2 => swarfref04_Orders.l0 k l1 l2 ([] : List (List Int)) true 0 l0_0 a0_1 l0_2 a0_3 l0_4
end
theorem swarfref04_Orders.mono_l : ∀ k, (∀ y0 y1 y2 y3 y4 y5 y6, LeO (swarfref04_Orders.f k y0 y1 y2 y3 y4 y5 y6) (swarfref04_Orders.f (k + 1) y0 y1 y2 y3 y4 y5 y6)) ∧ (∀ y0 y1 y2 y3 y4 y5 y6 y7 y8 y9, LeO (swarfref04_Orders.l0 k y0 y1 y2 y3 y4 y5 y6 y7 y8 y9) (swarfref04_Orders.l0 (k + 1) y0 y1 y2 y3 y4 y5 y6 y7 y8 y9)) ∧ (∀ y0 y1 y2 y3 y4 y5 y6 y7 y8 y9 y10, LeO (swarfref04_Orders.j1 k y0 y1 y2 y3 y4 y5 y6 y7 y8 y9 y10) (swarfref04_Orders.j1 (k + 1) y0 y1 y2 y3 y4 y5 y6 y7 y8 y9 y10)) ∧ (∀ y0 y1 y2 y3 y4 y5 y6 y7 y8 y9 y10 y11, LeO (swarfref04_Orders.l1 k y0 y1 y2 y3 y4 y5 y6 y7 y8 y9 y10 y11) (swarfref04_Orders.l1 (k + 1) y0 y1 y2 y3 y4 y5 y6 y7 y8 y9 y10 y11))
 | 0 => ⟨fun _ _ _ _ _ _ _ r h => by simp [swarfref04_Orders.f] at h, fun _ _ _ _ _ _ _ _ _ _ r h => by simp [swarfref04_Orders.l0] at h, fun _ _ _ _ _ _ _ _ _ _ _ r h => by simp [swarfref04_Orders.j1] at h, fun _ _ _ _ _ _ _ _ _ _ _ _ r h => by simp [swarfref04_Orders.l1] at h⟩
 | k + 1 => by
  obtain ⟨ih0, ih1, ih2, ih3⟩ := swarfref04_Orders.mono_l k
  refine ⟨?_, ?_, ?_, ?_⟩
  ·
   intro y0 y1 y2 y3 y4 y5 y6
   unfold swarfref04_Orders.f
   repeat' first
   | (with_reducible exact ih0 _ _ _ _ _ _ _)
   | (with_reducible exact ih1 _ _ _ _ _ _ _ _ _ _)
   | (with_reducible exact ih2 _ _ _ _ _ _ _ _ _ _ _)
   | (with_reducible exact ih3 _ _ _ _ _ _ _ _ _ _ _ _)
   | (with_reducible exact swarfref04_has.mono _ _ _)
   | (with_reducible exact LeO.refl _)
   | (with_reducible exact LeO.none _)
   | (with_reducible refine LeO.ite ?_ ?_)
   | (with_reducible refine LeO.bind ?_ (fun _ => ?_))
   | exact ih0 _ _ _ _ _ _ _
   | exact ih1 _ _ _ _ _ _ _ _ _ _
   | exact ih2 _ _ _ _ _ _ _ _ _ _ _
   | exact ih3 _ _ _ _ _ _ _ _ _ _ _ _
   | exact swarfref04_has.mono _ _ _
   | exact LeO.none _
   | refine LeO.ite ?_ ?_
   | refine LeO.bind ?_ (fun _ => ?_)
  ·
   intro y0 y1 y2 y3 y4 y5 y6 y7 y8 y9
   unfold swarfref04_Orders.l0
   repeat' first
   | (with_reducible exact ih0 _ _ _ _ _ _ _)
   | (with_reducible exact ih1 _ _ _ _ _ _ _ _ _ _)
   | (with_reducible exact ih2 _ _ _ _ _ _ _ _ _ _ _)
   | (with_reducible exact ih3 _ _ _ _ _ _ _ _ _ _ _ _)
   | (with_reducible exact swarfref04_has.mono _ _ _)
   | (with_reducible exact LeO.refl _)
   | (with_reducible exact LeO.none _)
   | (with_reducible refine LeO.ite ?_ ?_)
   | (with_reducible refine LeO.bind ?_ (fun _ => ?_))
   | exact ih0 _ _ _ _ _ _ _
   | exact ih1 _ _ _ _ _ _ _ _ _ _
   | exact ih2 _ _ _ _ _ _ _ _ _ _ _
   | exact ih3 _ _ _ _ _ _ _ _ _ _ _ _
   | exact swarfref04_has.mono _ _ _
   | exact LeO.none _
   | refine LeO.ite ?_ ?_
   | refine LeO.bind ?_ (fun _ => ?_)
  ·
   intro y0 y1 y2 y3 y4 y5 y6 y7 y8 y9 y10
   unfold swarfref04_Orders.j1
   repeat' first
   | (with_reducible exact ih0 _ _ _ _ _ _ _)
   | (with_reducible exact ih1 _ _ _ _ _ _ _ _ _ _)
   | (with_reducible exact ih2 _ _ _ _ _ _ _ _ _ _ _)
   | (with_reducible exact ih3 _ _ _ _ _ _ _ _ _ _ _ _)
   | (with_reducible exact swarfref04_has.mono _ _ _)
   | (with_reducible exact LeO.refl _)
   | (with_reducible exact LeO.none _)
   | (with_reducible refine LeO.ite ?_ ?_)
   | (with_reducible refine LeO.bind ?_ (fun _ => ?_))
   | exact ih0 _ _ _ _ _ _ _
   | exact ih1 _ _ _ _ _ _ _ _ _ _
   | exact ih2 _ _ _ _ _ _ _ _ _ _ _
   | exact ih3 _ _ _ _ _ _ _ _ _ _ _ _
   | exact swarfref04_has.mono _ _ _
   | exact LeO.none _
   | refine LeO.ite ?_ ?_
   | refine LeO.bind ?_ (fun _ => ?_)
  ·
   intro y0 y1 y2 y3 y4 y5 y6 y7 y8 y9 y10 y11
   unfold swarfref04_Orders.l1
   repeat' first
   | (with_reducible exact ih0 _ _ _ _ _ _ _)
   | (with_reducible exact ih1 _ _ _ _ _ _ _ _ _ _)
   | (with_reducible exact ih2 _ _ _ _ _ _ _ _ _ _ _)
   | (with_reducible exact ih3 _ _ _ _ _ _ _ _ _ _ _ _)
   | (with_reducible exact swarfref04_has.mono _ _ _)
   | (with_reducible exact LeO.refl _)
   | (with_reducible exact LeO.none _)
   | (with_reducible refine LeO.ite ?_ ?_)
   | (with_reducible refine LeO.bind ?_ (fun _ => ?_))
   | exact ih0 _ _ _ _ _ _ _
   | exact ih1 _ _ _ _ _ _ _ _ _ _
   | exact ih2 _ _ _ _ _ _ _ _ _ _ _
   | exact ih3 _ _ _ _ _ _ _ _ _ _ _ _
   | exact swarfref04_has.mono _ _ _
   | exact LeO.none _
   | refine LeO.ite ?_ ?_
   | refine LeO.bind ?_ (fun _ => ?_)
theorem swarfref04_Orders.mono : ∀ a0 a1 a2 a3 a4 a5 a6 k, LeO (swarfref04_Orders.f k a0 a1 a2 a3 a4 a5 a6) (swarfref04_Orders.f (k + 1) a0 a1 a2 a3 a4 a5 a6) := by
 intro a0 a1 a2 a3 a4 a5 a6 k
 obtain ⟨ih0, ih1, ih2, ih3⟩ := swarfref04_Orders.mono_l k
 exact ih0 a0 a1 a2 a3 a4 a5 a6
def swarfref04_Orders.T15 : Bool × List (List Nat × List Nat) := (true, [([], []), ([], []), ([], []), ([], []), ([], []), ([3, 4], [3, 4]), ([], []), ([6], [6]), ([5, 7, 5], [5, 7]), ([1, 2, 8, 8], [1, 2, 8]), ([0, 9, 9], [0, 9]), ([10, 10, 0, 1, 2, 3, 4, 5, 6, 7, 8, 9, 10], [0, 10])])
def swarfref04_Orders.B15 : List Nat := [0, 0, 0, 0, 0, 24, 0, 64, 248, 510, 1023, 2047]
theorem swarfref04_Orders.tab15 : rtab .any (opsOf Try.f33 15) = swarfref04_Orders.T15 := by kernel_rfl
theorem swarfref04_Orders.bits15 : waitsOk swarfref04_Orders.T15.2 swarfref04_Orders.B15 = true := by kernel_rfl
set_option maxHeartbeats 8000000 in
set_option maxRecDepth 100000 in
theorem swarfref04_Orders.calls (k : Nat) : ∀ (A0_0 : Option Addr) (c0_0 : Nat) (l0_0 : List (S50)) (a0_1 : Int) (A0_2 : Option Addr) (c0_2 : Nat) (l0_2 : List (S61)) (a0_3 : Int) (A0_4 : Option Addr) (c0_4 : Nat) (l0_4 : List Int) (A1 : Option Addr) (c1 : Nat) (l1 : List Bool) (P2_ : Nat → Prop) (A2 : Option Addr) (c2 : Nat) (l2 : List Int) (r : List (List Int)) (w : World) (hr0_0 : Kd.C k50 w A0_0 l0_0.length l0_0) (hc0_0 : l0_0.length ≤ c0_0) (hr0_2 : Kd.C k61 w A0_2 l0_2.length l0_2) (hc0_2 : l0_2.length ≤ c0_2) (hr0_4 : Kd.C (Kd.int .i64) w A0_4 l0_4.length l0_4) (hc0_4 : l0_4.length ≤ c0_4) (hr1 : Kd.C Kd.bool w A1 l1.length l1) (hc1 : l1.length ≤ c1) (hs2 : Kd.V (Kd.int .i64) 3 w w.heap.size (fun k_ => P2_ k_) (.slice A2 l2.length c2) l2) (h : swarfref04_Orders.f k l0_0 a0_1 l0_2 a0_3 l0_4 l1 l2 = some r),
  Calls Try.prog 33 #[.agg #[.slice A0_0 l0_0.length c0_0, .int .i64 a0_1, .slice A0_2 l0_2.length c0_2, .int .i64 a0_3, .slice A0_4 l0_4.length c0_4], .slice A1 l1.length c1, .slice A2 l2.length c2] w fun e w' => ∃ v0_ : Value, e = .returned (v0_) ∧ Kd.N (Kd.slice 3 (Kd.int .i64)) 24 w' w.heap.size (fun k_ => (P2_ k_ ∨ w.heap.size ≤ k_)) v0_ r ∧ Below w.heap.size w w' := by
 induction k using Nat.strongRecOn with
 | _ k ih =>
 intro A0_0 c0_0 l0_0 a0_1 A0_2 c0_2 l0_2 a0_3 A0_4 c0_4 l0_4 A1 c1 l1 P2_ A2 c2 l2 r w hr0_0 hc0_0 hr0_2 hc0_2 hr0_4 hc0_4 hr1 hc1 hs2 h
 cases k with
 | zero => exact absurd h (by simp [swarfref04_Orders.f])
 | succ k =>
 simp only [swarfref04_Orders.f] at h
 have hu26 := Try.underlying26
 have HR0_0 := Aside0.mk hr0_0
 have HC0_0 := Aside0.mk hc0_0
 clear hr0_0 hc0_0
 have HR0_2 := Aside0.mk hr0_2
 have HC0_2 := Aside0.mk hc0_2
 clear hr0_2 hc0_2
 have HR0_4 := Aside0.mk hr0_4
 have HC0_4 := Aside0.mk hc0_4
 clear hr0_4 hc0_4
 have HR1 := Aside0.mk hr1
 have HC1 := Aside0.mk hc1
 clear hr1 hc1
 have HO2 := Aside0.mk (show Kd.V (Kd.int .i64) 3 w w.heap.size (fun k_ => (P2_ k_ ∨ w.heap.size ≤ k_)) (.slice A2 l2.length c2) l2 from Kd.V_mono hs2 (fun k_ hk => .inl hk))
 have HB := Aside0.mk (Below.refl w.heap.size w)
 have H : (swarfref04_Orders.l0 k l1 l2 ([] : List (List Int)) true 0 l0_0 a0_1 l0_2 a0_3 l0_4) = some r := h
 clear h
 have H' := Aside0.mk H
 clear H
 go_enter Try.func33, Try.ntmps33
 go_wp2_with (first | ((with_reducible refine gate_dst (N := 3) rfl ?_); refine box_event ?hg (N := 3) ?hd (cs := #[.slice A0_0 l0_0.length c0_0, .int .i64 a0_1, .slice A0_2 l0_2.length c0_2, .int .i64 a0_3, .slice A0_4 l0_4.length c0_4]) (t := 26) ?hr ?_; (case hd => rfl); (case hg => rfl); (case hr => first | (go_simp; done) | (go_simp; rfl)); intro gb376 hg w4 hbox hb; replace HO2 := Aside0.mk (Kd.V_below (Kd.V_elderB (Kd.V_x HO2.out) gb376 (Nat.le_of_eq hg.symm)) hb); have BK376 := Aside0.mk (hbox); have GW376 := Aside0.mk ((by rw [hg]; exact (below_size (below_x HB.out)) : w.heap.size ≤ gb376)); have GE376 := Aside0.mk ((by rw [hg]; exact (below_size (below_x HB.out)) : w.heap.size ≤ gb376)); replace HB := Aside0.mk (below_step (below_x HB.out) hb); clear hb hbox hg))
 go_loopg [7, 8, 9] k (fun kq v7 v8 v9 w' => ∃ (x7_1 : List (List Int)) (x8_1 : Bool) (x9_1 : Int), v8 = .bool x8_1 ∧ v9 = .int .i64 x9_1 ∧ Aside0 (swarfref04_Orders.l0 kq l1 l2 x7_1 x8_1 x9_1 l0_0 a0_1 l0_2 a0_3 l0_4 = some r) ∧ Aside0 (kq ≤ k) ∧ Aside0 (Kd.V (Kd.int .i64) 3 w' w.heap.size (fun k_ => (P2_ k_ ∨ w.heap.size ≤ k_) ∧ some k_ ≠ (v7 : Value).ownBlock ∧ k_ ≠ gb376) (.slice A2 l2.length c2) l2) ∧ Aside0 (Kd.N (Kd.slice 3 (Kd.int .i64)) 24 w' w.heap.size (fun k_ => (P2_ k_ ∨ w.heap.size ≤ k_) ∧ k_ ≠ gb376) v7 x7_1) ∧ Aside0 (w'.heap[gb376]? = some (.cells #[(.slice A0_0 l0_0.length c0_0), .int .i64 a0_1, (.slice A0_2 l0_2.length c0_2), .int .i64 a0_3, (.slice A0_4 l0_4.length c0_4)] 26 (0, 0))) ∧ Aside0 (Below w.heap.size w w'))
 case atStart => exact ⟨(([] : List (List Int))), (true), (0), (by first | rfl | (simp; done) | (simp [*]; done)), (by first | rfl | (simp; done) | (simp [*]; done)), H', ⟨Nat.le_refl _⟩, ⟨by (with_reducible repeat (first | apply Kd.V_alloc | apply Kd.V_drewN | apply Kd.V_drew)); exact Kd.V_mono HO2.out (fun _ hk => ⟨hk.1, ⟨(by simp [Value.ownBlock]), hk.2⟩⟩)⟩, ⟨by first | exact Kd.S_nil _ _ _ _ _ | exact Kd.N_nil _ _ _ _ _ | exact Kd.V_nil _ _ _ _ _ | exact Kd.Q_nil _ _ _ _ _ | exact Kd.R_nil _ _ _ _ _⟩, ⟨blk_x BK376.out⟩, ⟨by exact below_y HB.out⟩⟩
 case round =>
  clear H'
  obtain ⟨x7_1, x8_1, x9_1, rfl, rfl, HA, HK1, HO_2, HO_7, BK376, HB⟩ := hrel
  cases gk with
  | zero => exact absurd HA.out (by simp [swarfref04_Orders.l0])
  | succ k1 =>
   have H := HA.out
   clear HA
   simp only [swarfref04_Orders.l0] at H
   by_cases c5 : x9_1 < (l1.length : Int)
   ·
    rw [if_pos c5] at H
    have c5b0 : decide (x9_1 < (l1.length : Int)) = true := decide_eq_true c5
    clear c5
    have HC6 := Aside0.mk H
    clear H
    go_upto_region 6 with (fail)
    go_cut [28] (fun v28 wc => ∃ (kq : Nat) (x28_5 : Bool), v28 = .bool x28_5 ∧ Aside0 (swarfref04_Orders.j1 kq l1 l2 x7_1 x8_1 x9_1 x28_5 l0_0 a0_1 l0_2 a0_3 l0_4 = some r) ∧ Aside0 (kq ≤ k1) ∧ Aside0 (Kd.V (Kd.int .i64) 3 wc w.heap.size (fun k_ => (P2_ k_ ∨ w.heap.size ≤ k_) ∧ some k_ ≠ (u7 : Value).ownBlock ∧ k_ ≠ gb376) (.slice A2 l2.length c2) l2) ∧ Aside0 (Kd.N (Kd.slice 3 (Kd.int .i64)) 24 wc w.heap.size (fun k_ => (P2_ k_ ∨ w.heap.size ≤ k_) ∧ k_ ≠ gb376) u7 x7_1) ∧ Aside0 (wc.heap[gb376]? = some (.cells #[(.slice A0_0 l0_0.length c0_0), .int .i64 a0_1, (.slice A0_2 l0_2.length c0_2), .int .i64 a0_3, (.slice A0_4 l0_4.length c0_4)] 26 (0, 0))) ∧ Aside0 (Below w.heap.size w wc))
    case first =>
     have H := HC6.out
     clear HC6
     by_cases c7 : 0 ≤ x9_1
     ·
      rw [if_pos c7] at H
      have c7b0 : decide (0 ≤ x9_1) = true := decide_eq_true c7
      clear c7
      (first | rw [c7b0] | (simp only [i64_w, i32_w]; rw [c7b0]) | skip)
      obtain ⟨bq8, hbq8⟩ : ∃ b_ : Bool, b_ = (rdOf false l1 x9_1) := ⟨_, rfl⟩
      replace H : (if bq8 = true then ((swarfref04_has.f k1 l2 x9_1).bind fun t381 => (swarfref04_Orders.j1 k1 l1 l2 x7_1 x8_1 x9_1 t381 l0_0 a0_1 l0_2 a0_3 l0_4)) else (swarfref04_Orders.j1 k1 l1 l2 x7_1 x8_1 x9_1 true l0_0 a0_1 l0_2 a0_3 l0_4)) = some r := by rw [← hbq8] at H; exact H
      have Nbq8 := Aside0.mk hbq8
      clear hbq8
      by_cases c9 : bq8 = true
      ·
       subst c9
       have H1 : ((swarfref04_has.f k1 l2 x9_1).bind fun t381 => (swarfref04_Orders.j1 k1 l1 l2 x7_1 x8_1 x9_1 t381 l0_0 a0_1 l0_2 a0_3 l0_4)) = some r := by rw [if_pos rfl] at H; exact H
       clear H
       have H := H1
       clear H1
       replace H := Option.bind_eq_some_iff.mp H
       obtain ⟨t381, A100, H⟩ := H
       try dsimp only at H
       have A10 := Aside0.mk A100
       clear A100
       have H' := Aside0.mk H
       clear H
       have p380 : 0 ≤ (x9_1 : Int) := of_x
       have q380 : x9_1 < (l1.length : Int) := of_x
       obtain ⟨ad380, e380, hx380_0⟩ := Kd.at_bool HR1.out x9_1 p380 q380
       (try rw [← Nbq8.out] at hx380_0)
       cases e380
       replace hx380_0 := cell_x HB hx380_0
       replace p380 := eq_true p380
       replace q380 := eq_true q380
       go_wp2_with (first | (go_at_call 67; (with_reducible refine (swarfref04_has.calls k1 _ _ l2 x9_1 t381 _ ?side1 ?side2 A10.out).mono ?_); (case side1 => exact Kd.C_y (Kd.V_reads' HO_2.out).2.2); (case side2 => exact (Kd.V_reads' HO_2.out).2.1); rintro e w' ⟨rfl, ⟨nd, rfl⟩⟩))
       go_meet
       case rel => exact ⟨_, (t381), (by first | rfl | (simp; done) | (simp [*]; done)), H', ⟨by have := HK1.out; first | omega | exact Nat.le_refl _⟩, ⟨by (with_reducible repeat (first | apply Kd.V_alloc | apply Kd.V_drewN | apply Kd.V_drew)); exact HO_2.out⟩, ⟨by (with_reducible repeat (first | apply Kd.N_alloc | apply Kd.N_drewN | apply Kd.N_drew)); exact HO_7.out⟩, ⟨blk_x BK376.out⟩, ⟨by exact below_y HB.out⟩⟩
      ·
       replace c9 := Bool.eq_false_iff.mpr c9
       subst c9
       have H1 : (swarfref04_Orders.j1 k1 l1 l2 x7_1 x8_1 x9_1 true l0_0 a0_1 l0_2 a0_3 l0_4) = some r := by rw [if_neg (show ¬ (false = true) by decide)] at H; exact H
       clear H
       have H := H1
       clear H1
       have H' := Aside0.mk H
       clear H
       have p380 : 0 ≤ (x9_1 : Int) := of_x
       have q380 : x9_1 < (l1.length : Int) := of_x
       obtain ⟨ad380, e380, hx380_0⟩ := Kd.at_bool HR1.out x9_1 p380 q380
       (try rw [← Nbq8.out] at hx380_0)
       cases e380
       replace hx380_0 := cell_x HB hx380_0
       replace p380 := eq_true p380
       replace q380 := eq_true q380
       go_wp2
       go_meet
       case rel => exact ⟨_, (true), (by first | rfl | (simp; done) | (simp [*]; done)), H', ⟨by have := HK1.out; first | omega | exact Nat.le_refl _⟩, ⟨by (with_reducible repeat (first | apply Kd.V_alloc | apply Kd.V_drewN | apply Kd.V_drew)); exact HO_2.out⟩, ⟨by (with_reducible repeat (first | apply Kd.N_alloc | apply Kd.N_drewN | apply Kd.N_drew)); exact HO_7.out⟩, ⟨blk_x BK376.out⟩, ⟨by exact below_y HB.out⟩⟩
     ·
      rw [if_neg c7] at H
      exact absurd H (by simp)
    case rest =>
     clear HC6
     obtain ⟨kq, x28_5, rfl, HA, HJ5, HO_2, HO_7, BK376, HB⟩ := hcut
     cases kq with
     | zero => exact absurd HA.out (by simp [swarfref04_Orders.j1])
     | succ kj5 =>
      have H := HA.out
      clear HA
      simp only [swarfref04_Orders.j1] at H
      by_cases c11 : x28_5 = true
      ·
       subst c11
       have H1 : (swarfref04_Orders.l0 kj5 l1 l2 x7_1 x8_1 (wrap64 (x9_1 + 1)) l0_0 a0_1 l0_2 a0_3 l0_4) = some r := by rw [if_pos rfl] at H; exact H
       clear H
       have H := H1
       clear H1
       have H' := Aside0.mk H
       clear H
       go_wp2
       go_roundg kj5
       case measure => have := HK1.out; have := HJ5.out; omega
       case rel => exact ⟨(x7_1), (x8_1), (wrap64 (x9_1 + 1)), (by first | rfl | (simp; done) | (simp [*]; done)), (by first | rfl | (simp; done) | (simp [*]; done)), H', ⟨by have := HK1.out; have := HJ5.out; omega⟩, ⟨by (with_reducible repeat (first | apply Kd.V_alloc | apply Kd.V_drewN | apply Kd.V_drew)); exact HO_2.out⟩, ⟨by (with_reducible repeat (first | apply Kd.N_alloc | apply Kd.N_drewN | apply Kd.N_drew)); exact HO_7.out⟩, ⟨blk_x BK376.out⟩, ⟨by exact below_y HB.out⟩⟩
      ·
       replace c11 := Bool.eq_false_iff.mpr c11
       subst c11
       have H1 : (swarfref04_Orders.l1 kj5 l1 l2 x7_1 false x9_1 true 0 l0_0 a0_1 l0_2 a0_3 l0_4) = some r := by rw [if_neg (show ¬ (false = true) by decide)] at H; exact H
       clear H
       have H := H1
       clear H1
       have H' := Aside0.mk H
       clear H
       go_wp2
       go_loopg [10, 11] kj5 (fun kq v10 v11 w' => ∃ (x10_3 : Bool) (x11_3 : Int), v10 = .bool x10_3 ∧ v11 = .int .i64 x11_3 ∧ Aside0 (swarfref04_Orders.l1 kq l1 l2 x7_1 false x9_1 x10_3 x11_3 l0_0 a0_1 l0_2 a0_3 l0_4 = some r) ∧ Aside0 (kq ≤ kj5) ∧ Aside0 (Kd.V (Kd.int .i64) 3 w' w.heap.size (fun k_ => (P2_ k_ ∨ w.heap.size ≤ k_) ∧ some k_ ≠ (u7 : Value).ownBlock ∧ k_ ≠ gb376) (.slice A2 l2.length c2) l2) ∧ Aside0 (Kd.N (Kd.slice 3 (Kd.int .i64)) 24 w' w.heap.size (fun k_ => (P2_ k_ ∨ w.heap.size ≤ k_) ∧ k_ ≠ gb376) u7 x7_1) ∧ Aside0 (w'.heap[gb376]? = some (.cells #[(.slice A0_0 l0_0.length c0_0), .int .i64 a0_1, (.slice A0_2 l0_2.length c0_2), .int .i64 a0_3, (.slice A0_4 l0_4.length c0_4)] 26 (0, 0))) ∧ Aside0 (Below w.heap.size w w'))
       case atStart => exact ⟨(true), (0), (by first | rfl | (simp; done) | (simp [*]; done)), (by first | rfl | (simp; done) | (simp [*]; done)), H', ⟨Nat.le_refl _⟩, ⟨by (with_reducible repeat (first | apply Kd.V_alloc | apply Kd.V_drewN | apply Kd.V_drew)); exact HO_2.out⟩, ⟨by (with_reducible repeat (first | apply Kd.N_alloc | apply Kd.N_drewN | apply Kd.N_drew)); exact HO_7.out⟩, ⟨blk_x BK376.out⟩, ⟨by exact below_y HB.out⟩⟩
       case round =>
        clear H'
        obtain ⟨x10_3, x11_3, rfl, rfl, HA, HK3, HO_2, HO_7, BK376, HB⟩ := hrel
        cases gk with
        | zero => exact absurd HA.out (by simp [swarfref04_Orders.l1])
        | succ k3 =>
         have H := HA.out
         clear HA
         simp only [swarfref04_Orders.l1] at H
         by_cases c12 : 0 ≤ x9_1
         ·
          rw [if_pos c12] at H
          have c12b0 : decide (0 ≤ x9_1) = true := decide_eq_true c12
          clear c12
          by_cases c13 : x9_1 < (l0_0.length : Int)
          ·
           rw [if_pos c13] at H
           have c13b0 : decide (x9_1 < (l0_0.length : Int)) = true := decide_eq_true c13
           clear c13
           by_cases c14 : x11_3 < (((rd_T50 l0_0 x9_1).f0).length : Int)
           ·
            rw [if_pos c14] at H
            have c14b0 : decide (x11_3 < (((rd_T50 l0_0 x9_1).f0).length : Int)) = true := decide_eq_true c14
            clear c14
            by_cases c15 : 0 ≤ x11_3
            ·
             rw [if_pos c15] at H
             have c15b0 : decide (0 ≤ x11_3) = true := decide_eq_true c15
             clear c15
             by_cases c16 : x10_3 = true
             ·
              subst c16
              have H1 : (if 0 ≤ (rd ((rd_T50 l0_0 x9_1).f0) x11_3) then (if (rd ((rd_T50 l0_0 x9_1).f0) x11_3) < (l1.length : Int) then (if (rdOf false l1 (rd ((rd_T50 l0_0 x9_1).f0) x11_3) = true) then ((swarfref04_has.f k3 l2 (rd ((rd_T50 l0_0 x9_1).f0) x11_3)).bind fun t386 => (swarfref04_Orders.l1 k3 l1 l2 x7_1 false x9_1 t386 (wrap64 (x11_3 + 1)) l0_0 a0_1 l0_2 a0_3 l0_4)) else (swarfref04_Orders.l1 k3 l1 l2 x7_1 false x9_1 true (wrap64 (x11_3 + 1)) l0_0 a0_1 l0_2 a0_3 l0_4)) else (none)) else (none)) = some r := by rw [if_pos rfl] at H; exact H
              clear H
              have H := H1
              clear H1
              by_cases c17 : 0 ≤ (rd ((rd_T50 l0_0 x9_1).f0) x11_3)
              ·
               rw [if_pos c17] at H
               have c17b0 : decide (0 ≤ (rd ((rd_T50 l0_0 x9_1).f0) x11_3)) = true := decide_eq_true c17
               clear c17
               by_cases c18 : (rd ((rd_T50 l0_0 x9_1).f0) x11_3) < (l1.length : Int)
               ·
                rw [if_pos c18] at H
                have c18b0 : decide ((rd ((rd_T50 l0_0 x9_1).f0) x11_3) < (l1.length : Int)) = true := decide_eq_true c18
                clear c18
                obtain ⟨bq19, hbq19⟩ : ∃ b_ : Bool, b_ = (rdOf false l1 (rd ((rd_T50 l0_0 x9_1).f0) x11_3)) := ⟨_, rfl⟩
                replace H : (if (bq19 = true) then ((swarfref04_has.f k3 l2 (rd ((rd_T50 l0_0 x9_1).f0) x11_3)).bind fun t386 => (swarfref04_Orders.l1 k3 l1 l2 x7_1 false x9_1 t386 (wrap64 (x11_3 + 1)) l0_0 a0_1 l0_2 a0_3 l0_4)) else (swarfref04_Orders.l1 k3 l1 l2 x7_1 false x9_1 true (wrap64 (x11_3 + 1)) l0_0 a0_1 l0_2 a0_3 l0_4)) = some r := by rw [← hbq19] at H; exact H
                have Nbq19 := Aside0.mk hbq19
                clear hbq19
                by_cases c20 : (bq19 = true)
                ·
                 subst c20
                 have H1 : ((swarfref04_has.f k3 l2 (rd ((rd_T50 l0_0 x9_1).f0) x11_3)).bind fun t386 => (swarfref04_Orders.l1 k3 l1 l2 x7_1 false x9_1 t386 (wrap64 (x11_3 + 1)) l0_0 a0_1 l0_2 a0_3 l0_4)) = some r := by rw [if_pos rfl] at H; exact H
                 clear H
                 have H := H1
                 clear H1
                 replace H := Option.bind_eq_some_iff.mp H
                 obtain ⟨t386, A210, H⟩ := H
                 try dsimp only at H
                 have A21 := Aside0.mk A210
                 clear A210
                 have H' := Aside0.mk H
                 clear H
                 obtain ⟨_, _, _, _, _⟩ := cz5 BK376
                 have hfz22_0 := blk_frozen BK376.out
                 have p382 : 0 ≤ (x9_1 : Int) := of_x
                 have q382 : x9_1 < (l0_0.length : Int) := of_x
                 obtain ⟨ad382, A382_0, c382_0, e382, hx382_0, hx382_1, hx382_2, hx382_3, hl382_0, hi382_0⟩ := at_T50 HR0_0.out x9_1 p382 q382
                 (try rw [← Nbq19.out] at hx382_1)
                 cases e382
                 replace hx382_0 := cell_x HB hx382_0
                 replace hx382_1 := cell_x HB hx382_1
                 replace hx382_2 := cell_x HB hx382_2
                 replace hx382_3 := cell_x HB hx382_3
                 have HR382_0 := Aside0.mk hi382_0
                 have HC382_0 := Aside0.mk hl382_0
                 clear hi382_0 hl382_0
                 replace p382 := eq_true p382
                 replace q382 := eq_true q382
                 have p383 : 0 ≤ (x9_1 : Int) := of_x
                 have q383 : x9_1 < (l0_0.length : Int) := of_x
                 obtain ⟨ad383, A383_0, c383_0, e383, hx383_0, hx383_1, hx383_2, hx383_3, hl383_0, hi383_0⟩ := at_T50 HR0_0.out x9_1 p383 q383
                 (try rw [← Nbq19.out] at hx383_1)
                 obtain rfl : ad382 = ad383 := (by injection e383)
                 replace hx383_0 := cell_x HB hx383_0
                 replace hx383_1 := cell_x HB hx383_1
                 replace hx383_2 := cell_x HB hx383_2
                 replace hx383_3 := cell_x HB hx383_3
                 have HR383_0 := Aside0.mk hi383_0
                 have HC383_0 := Aside0.mk hl383_0
                 clear hi383_0 hl383_0
                 replace p383 := eq_true p383
                 replace q383 := eq_true q383
                 have ea_ := Option.some.inj (hx382_0.symm.trans hx383_0)
                 injection ea_ with ea_ en_ ec_
                 subst ea_
                 subst ec_
                 clear en_
                 have p384 : 0 ≤ (x11_3 : Int) := of_x
                 have q384 : x11_3 < (((rd_T50 l0_0 x9_1).f0).length : Int) := of_x
                 obtain ⟨ad384, e384, hx384_0⟩ := Kd.at_int HR383_0.out x11_3 p384 q384
                 cases e384
                 replace hx384_0 := cell_x HB hx384_0
                 replace p384 := eq_true p384
                 replace q384 := eq_true q384
                 have p385 : 0 ≤ ((rd ((rd_T50 l0_0 x9_1).f0) x11_3) : Int) := of_x
                 have q385 : (rd ((rd_T50 l0_0 x9_1).f0) x11_3) < (l1.length : Int) := of_x
                 obtain ⟨ad385, e385, hx385_0⟩ := Kd.at_bool HR1.out (rd ((rd_T50 l0_0 x9_1).f0) x11_3) p385 q385
                 (try rw [← Nbq19.out] at hx385_0)
                 cases e385
                 replace hx385_0 := cell_x HB hx385_0
                 replace p385 := eq_true p385
                 replace q385 := eq_true q385
                 go_wp2_with (first | (go_at_call 67; (with_reducible refine (swarfref04_has.calls k3 _ _ l2 (rd ((rd_T50 l0_0 x9_1).f0) x11_3) t386 _ ?side1 ?side2 A21.out).mono ?_); (case side1 => exact Kd.C_y (Kd.V_reads' HO_2.out).2.2); (case side2 => exact (Kd.V_reads' HO_2.out).2.1); rintro e w' ⟨rfl, ⟨nd, rfl⟩⟩))
                 go_roundg k3
                 case measure => have := HK1.out; have := HJ5.out; have := HK3.out; omega
                 case rel => exact ⟨(t386), (wrap64 (x11_3 + 1)), (by first | rfl | (simp; done) | (simp [*]; done)), (by first | rfl | (simp; done) | (simp [*]; done)), H', ⟨by have := HK1.out; have := HJ5.out; have := HK3.out; omega⟩, ⟨by (with_reducible repeat (first | apply Kd.V_alloc | apply Kd.V_drewN | apply Kd.V_drew)); exact HO_2.out⟩, ⟨by (with_reducible repeat (first | apply Kd.N_alloc | apply Kd.N_drewN | apply Kd.N_drew)); exact HO_7.out⟩, ⟨blk_x BK376.out⟩, ⟨by exact below_y HB.out⟩⟩
                ·
                 replace c20 := Bool.eq_false_iff.mpr c20
                 subst c20
                 have H1 : (swarfref04_Orders.l1 k3 l1 l2 x7_1 false x9_1 true (wrap64 (x11_3 + 1)) l0_0 a0_1 l0_2 a0_3 l0_4) = some r := by rw [if_neg (show ¬ (false = true) by decide)] at H; exact H
                 clear H
                 have H := H1
                 clear H1
                 have H' := Aside0.mk H
                 clear H
                 obtain ⟨_, _, _, _, _⟩ := cz5 BK376
                 have hfz23_0 := blk_frozen BK376.out
                 have p382 : 0 ≤ (x9_1 : Int) := of_x
                 have q382 : x9_1 < (l0_0.length : Int) := of_x
                 obtain ⟨ad382, A382_0, c382_0, e382, hx382_0, hx382_1, hx382_2, hx382_3, hl382_0, hi382_0⟩ := at_T50 HR0_0.out x9_1 p382 q382
                 (try rw [← Nbq19.out] at hx382_1)
                 cases e382
                 replace hx382_0 := cell_x HB hx382_0
                 replace hx382_1 := cell_x HB hx382_1
                 replace hx382_2 := cell_x HB hx382_2
                 replace hx382_3 := cell_x HB hx382_3
                 have HR382_0 := Aside0.mk hi382_0
                 have HC382_0 := Aside0.mk hl382_0
                 clear hi382_0 hl382_0
                 replace p382 := eq_true p382
                 replace q382 := eq_true q382
                 have p383 : 0 ≤ (x9_1 : Int) := of_x
                 have q383 : x9_1 < (l0_0.length : Int) := of_x
                 obtain ⟨ad383, A383_0, c383_0, e383, hx383_0, hx383_1, hx383_2, hx383_3, hl383_0, hi383_0⟩ := at_T50 HR0_0.out x9_1 p383 q383
                 (try rw [← Nbq19.out] at hx383_1)
                 obtain rfl : ad382 = ad383 := (by injection e383)
                 replace hx383_0 := cell_x HB hx383_0
                 replace hx383_1 := cell_x HB hx383_1
                 replace hx383_2 := cell_x HB hx383_2
                 replace hx383_3 := cell_x HB hx383_3
                 have HR383_0 := Aside0.mk hi383_0
                 have HC383_0 := Aside0.mk hl383_0
                 clear hi383_0 hl383_0
                 replace p383 := eq_true p383
                 replace q383 := eq_true q383
                 have ea_ := Option.some.inj (hx382_0.symm.trans hx383_0)
                 injection ea_ with ea_ en_ ec_
                 subst ea_
                 subst ec_
                 clear en_
                 have p384 : 0 ≤ (x11_3 : Int) := of_x
                 have q384 : x11_3 < (((rd_T50 l0_0 x9_1).f0).length : Int) := of_x
                 obtain ⟨ad384, e384, hx384_0⟩ := Kd.at_int HR383_0.out x11_3 p384 q384
                 cases e384
                 replace hx384_0 := cell_x HB hx384_0
                 replace p384 := eq_true p384
                 replace q384 := eq_true q384
                 have p385 : 0 ≤ ((rd ((rd_T50 l0_0 x9_1).f0) x11_3) : Int) := of_x
                 have q385 : (rd ((rd_T50 l0_0 x9_1).f0) x11_3) < (l1.length : Int) := of_x
                 obtain ⟨ad385, e385, hx385_0⟩ := Kd.at_bool HR1.out (rd ((rd_T50 l0_0 x9_1).f0) x11_3) p385 q385
                 (try rw [← Nbq19.out] at hx385_0)
                 cases e385
                 replace hx385_0 := cell_x HB hx385_0
                 replace p385 := eq_true p385
                 replace q385 := eq_true q385
                 go_wp2
                 go_roundg k3
                 case measure => have := HK1.out; have := HJ5.out; have := HK3.out; omega
                 case rel => exact ⟨(true), (wrap64 (x11_3 + 1)), (by first | rfl | (simp; done) | (simp [*]; done)), (by first | rfl | (simp; done) | (simp [*]; done)), H', ⟨by have := HK1.out; have := HJ5.out; have := HK3.out; omega⟩, ⟨by (with_reducible repeat (first | apply Kd.V_alloc | apply Kd.V_drewN | apply Kd.V_drew)); exact HO_2.out⟩, ⟨by (with_reducible repeat (first | apply Kd.N_alloc | apply Kd.N_drewN | apply Kd.N_drew)); exact HO_7.out⟩, ⟨blk_x BK376.out⟩, ⟨by exact below_y HB.out⟩⟩
               ·
                rw [if_neg c18] at H
                exact absurd H (by simp)
              ·
               rw [if_neg c17] at H
               exact absurd H (by simp)
             ·
              replace c16 := Bool.eq_false_iff.mpr c16
              subst c16
              have H1 : (swarfref04_Orders.l1 k3 l1 l2 x7_1 false x9_1 false (wrap64 (x11_3 + 1)) l0_0 a0_1 l0_2 a0_3 l0_4) = some r := by rw [if_neg (show ¬ (false = true) by decide)] at H; exact H
              clear H
              have H := H1
              clear H1
              have H' := Aside0.mk H
              clear H
              obtain ⟨_, _, _, _, _⟩ := cz5 BK376
              have hfz24_0 := blk_frozen BK376.out
              have p382 : 0 ≤ (x9_1 : Int) := of_x
              have q382 : x9_1 < (l0_0.length : Int) := of_x
              obtain ⟨ad382, A382_0, c382_0, e382, hx382_0, hx382_1, hx382_2, hx382_3, hl382_0, hi382_0⟩ := at_T50 HR0_0.out x9_1 p382 q382
              cases e382
              replace hx382_0 := cell_x HB hx382_0
              replace hx382_1 := cell_x HB hx382_1
              replace hx382_2 := cell_x HB hx382_2
              replace hx382_3 := cell_x HB hx382_3
              have HR382_0 := Aside0.mk hi382_0
              have HC382_0 := Aside0.mk hl382_0
              clear hi382_0 hl382_0
              replace p382 := eq_true p382
              replace q382 := eq_true q382
              have p383 : 0 ≤ (x9_1 : Int) := of_x
              have q383 : x9_1 < (l0_0.length : Int) := of_x
              obtain ⟨ad383, A383_0, c383_0, e383, hx383_0, hx383_1, hx383_2, hx383_3, hl383_0, hi383_0⟩ := at_T50 HR0_0.out x9_1 p383 q383
              obtain rfl : ad382 = ad383 := (by injection e383)
              replace hx383_0 := cell_x HB hx383_0
              replace hx383_1 := cell_x HB hx383_1
              replace hx383_2 := cell_x HB hx383_2
              replace hx383_3 := cell_x HB hx383_3
              have HR383_0 := Aside0.mk hi383_0
              have HC383_0 := Aside0.mk hl383_0
              clear hi383_0 hl383_0
              replace p383 := eq_true p383
              replace q383 := eq_true q383
              have ea_ := Option.some.inj (hx382_0.symm.trans hx383_0)
              injection ea_ with ea_ en_ ec_
              subst ea_
              subst ec_
              clear en_
              have p384 : 0 ≤ (x11_3 : Int) := of_x
              have q384 : x11_3 < (((rd_T50 l0_0 x9_1).f0).length : Int) := of_x
              obtain ⟨ad384, e384, hx384_0⟩ := Kd.at_int HR383_0.out x11_3 p384 q384
              cases e384
              replace hx384_0 := cell_x HB hx384_0
              replace p384 := eq_true p384
              replace q384 := eq_true q384
              go_wp2
              go_roundg k3
              case measure => have := HK1.out; have := HJ5.out; have := HK3.out; omega
              case rel => exact ⟨(false), (wrap64 (x11_3 + 1)), (by first | rfl | (simp; done) | (simp [*]; done)), (by first | rfl | (simp; done) | (simp [*]; done)), H', ⟨by have := HK1.out; have := HJ5.out; have := HK3.out; omega⟩, ⟨by (with_reducible repeat (first | apply Kd.V_alloc | apply Kd.V_drewN | apply Kd.V_drew)); exact HO_2.out⟩, ⟨by (with_reducible repeat (first | apply Kd.N_alloc | apply Kd.N_drewN | apply Kd.N_drew)); exact HO_7.out⟩, ⟨blk_x BK376.out⟩, ⟨by exact below_y HB.out⟩⟩
            ·
             rw [if_neg c15] at H
             exact absurd H (by simp)
           ·
            rw [if_neg c14] at H
            have c14b0 : decide (x11_3 < (((rd_T50 l0_0 x9_1).f0).length : Int)) = false := decide_eq_false c14
            clear c14
            by_cases c25 : x10_3 = true
            ·
             subst c25
             have H1 : ((some (([] : List Int) : List Int)).bind fun y387 => (if y387.length + l2.length < 17592186044416 then ((some (y387 ++ l2 : List Int)).bind fun y390 => ((some (([x9_1] : List Int) : List Int)).bind fun y393 => (if y390.length + y393.length < 17592186044416 then ((swarfref04_Orders.f k3 l0_0 a0_1 l0_2 a0_3 l0_4 l1 (y390 ++ y393)).bind fun t399 => (if x7_1.length + t399.length < 5864062014805 then (swarfref04_Orders.l0 k3 l1 l2 (x7_1 ++ t399) false (wrap64 (x9_1 + 1)) l0_0 a0_1 l0_2 a0_3 l0_4) else (none))) else (none)))) else (none))) = some r := by rw [if_pos rfl] at H; exact H
             clear H
             have H := H1
             clear H1
             obtain ⟨y387, hy387⟩ : ∃ y_ : List Int, y_ = (([] : List Int)) := ⟨_, rfl⟩
             replace H : (if y387.length + l2.length < 17592186044416 then ((some (y387 ++ l2 : List Int)).bind fun y390 => ((some (([x9_1] : List Int) : List Int)).bind fun y393 => (if y390.length + y393.length < 17592186044416 then ((swarfref04_Orders.f k3 l0_0 a0_1 l0_2 a0_3 l0_4 l1 (y390 ++ y393)).bind fun t399 => (if x7_1.length + t399.length < 5864062014805 then (swarfref04_Orders.l0 k3 l1 l2 (x7_1 ++ t399) false (wrap64 (x9_1 + 1)) l0_0 a0_1 l0_2 a0_3 l0_4) else (none))) else (none)))) else (none)) = some r := by first | (rw [hy387]; with_reducible exact H) | (have H2_ := (Option.bind_some _ _).symm.trans H; rw [hy387]; with_reducible exact H2_) | (have H2_ := (Option.bind_some _ _).symm.trans H; with_reducible exact H2_) | with_reducible exact H | (rw [hy387]; exact H) | exact H
             have Ny387 := Aside0.mk hy387
             clear hy387
             by_cases c26 : y387.length + l2.length < 17592186044416
             ·
              rw [if_pos c26] at H
              have LMc26 := Aside0.mk c26
              clear c26
              obtain ⟨y390, hy390⟩ : ∃ y_ : List Int, y_ = (y387 ++ l2) := ⟨_, rfl⟩
              replace H : ((some (([x9_1] : List Int) : List Int)).bind fun y393 => (if y390.length + y393.length < 17592186044416 then ((swarfref04_Orders.f k3 l0_0 a0_1 l0_2 a0_3 l0_4 l1 (y390 ++ y393)).bind fun t399 => (if x7_1.length + t399.length < 5864062014805 then (swarfref04_Orders.l0 k3 l1 l2 (x7_1 ++ t399) false (wrap64 (x9_1 + 1)) l0_0 a0_1 l0_2 a0_3 l0_4) else (none))) else (none))) = some r := by first | (rw [hy390]; with_reducible exact H) | (have H2_ := (Option.bind_some _ _).symm.trans H; rw [hy390]; with_reducible exact H2_) | (have H2_ := (Option.bind_some _ _).symm.trans H; with_reducible exact H2_) | with_reducible exact H | (rw [hy390]; exact H) | exact H
              have Ny390 := Aside0.mk hy390
              clear hy390
              obtain ⟨y393, hy393⟩ : ∃ y_ : List Int, y_ = (([x9_1] : List Int)) := ⟨_, rfl⟩
              replace H : (if y390.length + y393.length < 17592186044416 then ((swarfref04_Orders.f k3 l0_0 a0_1 l0_2 a0_3 l0_4 l1 (y390 ++ y393)).bind fun t399 => (if x7_1.length + t399.length < 5864062014805 then (swarfref04_Orders.l0 k3 l1 l2 (x7_1 ++ t399) false (wrap64 (x9_1 + 1)) l0_0 a0_1 l0_2 a0_3 l0_4) else (none))) else (none)) = some r := by first | (rw [hy393]; with_reducible exact H) | (have H2_ := (Option.bind_some _ _).symm.trans H; rw [hy393]; with_reducible exact H2_) | (have H2_ := (Option.bind_some _ _).symm.trans H; with_reducible exact H2_) | with_reducible exact H | (rw [hy393]; exact H) | exact H
              have Ny393 := Aside0.mk hy393
              clear hy393
              by_cases c27 : y390.length + y393.length < 17592186044416
              ·
               rw [if_pos c27] at H
               have LMc27 := Aside0.mk c27
               clear c27
               obtain ⟨y396, hy396⟩ : ∃ y_ : List Int, y_ = (y390 ++ y393) := ⟨_, rfl⟩
               replace H : ((swarfref04_Orders.f k3 l0_0 a0_1 l0_2 a0_3 l0_4 l1 y396).bind fun t399 => (if x7_1.length + t399.length < 5864062014805 then (swarfref04_Orders.l0 k3 l1 l2 (x7_1 ++ t399) false (wrap64 (x9_1 + 1)) l0_0 a0_1 l0_2 a0_3 l0_4) else (none))) = some r := by first | (rw [hy396]; with_reducible exact H) | (have H2_ := (Option.bind_some _ _).symm.trans H; rw [hy396]; with_reducible exact H2_) | (have H2_ := (Option.bind_some _ _).symm.trans H; with_reducible exact H2_) | with_reducible exact H | (rw [hy396]; exact H) | exact H
               have Ny396 := Aside0.mk hy396
               clear hy396
               replace H := Option.bind_eq_some_iff.mp H
               obtain ⟨t399, A280, H⟩ := H
               try dsimp only at H
               have A28 := Aside0.mk A280
               clear A280
               by_cases c29 : x7_1.length + t399.length < 5864062014805
               ·
                rw [if_pos c29] at H
                have LMc29 := Aside0.mk c29
                clear c29
                obtain ⟨y402, hy402⟩ : ∃ y_ : List (List Int), y_ = (x7_1 ++ t399) := ⟨_, rfl⟩
                replace H : (swarfref04_Orders.l0 k3 l1 l2 y402 false (wrap64 (x9_1 + 1)) l0_0 a0_1 l0_2 a0_3 l0_4) = some r := by first | (rw [hy402]; with_reducible exact H) | (have H2_ := (Option.bind_some _ _).symm.trans H; rw [hy402]; with_reducible exact H2_) | (have H2_ := (Option.bind_some _ _).symm.trans H; with_reducible exact H2_) | with_reducible exact H | (rw [hy402]; exact H) | exact H
                have Ny402 := Aside0.mk hy402
                clear hy402
                have H' := Aside0.mk H
                clear H
                obtain ⟨_, _, _, _, _⟩ := cz5 BK376
                have hfz30_0 := blk_frozen BK376.out
                have p382 : 0 ≤ (x9_1 : Int) := of_x
                have q382 : x9_1 < (l0_0.length : Int) := of_x
                obtain ⟨ad382, A382_0, c382_0, e382, hx382_0, hx382_1, hx382_2, hx382_3, hl382_0, hi382_0⟩ := at_T50 HR0_0.out x9_1 p382 q382
                cases e382
                replace hx382_0 := cell_x HB hx382_0
                replace hx382_1 := cell_x HB hx382_1
                replace hx382_2 := cell_x HB hx382_2
                replace hx382_3 := cell_x HB hx382_3
                have HR382_0 := Aside0.mk hi382_0
                have HC382_0 := Aside0.mk hl382_0
                clear hi382_0 hl382_0
                replace p382 := eq_true p382
                replace q382 := eq_true q382
                obtain ⟨Ao31, co31, eo31⟩ := Kd.N_slice HO_7.out
                subst eo31
                try go_wp2
                replace HO_2 := Aside0.mk (Kd.V_drew HO_2.out)
                replace HO_7 := Aside0.mk (Kd.N_drew HO_7.out)
                replace BK376 := Aside0.mk (blk_drew BK376.out)
                replace HB := Aside0.mk (below_drew1 HB.out)
                refine start_ (n := 12) (S := fun w' => w'.cell? ⟨gb376, 0, none⟩ = some (.slice (some ad382) l0_0.length c0_0) ∧ w'.cell? ⟨gb376, 1, none⟩ = some (.int .i64 a0_1) ∧ w'.cell? ⟨gb376, 2, none⟩ = some (.slice A0_2 l0_2.length c0_2) ∧ w'.cell? ⟨gb376, 3, none⟩ = some (.int .i64 a0_3) ∧ w'.cell? ⟨gb376, 4, none⟩ = some (.slice A0_4 l0_4.length c0_4)) (ds := []) #[false, false, false, false, false, false, false, false, false, false, false, false] (by kernel_rfl) rfl rfl ⟨(blk_cell BK376.out 0).trans rfl, (blk_cell BK376.out 1).trans rfl, (blk_cell BK376.out 2).trans rfl, (blk_cell BK376.out 3).trans rfl, (blk_cell BK376.out 4).trans rfl⟩ (fun hHeld => ?_); refine with_tabW swarfref04_Orders.tab15 swarfref04_Orders.bits15 (fun HT_ HW_ => ?_)
                generalize wr.drew = w32 at HO_2 HO_7 BK376 HB hHeld ⊢
                refine pure_ (i := 0) (N := some 63) (v := ?_) (a' := ?_) (bz 12 1) rfl rfl (any_of HT_.out (by kernel_rfl)) (fun _ _ _ h => h) (Or.inl ⟨by rfl, ?_⟩) ?_ ?_
                rotate_left
                ·
                 intro w'
                 go_simp
                 with_reducible rfl
                rotate_left
                ·
                 simp only [Act.put, put_x, i64_w, i32_w]
                 rfl
                refine pure_ (i := 2) (N := some 65) (v := ?_) (a' := ?_) (bz 12 5) rfl rfl (any_of HT_.out (by kernel_rfl)) (fun _ _ _ h => h) (Or.inl ⟨by rfl, ?_⟩) ?_ ?_
                rotate_left
                ·
                 intro w'
                 go_simp
                 with_reducible rfl
                rotate_left
                ·
                 simp only [Act.put, put_x, i64_w, i32_w]
                 rfl
                refine pure_ (i := 4) (N := some 67) (v := ?_) (a' := ?_) (bz 12 21) rfl rfl (any_of HT_.out (by kernel_rfl)) (fun _ _ _ h => h) (Or.inl ⟨by rfl, ?_⟩) ?_ ?_
                rotate_left
                ·
                 intro w'
                 go_simp
                 with_reducible rfl
                rotate_left
                ·
                 simp only [Act.put, put_x, i64_w, i32_w]
                 rfl
                refine pure_ (i := 6) (N := some 69) (v := ?_) (a' := ?_) (bz 12 85) rfl rfl (any_of HT_.out (by kernel_rfl)) (fun _ _ _ h => h) (Or.inl ⟨by rfl, ?_⟩) ?_ ?_
                rotate_left
                ·
                 intro w'
                 go_simp
                 with_reducible rfl
                rotate_left
                ·
                 simp only [Act.put, put_x, i64_w, i32_w]
                 rfl
                refine take_ (i := 1) (N := some 64) (v := ?_) (a' := ?_) (bz 12 87) rfl rfl (take_ofW HT_.out HW_.out (by kernel_rfl)) (fun _ _ _ h => h) (Or.inl ⟨by rfl, ?_⟩) hHeld ?_ ?_
                rotate_left
                ·
                 rintro w' ⟨s0, s1, s2, s3, s4⟩
                 go_simp
                 with_reducible rfl
                rotate_left
                ·
                 simp only [Act.put, put_x, i64_w, i32_w]
                 rfl
                refine join_ (σ := Value × Value × Value) 4 (bz 12 255) (fun s_ => [(66, s_.1), (68, s_.2.1), (70, s_.2.2)]) (fun s_ w' => (w'.cell? ⟨gb376, 0, none⟩ = some (.slice (some ad382) l0_0.length c0_0) ∧ w'.cell? ⟨gb376, 1, none⟩ = some (.int .i64 a0_1) ∧ w'.cell? ⟨gb376, 2, none⟩ = some (.slice A0_2 l0_2.length c0_2) ∧ w'.cell? ⟨gb376, 3, none⟩ = some (.int .i64 a0_3) ∧ w'.cell? ⟨gb376, 4, none⟩ = some (.slice A0_4 l0_4.length c0_4)) ∧ (Kd.R (Kd.int .i64) 3 w' w.heap.size (fun k_ => (w.heap.size ≤ k_) ∧ some k_ ≠ (s_.2.2 : Value).ownBlock) s_.2.1 y390) ∧ (Kd.R (Kd.int .i64) 3 w' w.heap.size (fun k_ => (w.heap.size ≤ k_) ∧ some k_ ≠ (s_.2.1 : Value).ownBlock) s_.2.2 y393) ∧ (Kd.V (Kd.int .i64) 3 w' w.heap.size (fun k_ => (P2_ k_ ∨ w.heap.size ≤ k_) ∧ some k_ ≠ (s_.2.1 : Value).ownBlock ∧ some k_ ≠ (s_.2.2 : Value).ownBlock ∧ some k_ ≠ (.slice Ao31 x7_1.length co31 : Value).ownBlock ∧ k_ ≠ gb376) (.slice A2 l2.length c2) l2) ∧ (Kd.N (Kd.slice 3 (Kd.int .i64)) 24 w' w.heap.size (fun k_ => (P2_ k_ ∨ w.heap.size ≤ k_) ∧ some k_ ≠ (s_.2.1 : Value).ownBlock ∧ some k_ ≠ (s_.2.2 : Value).ownBlock ∧ k_ ≠ gb376) (.slice Ao31 x7_1.length co31) x7_1) ∧ (w'.heap[gb376]? = some (.cells #[.slice (some ad382) l0_0.length c0_0, .int .i64 a0_1, .slice A0_2 l0_2.length c0_2, .int .i64 a0_3, .slice A0_4 l0_4.length c0_4] 26 (0, 0))) ∧ (Below w.heap.size w w')) ?_ ?_
                rotate_left
                ·
                 intro hCont
                 refine two_ (i := 3) (j := 7) (Ni := some 66) (Nj := some 70) (bz 12 95) #[true, true, true, false, true, false, true, true, false, false, false, false] rfl rfl rfl rfl (two_of HT_.out (by kernel_rfl)) (by decide) (by decide) (fun K hK => ?_) (fun K hK => ?_)
                 ·
                  skip
                  refine Kd.R_lit_step (Kd.int .i64) _ 3 ?hg (N := 66) ?hd (xs := ([] : List Int)) (inner := []) (ok := fun _ => True) (okp := fun _ => True) ?hr ?hp (fun _ hk => hk) trivial (Below.refl _ _) (Nat.le_refl _) (by simp) ?_; (case hd => rfl); (case hg => rfl); (case hr => first | (go_simp; done) | (go_simp; rfl)); (case hp => exact (Reps.none _ _))
                  intro v388 w33 ho34 hb hg_ hnew_
                  clear hg_ hnew_
                  (first | rw [← Ny387.out] at ho34 | (simp only [Int.reduceToNat] at ho34; rw [← Ny387.out] at ho34))
                  replace HO_2 := Aside0.mk (Kd.V_elder' (Kd.V_x HO_2.out) (Kd.R_base ho34) hb)
                  replace HO_7 := Aside0.mk (Kd.N_elder' (Kd.N_x HO_7.out) (Kd.R_base ho34) hb)
                  have HO389 := Aside0.mk (Kd.R_lower (Kd.R_newM (M := fun k_ => (w.heap.size ≤ k_)) ho34 (below_size (by exact below_y HB.out)) (fun k_ h_ => h_)) (below_size (by exact below_y HB.out)))
                  replace BK376 := Aside0.mk (blk_below (blk_x BK376.out) hb)
                  replace HB := bl_x HB hb
                  clear hb ho34
                  refine hK.out _ _ ⟨(blk_cell BK376.out 0).trans rfl, (blk_cell BK376.out 1).trans rfl, (blk_cell BK376.out 2).trans rfl, (blk_cell BK376.out 3).trans rfl, (blk_cell BK376.out 4).trans rfl⟩ (fun hHeld => ?_)
                  clear hK K
                  refine norm_ (a' := ?_) ?_ ?_
                  rotate_left
                  ·
                   show Act.put _ (some 66) _ = _
                   simp only [Act.put, put_x, i64_w, i32_w]
                   rfl
                  refine two_ (i := 5) (j := 7) (Ni := some 68) (Nj := some 70) (bz 12 127) #[true, true, true, true, true, false, true, true, false, false, false, false] rfl rfl rfl rfl (two_of HT_.out (by kernel_rfl)) (by decide) (by decide) (fun K hK => ?_) (fun K hK => ?_)
                  ·
                   skip
                   refine Kd.R_append_rows_step (Kd.int .i64) (w0 := w) w.heap.size (by rfl) (.tmp 66) (.tmp 67) 24 3 (.int .i64 0) 8 rfl Try.underlying24 info3 rfl (by decide) (by omega) v388 y387 l2 _ _ _ (fun k_ => (w.heap.size ≤ k_)) (fun _ => False) rfl rfl ?aO ?aR (fun _ _ h => h) (fun _ h => h.elim) ?aF ?aB ?aS ?aL ?_
                   (case aR => exact Kd.C_y (Kd.V_reads' HO_2.out).2.2)
                   (case aB => exact (by exact below_y HB.out))
                   (case aF => exact (fun k_ hk => (Nat.le_trans (below_size (by exact below_y HB.out)) hk)))
                   (case aO => exact (by (with_reducible repeat (first | apply Kd.R_alloc | apply Kd.R_drewN | apply Kd.R_drew)); exact Kd.R_mono HO389.out (fun _ hk => hk.1)))
                   (case aS => exact (below_size (by exact below_y HB.out)))
                   (case aL => have := LMc26.out; omega)
                   intro v391 w35 ho hb hg hat
                   rw [← Ny390.out] at ho
                   replace HO_2 := Aside0.mk (Kd.V_afterv (ok := (fun k_ => (P2_ k_ ∨ w.heap.size ≤ k_) ∧ some k_ ≠ (.slice Ao31 x7_1.length co31 : Value).ownBlock ∧ k_ ≠ gb376)) (Kd.V_x HO_2.out) hg hat)
                   replace HO_7 := Aside0.mk (Kd.N_afterv (ok := (fun k_ => (P2_ k_ ∨ w.heap.size ≤ k_) ∧ k_ ≠ gb376)) (Kd.N_x HO_7.out) hg hat)
                   replace BK376 := Aside0.mk (blk_grown (blk_x BK376.out) hg (Kd.R_ne HO389.out BK376.out (by decide)))
                   replace HB := Aside0.mk (hb)
                   have HO392 := Aside0.mk (ho)
                   clear HO389 ho hb hg hat
                   refine hK.out _ _ ⟨(blk_cell BK376.out 0).trans rfl, (blk_cell BK376.out 1).trans rfl, (blk_cell BK376.out 2).trans rfl, (blk_cell BK376.out 3).trans rfl, (blk_cell BK376.out 4).trans rfl⟩ (fun hHeld => ?_)
                   clear hK K
                   refine norm_ (a' := ?_) ?_ ?_
                   rotate_left
                   ·
                    show Act.put _ (some 68) _ = _
                    simp only [Act.put, put_x, i64_w, i32_w]
                    rfl
                   refine one_ (i := 7) (N := some 70) (bz 12 255) rfl rfl (one_of HT_.out (by kernel_rfl)) (by decide) (fun K hK => ?_)
                   refine Kd.R_lit_step (Kd.int .i64) _ 3 ?hg (N := 70) ?hd (xs := ([x9_1] : List Int)) (inner := [.int .i64 x9_1]) (ok := fun _ => True) (okp := fun _ => True) ?hr ?hp (fun _ hk => hk) trivial (Below.refl _ _) (Nat.le_refl _) (by simp) ?_; (case hd => rfl); (case hg => rfl); (case hr => first | (go_simp; done) | (go_simp; rfl)); (case hp => exact (Reps.one (show Kd.M (Kd.int .i64) _ _ _ x9_1 [.int .i64 x9_1] from rfl) (Reps.none _ _)))
                   intro v394 w36 ho37 hb hg_ hnew_
                   clear hg_ hnew_
                   (first | rw [← Ny393.out] at ho37 | (simp only [Int.reduceToNat] at ho37; rw [← Ny393.out] at ho37))
                   replace HO_2 := Aside0.mk (Kd.V_elder' (Kd.V_x HO_2.out) (Kd.R_base ho37) hb)
                   replace HO_7 := Aside0.mk (Kd.N_elder' (Kd.N_x HO_7.out) (Kd.R_base ho37) hb)
                   have HO395 := Aside0.mk (Kd.R_lower (Kd.R_new' (Kd.R_newM (M := fun k_ => (w.heap.size ≤ k_)) ho37 (below_size (by exact below_y HB.out)) (fun k_ h_ => h_)) (Kd.R_lt (Kd.R_x HO392.out))) (below_size (by exact below_y HB.out)))
                   replace HO392 := Aside0.mk (Kd.R_elder' (Kd.R_x HO392.out) (Kd.R_base ho37) hb)
                   replace BK376 := Aside0.mk (blk_below (blk_x BK376.out) hb)
                   replace HB := bl_x HB hb
                   clear hb ho37
                   refine hK.out _ _ ⟨(blk_cell BK376.out 0).trans rfl, (blk_cell BK376.out 1).trans rfl, (blk_cell BK376.out 2).trans rfl, (blk_cell BK376.out 3).trans rfl, (blk_cell BK376.out 4).trans rfl⟩ (fun hHeld => ?_)
                   clear hK K
                   refine norm_ (a' := ?_) ?_ ?_
                   rotate_left
                   ·
                    show Act.put _ (some 70) _ = _
                    simp only [Act.put, put_x, i64_w, i32_w]
                    rfl
                   exact norm_ (by simp only [putAll, Act.put, put_x]) (hCont (v388, v391, v394) _ ⟨hHeld, (Kd.R_x HO392.out), (by (with_reducible repeat (first | apply Kd.R_alloc | apply Kd.R_drewN | apply Kd.R_drew)); exact Kd.R_mono HO395.out (fun _ hk => ⟨hk.1.1, hk.2⟩)), (by (with_reducible repeat (first | apply Kd.V_alloc | apply Kd.V_drewN | apply Kd.V_drew)); exact Kd.V_mono HO_2.out (fun _ hk => ⟨hk.1.1.1, ⟨hk.1.2, ⟨hk.2, ⟨hk.1.1.2.1, hk.1.1.2.2⟩⟩⟩⟩)), (by (with_reducible repeat (first | apply Kd.N_alloc | apply Kd.N_drewN | apply Kd.N_drew)); exact Kd.N_mono HO_7.out (fun _ hk => ⟨hk.1.1.1, ⟨hk.1.2, ⟨hk.2, hk.1.1.2⟩⟩⟩)), (blk_x BK376.out), (by exact below_y HB.out)⟩)
                  ·
                   skip
                   refine Kd.R_lit_step (Kd.int .i64) _ 3 ?hg (N := 70) ?hd (xs := ([x9_1] : List Int)) (inner := [.int .i64 x9_1]) (ok := fun _ => True) (okp := fun _ => True) ?hr ?hp (fun _ hk => hk) trivial (Below.refl _ _) (Nat.le_refl _) (by simp) ?_; (case hd => rfl); (case hg => rfl); (case hr => first | (go_simp; done) | (go_simp; rfl)); (case hp => exact (Reps.one (show Kd.M (Kd.int .i64) _ _ _ x9_1 [.int .i64 x9_1] from rfl) (Reps.none _ _)))
                   intro v394 w35 ho36 hb hg_ hnew_
                   clear hg_ hnew_
                   (first | rw [← Ny393.out] at ho36 | (simp only [Int.reduceToNat] at ho36; rw [← Ny393.out] at ho36))
                   replace HO_2 := Aside0.mk (Kd.V_elder' (Kd.V_x HO_2.out) (Kd.R_base ho36) hb)
                   replace HO_7 := Aside0.mk (Kd.N_elder' (Kd.N_x HO_7.out) (Kd.R_base ho36) hb)
                   have HO395 := Aside0.mk (Kd.R_lower (Kd.R_new' (Kd.R_newM (M := fun k_ => (w.heap.size ≤ k_)) ho36 (below_size (by exact below_y HB.out)) (fun k_ h_ => h_)) (Kd.R_lt (Kd.R_x HO389.out))) (below_size (by exact below_y HB.out)))
                   replace HO389 := Aside0.mk (Kd.R_elder' (Kd.R_x HO389.out) (Kd.R_base ho36) hb)
                   replace BK376 := Aside0.mk (blk_below (blk_x BK376.out) hb)
                   replace HB := bl_x HB hb
                   clear hb ho36
                   refine hK.out _ _ ⟨(blk_cell BK376.out 0).trans rfl, (blk_cell BK376.out 1).trans rfl, (blk_cell BK376.out 2).trans rfl, (blk_cell BK376.out 3).trans rfl, (blk_cell BK376.out 4).trans rfl⟩ (fun hHeld => ?_)
                   clear hK K
                   refine norm_ (a' := ?_) ?_ ?_
                   rotate_left
                   ·
                    show Act.put _ (some 70) _ = _
                    simp only [Act.put, put_x, i64_w, i32_w]
                    rfl
                   refine one_ (i := 5) (N := some 68) (bz 12 255) rfl rfl (one_of HT_.out (by kernel_rfl)) (by decide) (fun K hK => ?_)
                   refine Kd.R_append_rows_step (Kd.int .i64) (w0 := w) w.heap.size (by rfl) (.tmp 66) (.tmp 67) 24 3 (.int .i64 0) 8 rfl Try.underlying24 info3 rfl (by decide) (by omega) v388 y387 l2 _ _ _ (fun k_ => (w.heap.size ≤ k_) ∧ some k_ ≠ (v394 : Value).ownBlock) (fun _ => False) rfl rfl ?aO ?aR (fun _ _ h => h) (fun _ h => h.elim) ?aF ?aB ?aS ?aL ?_
                   (case aR => exact Kd.C_y (Kd.V_reads' HO_2.out).2.2)
                   (case aB => exact (by exact below_y HB.out))
                   (case aF => exact (fun k_ hk => ⟨(Nat.le_trans (below_size (by exact below_y HB.out)) hk), Kd.fresh' (Kd.R_lt (Kd.R_x HO395.out)) k_ hk⟩))
                   (case aO => exact (by (with_reducible repeat (first | apply Kd.R_alloc | apply Kd.R_drewN | apply Kd.R_drew)); exact Kd.R_mono HO389.out (fun _ hk => ⟨hk.1.1, hk.2⟩)))
                   (case aS => exact (below_size (by exact below_y HB.out)))
                   (case aL => have := LMc26.out; omega)
                   intro v391 w37 ho hb hg hat
                   rw [← Ny390.out] at ho
                   replace HO_2 := Aside0.mk (Kd.V_afterv (ok := (fun k_ => (P2_ k_ ∨ w.heap.size ≤ k_) ∧ some k_ ≠ (.slice Ao31 x7_1.length co31 : Value).ownBlock ∧ some k_ ≠ (v394 : Value).ownBlock ∧ k_ ≠ gb376)) (by (with_reducible repeat (first | apply Kd.V_alloc | apply Kd.V_drewN | apply Kd.V_drew)); exact Kd.V_mono HO_2.out (fun _ hk => ⟨⟨hk.1.1.1, ⟨hk.1.1.2.1, ⟨hk.2, hk.1.1.2.2⟩⟩⟩, hk.1.2⟩)) hg hat)
                   replace HO_7 := Aside0.mk (Kd.N_afterv (ok := (fun k_ => (P2_ k_ ∨ w.heap.size ≤ k_) ∧ some k_ ≠ (v394 : Value).ownBlock ∧ k_ ≠ gb376)) (by (with_reducible repeat (first | apply Kd.N_alloc | apply Kd.N_drewN | apply Kd.N_drew)); exact Kd.N_mono HO_7.out (fun _ hk => ⟨⟨hk.1.1.1, ⟨hk.2, hk.1.1.2⟩⟩, hk.1.2⟩)) hg hat)
                   replace BK376 := Aside0.mk (blk_grown (blk_x BK376.out) hg (Kd.R_ne HO389.out BK376.out (by decide)))
                   replace HO395 := Aside0.mk (Kd.R_after (ok := (fun k_ => (w.heap.size ≤ k_))) (by (with_reducible repeat (first | apply Kd.R_alloc | apply Kd.R_drewN | apply Kd.R_drew)); exact Kd.R_mono HO395.out (fun _ hk => ⟨hk.1.1, hk.2⟩)) hg hat)
                   replace HB := Aside0.mk (hb)
                   have HO392 := Aside0.mk (ho)
                   clear HO389 ho hb hg hat
                   refine hK.out _ _ ⟨(blk_cell BK376.out 0).trans rfl, (blk_cell BK376.out 1).trans rfl, (blk_cell BK376.out 2).trans rfl, (blk_cell BK376.out 3).trans rfl, (blk_cell BK376.out 4).trans rfl⟩ (fun hHeld => ?_)
                   clear hK K
                   refine norm_ (a' := ?_) ?_ ?_
                   rotate_left
                   ·
                    show Act.put _ (some 68) _ = _
                    simp only [Act.put, put_x, i64_w, i32_w]
                    rfl
                   exact norm_ (by simp only [putAll, Act.put, put_x]) (hCont (v388, v391, v394) _ ⟨hHeld, (Kd.R_x HO392.out), (Kd.R_x HO395.out), (by (with_reducible repeat (first | apply Kd.V_alloc | apply Kd.V_drewN | apply Kd.V_drew)); exact Kd.V_mono HO_2.out (fun _ hk => ⟨hk.1.1, ⟨hk.2, ⟨hk.1.2.2.1, ⟨hk.1.2.1, hk.1.2.2.2⟩⟩⟩⟩)), (by (with_reducible repeat (first | apply Kd.N_alloc | apply Kd.N_drewN | apply Kd.N_drew)); exact Kd.N_mono HO_7.out (fun _ hk => ⟨hk.1.1, ⟨hk.2, ⟨hk.1.2.1, hk.1.2.2⟩⟩⟩)), (blk_x BK376.out), (by exact below_y HB.out)⟩)
                 ·
                  skip
                  refine Kd.R_lit_step (Kd.int .i64) _ 3 ?hg (N := 70) ?hd (xs := ([x9_1] : List Int)) (inner := [.int .i64 x9_1]) (ok := fun _ => True) (okp := fun _ => True) ?hr ?hp (fun _ hk => hk) trivial (Below.refl _ _) (Nat.le_refl _) (by simp) ?_; (case hd => rfl); (case hg => rfl); (case hr => first | (go_simp; done) | (go_simp; rfl)); (case hp => exact (Reps.one (show Kd.M (Kd.int .i64) _ _ _ x9_1 [.int .i64 x9_1] from rfl) (Reps.none _ _)))
                  intro v394 w33 ho34 hb hg_ hnew_
                  clear hg_ hnew_
                  (first | rw [← Ny393.out] at ho34 | (simp only [Int.reduceToNat] at ho34; rw [← Ny393.out] at ho34))
                  replace HO_2 := Aside0.mk (Kd.V_elder' (Kd.V_x HO_2.out) (Kd.R_base ho34) hb)
                  replace HO_7 := Aside0.mk (Kd.N_elder' (Kd.N_x HO_7.out) (Kd.R_base ho34) hb)
                  have HO395 := Aside0.mk (Kd.R_lower (Kd.R_newM (M := fun k_ => (w.heap.size ≤ k_)) ho34 (below_size (by exact below_y HB.out)) (fun k_ h_ => h_)) (below_size (by exact below_y HB.out)))
                  replace BK376 := Aside0.mk (blk_below (blk_x BK376.out) hb)
                  replace HB := bl_x HB hb
                  clear hb ho34
                  refine hK.out _ _ ⟨(blk_cell BK376.out 0).trans rfl, (blk_cell BK376.out 1).trans rfl, (blk_cell BK376.out 2).trans rfl, (blk_cell BK376.out 3).trans rfl, (blk_cell BK376.out 4).trans rfl⟩ (fun hHeld => ?_)
                  clear hK K
                  refine norm_ (a' := ?_) ?_ ?_
                  rotate_left
                  ·
                   show Act.put _ (some 70) _ = _
                   simp only [Act.put, put_x, i64_w, i32_w]
                   rfl
                  refine one_ (i := 3) (N := some 66) (bz 12 223) rfl rfl (one_of HT_.out (by kernel_rfl)) (by decide) (fun K hK => ?_)
                  refine Kd.R_lit_step (Kd.int .i64) _ 3 ?hg (N := 66) ?hd (xs := ([] : List Int)) (inner := []) (ok := fun _ => True) (okp := fun _ => True) ?hr ?hp (fun _ hk => hk) trivial (Below.refl _ _) (Nat.le_refl _) (by simp) ?_; (case hd => rfl); (case hg => rfl); (case hr => first | (go_simp; done) | (go_simp; rfl)); (case hp => exact (Reps.none _ _))
                  intro v388 w35 ho36 hb hg_ hnew_
                  clear hg_ hnew_
                  (first | rw [← Ny387.out] at ho36 | (simp only [Int.reduceToNat] at ho36; rw [← Ny387.out] at ho36))
                  replace HO_2 := Aside0.mk (Kd.V_elder' (Kd.V_x HO_2.out) (Kd.R_base ho36) hb)
                  replace HO_7 := Aside0.mk (Kd.N_elder' (Kd.N_x HO_7.out) (Kd.R_base ho36) hb)
                  have HO389 := Aside0.mk (Kd.R_lower (Kd.R_new' (Kd.R_newM (M := fun k_ => (w.heap.size ≤ k_)) ho36 (below_size (by exact below_y HB.out)) (fun k_ h_ => h_)) (Kd.R_lt (Kd.R_x HO395.out))) (below_size (by exact below_y HB.out)))
                  replace HO395 := Aside0.mk (Kd.R_elder' (Kd.R_x HO395.out) (Kd.R_base ho36) hb)
                  replace BK376 := Aside0.mk (blk_below (blk_x BK376.out) hb)
                  replace HB := bl_x HB hb
                  clear hb ho36
                  refine hK.out _ _ ⟨(blk_cell BK376.out 0).trans rfl, (blk_cell BK376.out 1).trans rfl, (blk_cell BK376.out 2).trans rfl, (blk_cell BK376.out 3).trans rfl, (blk_cell BK376.out 4).trans rfl⟩ (fun hHeld => ?_)
                  clear hK K
                  refine norm_ (a' := ?_) ?_ ?_
                  rotate_left
                  ·
                   show Act.put _ (some 66) _ = _
                   simp only [Act.put, put_x, i64_w, i32_w]
                   rfl
                  refine one_ (i := 5) (N := some 68) (bz 12 255) rfl rfl (one_of HT_.out (by kernel_rfl)) (by decide) (fun K hK => ?_)
                  refine Kd.R_append_rows_step (Kd.int .i64) (w0 := w) w.heap.size (by rfl) (.tmp 66) (.tmp 67) 24 3 (.int .i64 0) 8 rfl Try.underlying24 info3 rfl (by decide) (by omega) v388 y387 l2 _ _ _ (fun k_ => (w.heap.size ≤ k_) ∧ some k_ ≠ (v394 : Value).ownBlock) (fun _ => False) rfl rfl ?aO ?aR (fun _ _ h => h) (fun _ h => h.elim) ?aF ?aB ?aS ?aL ?_
                  (case aR => exact Kd.C_y (Kd.V_reads' HO_2.out).2.2)
                  (case aB => exact (by exact below_y HB.out))
                  (case aF => exact (fun k_ hk => ⟨(Nat.le_trans (below_size (by exact below_y HB.out)) hk), Kd.fresh' (Kd.R_lt (Kd.R_x HO395.out)) k_ hk⟩))
                  (case aO => exact (by (with_reducible repeat (first | apply Kd.R_alloc | apply Kd.R_drewN | apply Kd.R_drew)); exact Kd.R_mono HO389.out (fun _ hk => ⟨hk.1.1, hk.2⟩)))
                  (case aS => exact (below_size (by exact below_y HB.out)))
                  (case aL => have := LMc26.out; omega)
                  intro v391 w37 ho hb hg hat
                  rw [← Ny390.out] at ho
                  replace HO_2 := Aside0.mk (Kd.V_afterv (ok := (fun k_ => (P2_ k_ ∨ w.heap.size ≤ k_) ∧ some k_ ≠ (.slice Ao31 x7_1.length co31 : Value).ownBlock ∧ some k_ ≠ (v394 : Value).ownBlock ∧ k_ ≠ gb376)) (by (with_reducible repeat (first | apply Kd.V_alloc | apply Kd.V_drewN | apply Kd.V_drew)); exact Kd.V_mono HO_2.out (fun _ hk => ⟨⟨hk.1.1.1, ⟨hk.1.1.2.1, ⟨hk.1.2, hk.1.1.2.2⟩⟩⟩, hk.2⟩)) hg hat)
                  replace HO_7 := Aside0.mk (Kd.N_afterv (ok := (fun k_ => (P2_ k_ ∨ w.heap.size ≤ k_) ∧ some k_ ≠ (v394 : Value).ownBlock ∧ k_ ≠ gb376)) (by (with_reducible repeat (first | apply Kd.N_alloc | apply Kd.N_drewN | apply Kd.N_drew)); exact Kd.N_mono HO_7.out (fun _ hk => ⟨⟨hk.1.1.1, ⟨hk.1.2, hk.1.1.2⟩⟩, hk.2⟩)) hg hat)
                  replace BK376 := Aside0.mk (blk_grown (blk_x BK376.out) hg (Kd.R_ne HO389.out BK376.out (by decide)))
                  replace HO395 := Aside0.mk (Kd.R_after (ok := (fun k_ => (w.heap.size ≤ k_))) (by (with_reducible repeat (first | apply Kd.R_alloc | apply Kd.R_drewN | apply Kd.R_drew)); exact Kd.R_mono HO395.out (fun _ hk => ⟨hk.1.1, hk.2⟩)) hg hat)
                  replace HB := Aside0.mk (hb)
                  have HO392 := Aside0.mk (ho)
                  clear HO389 ho hb hg hat
                  refine hK.out _ _ ⟨(blk_cell BK376.out 0).trans rfl, (blk_cell BK376.out 1).trans rfl, (blk_cell BK376.out 2).trans rfl, (blk_cell BK376.out 3).trans rfl, (blk_cell BK376.out 4).trans rfl⟩ (fun hHeld => ?_)
                  clear hK K
                  refine norm_ (a' := ?_) ?_ ?_
                  rotate_left
                  ·
                   show Act.put _ (some 68) _ = _
                   simp only [Act.put, put_x, i64_w, i32_w]
                   rfl
                  exact norm_ (by simp only [putAll, Act.put, put_x]) (hCont (v388, v391, v394) _ ⟨hHeld, (Kd.R_x HO392.out), (Kd.R_x HO395.out), (by (with_reducible repeat (first | apply Kd.V_alloc | apply Kd.V_drewN | apply Kd.V_drew)); exact Kd.V_mono HO_2.out (fun _ hk => ⟨hk.1.1, ⟨hk.2, ⟨hk.1.2.2.1, ⟨hk.1.2.1, hk.1.2.2.2⟩⟩⟩⟩)), (by (with_reducible repeat (first | apply Kd.N_alloc | apply Kd.N_drewN | apply Kd.N_drew)); exact Kd.N_mono HO_7.out (fun _ hk => ⟨hk.1.1, ⟨hk.2, ⟨hk.1.2.1, hk.1.2.2⟩⟩⟩)), (blk_x BK376.out), (by exact below_y HB.out)⟩)
                rintro ⟨v388, v391, v394⟩ w38 ⟨hS_, h0_, h1_, h2_, h3_, h4_, h5_⟩
                have n0_ : Aside0 (Kd.R (Kd.int .i64) 3 w38 w.heap.size (fun k_ => (w.heap.size ≤ k_) ∧ some k_ ≠ (v394 : Value).ownBlock) v391 y390) := ⟨h0_⟩
                have n1_ : Aside0 (Kd.R (Kd.int .i64) 3 w38 w.heap.size (fun k_ => (w.heap.size ≤ k_) ∧ some k_ ≠ (v391 : Value).ownBlock) v394 y393) := ⟨h1_⟩
                have n2_ : Aside0 (Kd.V (Kd.int .i64) 3 w38 w.heap.size (fun k_ => (P2_ k_ ∨ w.heap.size ≤ k_) ∧ some k_ ≠ (v391 : Value).ownBlock ∧ some k_ ≠ (v394 : Value).ownBlock ∧ some k_ ≠ (.slice Ao31 x7_1.length co31 : Value).ownBlock ∧ k_ ≠ gb376) (.slice A2 l2.length c2) l2) := ⟨h2_⟩
                have n3_ : Aside0 (Kd.N (Kd.slice 3 (Kd.int .i64)) 24 w38 w.heap.size (fun k_ => (P2_ k_ ∨ w.heap.size ≤ k_) ∧ some k_ ≠ (v391 : Value).ownBlock ∧ some k_ ≠ (v394 : Value).ownBlock ∧ k_ ≠ gb376) (.slice Ao31 x7_1.length co31) x7_1) := ⟨h3_⟩
                have n4_ : Aside0 (w38.heap[gb376]? = some (.cells #[.slice (some ad382) l0_0.length c0_0, .int .i64 a0_1, .slice A0_2 l0_2.length c0_2, .int .i64 a0_3, .slice A0_4 l0_4.length c0_4] 26 (0, 0))) := ⟨h4_⟩
                have n5_ : Aside0 (Below w.heap.size w w38) := ⟨h5_⟩
                clear HO_2 HO_7 BK376 HB h0_ h1_ h2_ h3_ h4_ h5_
                have HO392 := n0_
                have HO395 := n1_
                have HO_2 := n2_
                have HO_7 := n3_
                have BK376 := n4_
                have HB := n5_
                clear n0_ n1_ n2_ n3_ n4_ n5_
                have hHeld : w38.cell? ⟨gb376, 0, none⟩ = some (.slice (some ad382) l0_0.length c0_0) ∧ w38.cell? ⟨gb376, 1, none⟩ = some (.int .i64 a0_1) ∧ w38.cell? ⟨gb376, 2, none⟩ = some (.slice A0_2 l0_2.length c0_2) ∧ w38.cell? ⟨gb376, 3, none⟩ = some (.int .i64 a0_3) ∧ w38.cell? ⟨gb376, 4, none⟩ = some (.slice A0_4 l0_4.length c0_4) := hS_
                obtain ⟨Ao40, co40, eo40⟩ := Kd.R_slice HO395.out
                (first | subst eo40 | (injection eo40 with f1_ f2_ f3_; have f4_ := f1_.symm; have f5_ := f3_.symm; clear f1_ f2_ f3_; subst f4_; subst f5_))
                refine norm_ (a' := ?_) ?_ ?_
                rotate_left
                ·
                 simp only [putAll, Act.put, put_x]
                 rfl
                refine one_ (i := 8) (N := some 71) (bz 12 511) rfl rfl (one_of HT_.out (by kernel_rfl)) (by decide) (fun K hK => ?_)
                refine Kd.R_append_rows_step (Kd.int .i64) (w0 := w) w.heap.size (by rfl) (.tmp 68) (.tmp 70) 24 3 (.int .i64 0) 8 rfl Try.underlying24 info3 rfl (by decide) (by omega) v391 y390 y393 _ _ _ (fun k_ => (w.heap.size ≤ k_) ∧ some k_ ≠ (.slice Ao40 y393.length co40 : Value).ownBlock) (fun _ => False) rfl rfl ?aO ?aR (fun _ _ h => h) (fun _ h => h.elim) ?aF ?aB ?aS ?aL ?_
                (case aR => exact Kd.C_y (Kd.R_reads' HO395.out).2.2)
                (case aB => exact (by exact below_y HB.out))
                (case aF => exact (fun k_ hk => ⟨(Nat.le_trans (below_size (by exact below_y HB.out)) hk), Kd.fresh' (Kd.R_lt (Kd.R_x HO395.out)) k_ hk⟩))
                (case aO => exact (Kd.R_x HO392.out))
                (case aS => exact (below_size (by exact below_y HB.out)))
                (case aL => have := LMc27.out; omega)
                intro v397 w39 ho hb hg hat
                rw [← Ny396.out] at ho
                replace HO_2 := Aside0.mk (Kd.V_afterv (ok := (fun k_ => (P2_ k_ ∨ w.heap.size ≤ k_) ∧ some k_ ≠ (.slice Ao31 x7_1.length co31 : Value).ownBlock ∧ some k_ ≠ (.slice Ao40 y393.length co40 : Value).ownBlock ∧ k_ ≠ gb376)) (by (with_reducible repeat (first | apply Kd.V_alloc | apply Kd.V_drewN | apply Kd.V_drew)); exact Kd.V_mono HO_2.out (fun _ hk => ⟨⟨hk.1, ⟨hk.2.2.2.1, ⟨hk.2.2.1, hk.2.2.2.2⟩⟩⟩, hk.2.1⟩)) hg hat)
                replace HO_7 := Aside0.mk (Kd.N_afterv (ok := (fun k_ => (P2_ k_ ∨ w.heap.size ≤ k_) ∧ some k_ ≠ (.slice Ao40 y393.length co40 : Value).ownBlock ∧ k_ ≠ gb376)) (by (with_reducible repeat (first | apply Kd.N_alloc | apply Kd.N_drewN | apply Kd.N_drew)); exact Kd.N_mono HO_7.out (fun _ hk => ⟨⟨hk.1, ⟨hk.2.2.1, hk.2.2.2⟩⟩, hk.2.1⟩)) hg hat)
                replace BK376 := Aside0.mk (blk_grown (blk_x BK376.out) hg (Kd.R_ne HO392.out BK376.out (by decide)))
                replace HO395 := Aside0.mk (Kd.R_after (ok := (fun k_ => (w.heap.size ≤ k_))) (Kd.R_x HO395.out) hg hat)
                replace HB := Aside0.mk (hb)
                have HO398 := Aside0.mk (ho)
                clear HO392 ho hb hg hat
                obtain ⟨Ao41, co41, eo41⟩ := Kd.R_slice HO398.out
                (first | subst eo41 | (injection eo41 with f1_ f2_ f3_; have f4_ := f1_.symm; have f5_ := f3_.symm; clear f1_ f2_ f3_; subst f4_; subst f5_))
                refine hK.out _ _ ⟨(blk_cell BK376.out 0).trans rfl, (blk_cell BK376.out 1).trans rfl, (blk_cell BK376.out 2).trans rfl, (blk_cell BK376.out 3).trans rfl, (blk_cell BK376.out 4).trans rfl⟩ (fun hHeld => ?_)
                clear hK K
                refine norm_ (a' := ?_) ?_ ?_
                rotate_left
                ·
                 show Act.put _ (some 71) _ = _
                 simp only [Act.put, put_x, i64_w, i32_w]
                 rfl
                refine one_ (i := 9) (N := some 72) (bz 12 1023) rfl rfl (one_of HT_.out (by kernel_rfl)) (by decide) (fun K hK => ?_)
                refine goes_ Try.func33 (by kernel_rfl) rfl #[.agg #[.slice (some ad382) l0_0.length c0_0, .int .i64 a0_1, .slice A0_2 l0_2.length c0_2, .int .i64 a0_3, .slice A0_4 l0_4.length c0_4], .slice A1 l1.length c1, .slice Ao41 y396.length co41] (by rfl) rfl rfl (by (try simp only [List.map_toArray, List.map_cons, List.map_nil]); first | done | rfl | (simp only [List.length_drop, List.length_take]; rfl)) ?_
                with_reducible refine (ih k3 (by have := HK1.out; have := HJ5.out; have := HK3.out; omega) _ _ l0_0 a0_1 _ _ l0_2 a0_3 _ _ l0_4 _ _ l1 (fun k_ => some k_ = (.slice Ao41 y396.length co41 : Value).ownBlock) _ _ y396 t399 _ ?side1 ?side2 ?side3 ?side4 ?side5 ?side6 ?side7 ?side8 ?side9 A28.out).mono ?_
                (case side1 => exact Kd.C_x HR0_0.out HB.out)
                (case side2 => exact HC0_0.out)
                (case side3 => exact Kd.C_x HR0_2.out HB.out)
                (case side4 => exact HC0_2.out)
                (case side5 => exact Kd.C_x HR0_4.out HB.out)
                (case side6 => exact HC0_4.out)
                (case side7 => exact Kd.C_x HR1.out HB.out)
                (case side8 => exact HC1.out)
                (case side9 => exact Kd.R_V (Kd.R_tight rfl (Kd.R_types (Kd.R_apart' (HO398.out) (Kd.N_typed HO_7.out) (by decide)) BK376.out (by decide))))
                rintro e w42 ⟨v400, rfl, ho0, hb⟩
                refine ⟨_, rfl, ?_⟩
                replace HO_2 := Aside0.mk (Kd.V_elder' (Kd.V_x HO_2.out) (Kd.N_base ho0) hb)
                have HO401 := Aside0.mk (Kd.N_lower (Kd.N_mono (ok' := fun k_ => (P2_ k_ ∨ w.heap.size ≤ k_) ∧ some k_ ≠ (.slice Ao31 x7_1.length co31 : Value).ownBlock ∧ some k_ ≠ (.slice Ao40 y393.length co40 : Value).ownBlock ∧ k_ ≠ gb376) ho0 (fun k_ hk_ => ⟨Or.elim hk_ (fun hs_ => (.inr (((Kd.R_types (Kd.R_apart' (HO398.out) (Kd.N_typed HO_7.out) (by decide)) BK376.out (by decide)).1 k_ hs_.symm).1.1.1))) (fun hn_ => (.inr (Nat.le_trans (below_size (by exact below_y HB.out)) hn_))), Or.elim hk_ (fun hs_ => ((Kd.R_types (Kd.R_apart' (HO398.out) (Kd.N_typed HO_7.out) (by decide)) BK376.out (by decide)).1 k_ hs_.symm).1.2) (fun hn_ => (Kd.fresh' (Kd.N_lt (Kd.N_x HO_7.out)) k_ hn_)), Or.elim hk_ (fun hs_ => ((Kd.R_types (Kd.R_apart' (HO398.out) (Kd.N_typed HO_7.out) (by decide)) BK376.out (by decide)).1 k_ hs_.symm).1.1.2) (fun hn_ => (Kd.fresh' (Kd.R_lt (Kd.R_x HO395.out)) k_ hn_)), Or.elim hk_ (fun hs_ => ((Kd.R_types (Kd.R_apart' (HO398.out) (Kd.N_typed HO_7.out) (by decide)) BK376.out (by decide)).1 k_ hs_.symm).2) (fun hn_ => (Kd.freshB (g := gb376) (o := .cells #[.slice (some ad382) l0_0.length c0_0, .int .i64 a0_1, .slice A0_2 l0_2.length c0_2, .int .i64 a0_3, .slice A0_4 l0_4.length c0_4] 26 (0, 0)) (blk_x BK376.out) k_ hn_))⟩)) (below_size (by exact below_y HB.out)))
                replace HO_7 := Aside0.mk (Kd.N_elder' (Kd.N_x HO_7.out) (Kd.N_base ho0) hb)
                replace HO395 := Aside0.mk (Kd.R_below (Kd.R_x HO395.out) hb)
                replace HO398 := Aside0.mk (Kd.R_below (Kd.R_x HO398.out) hb)
                replace BK376 := Aside0.mk (blk_below (blk_x BK376.out) hb)
                replace HB := bl_x HB hb
                (try clear hb)
                (try clear hb2)
                (try clear hk)
                (try clear hi)
                (try clear ho0)
                obtain ⟨Ao44, co44, eo44⟩ := Kd.N_slice HO401.out
                (first | subst eo44 | (injection eo44 with f1_ f2_ f3_; have f4_ := f1_.symm; have f5_ := f3_.symm; clear f1_ f2_ f3_; subst f4_; subst f5_))
                refine hK.out _ _ ⟨(blk_cell BK376.out 0).trans rfl, (blk_cell BK376.out 1).trans rfl, (blk_cell BK376.out 2).trans rfl, (blk_cell BK376.out 3).trans rfl, (blk_cell BK376.out 4).trans rfl⟩ (fun hHeld => ?_)
                clear hK K
                refine norm_ (a' := ?_) ?_ ?_
                rotate_left
                ·
                 show Act.put _ (some 72) _ = _
                 simp only [Act.put, put_x, i64_w, i32_w]
                 rfl
                refine one_ (i := 10) (N := some 73) (bz 12 2047) rfl rfl (one_of HT_.out (by kernel_rfl)) (by decide) (fun K hK => ?_)
                refine Kd.N_append_rows_step (Kd.slice 3 (Kd.int .i64)) (w0 := w) w.heap.size (by rfl) (.tmp 63) (.tmp 72) 57 24 (.slice none 0 0) 24 rfl Try.underlying57 info24 rfl (by decide) (by omega) (.slice Ao31 x7_1.length co31) x7_1 t399 _ _ _ (fun k_ => (P2_ k_ ∨ w.heap.size ≤ k_) ∧ some k_ ≠ (.slice Ao40 y393.length co40 : Value).ownBlock ∧ k_ ≠ gb376) (fun k_ => ((fun k_ => (P2_ k_ ∨ w.heap.size ≤ k_) ∧ some k_ ≠ (.slice Ao40 y393.length co40 : Value).ownBlock ∧ k_ ≠ gb376)) k_ ∧ some k_ ≠ (.slice Ao31 x7_1.length co31 : Value).ownBlock) rfl rfl ?aO ?aR (fun _ hk => hk) ?aF ?aB ?aS ?aL ?_
                (case aR => exact (by skip; exact Kd.N_F (Kd.N_mono (ok' := (fun k_ => ((fun k_ => (P2_ k_ ∨ w.heap.size ≤ k_) ∧ some k_ ≠ (.slice Ao40 y393.length co40 : Value).ownBlock ∧ k_ ≠ gb376)) k_ ∧ some k_ ≠ (.slice Ao31 x7_1.length co31 : Value).ownBlock)) (HO401.out) (fun k_ hk => ⟨⟨hk.1, ⟨hk.2.2.1, hk.2.2.2⟩⟩, hk.2.1⟩))))
                (case aB => exact (by exact below_y HB.out))
                (case aF => exact (fun k_ hk => ⟨(.inr (Nat.le_trans (below_size (by exact below_y HB.out)) hk)), Kd.fresh' (Kd.R_lt (Kd.R_x HO395.out)) k_ hk, Kd.freshB (g := gb376) (o := .cells #[.slice (some ad382) l0_0.length c0_0, .int .i64 a0_1, .slice A0_2 l0_2.length c0_2, .int .i64 a0_3, .slice A0_4 l0_4.length c0_4] 26 (0, 0)) (blk_x BK376.out) k_ hk⟩))
                (case aO => exact (by (with_reducible repeat (first | apply Kd.N_alloc | apply Kd.N_drewN | apply Kd.N_drew)); exact Kd.N_mono HO_7.out (fun _ hk => ⟨hk.1.1.1, ⟨hk.1.1.2.1, hk.1.1.2.2⟩⟩)))
                (case aS => exact (below_size (by exact below_y HB.out)))
                (case aL => have := LMc29.out; omega)
                intro v403 w43 ho hb hg hat
                rw [← Ny402.out] at ho
                replace HO_2 := Aside0.mk (Kd.V_afterv (ok := (fun k_ => (P2_ k_ ∨ w.heap.size ≤ k_) ∧ some k_ ≠ (.slice Ao40 y393.length co40 : Value).ownBlock ∧ some k_ ≠ (.slice Ao41 y396.length co41 : Value).ownBlock ∧ some k_ ≠ (.slice Ao44 t399.length co44 : Value).ownBlock ∧ k_ ≠ gb376)) (by (with_reducible repeat (first | apply Kd.V_alloc | apply Kd.V_drewN | apply Kd.V_drew)); exact Kd.V_mono HO_2.out (fun _ hk => ⟨⟨hk.1.1.1, ⟨hk.1.1.2.2.1, ⟨hk.1.2, ⟨hk.2, hk.1.1.2.2.2⟩⟩⟩⟩, hk.1.1.2.1⟩)) hg hat)
                replace BK376 := Aside0.mk (blk_grown (blk_x BK376.out) hg (Kd.N_ne HO_7.out BK376.out (by decide)))
                replace HO395 := Aside0.mk (Kd.R_over' (Kd.R_x HO395.out) (Kd.N_typed (Kd.N_x HO_7.out)) (by decide) hg)
                replace HO398 := Aside0.mk (Kd.R_over' (Kd.R_x HO398.out) (Kd.N_typed (Kd.N_x HO_7.out)) (by decide) hg)
                replace HO401 := Aside0.mk (Kd.N_afterv (ok := (fun k_ => (P2_ k_ ∨ w.heap.size ≤ k_) ∧ some k_ ≠ (.slice Ao40 y393.length co40 : Value).ownBlock ∧ k_ ≠ gb376)) (by (with_reducible repeat (first | apply Kd.N_alloc | apply Kd.N_drewN | apply Kd.N_drew)); exact Kd.N_mono HO401.out (fun _ hk => ⟨⟨hk.1, ⟨hk.2.2.1, hk.2.2.2⟩⟩, hk.2.1⟩)) hg hat)
                replace HB := Aside0.mk (hb)
                have HO404 := Aside0.mk (ho)
                clear HO_7 ho hb hg hat
                refine hK.out _ _ ⟨(blk_cell BK376.out 0).trans rfl, (blk_cell BK376.out 1).trans rfl, (blk_cell BK376.out 2).trans rfl, (blk_cell BK376.out 3).trans rfl, (blk_cell BK376.out 4).trans rfl⟩ (fun hHeld => ?_)
                clear hK K
                refine norm_ (a' := ?_) ?_ ?_
                rotate_left
                ·
                 show Act.put _ (some 73) _ = _
                 simp only [Act.put, put_x, i64_w, i32_w]
                 rfl
                refine pure_ (i := 11) (N := some 7) (v := ?_) (a' := ?_) (bz 12 4095) rfl rfl (any_of HT_.out (by kernel_rfl)) (fun _ _ _ h => h) (Or.inl ⟨by rfl, ?_⟩) ?_ ?_
                rotate_left
                ·
                 intro w'
                 go_simp
                 with_reducible rfl
                rotate_left
                ·
                 simp only [Act.put, put_x, i64_w, i32_w]
                 rfl
                refine done_ (done_of HT_.out (by kernel_rfl)) ?_
                try go_wp2
                go_roundg k3
                case measure => have := HK1.out; have := HJ5.out; have := HK3.out; omega
                case rel => exact ⟨(y402), (false), (wrap64 (x9_1 + 1)), (by first | rfl | (simp; done) | (simp [*]; done)), (by first | rfl | (simp; done) | (simp [*]; done)), H', ⟨by have := HK1.out; have := HJ5.out; have := HK3.out; omega⟩, ⟨by (with_reducible repeat (first | apply Kd.V_alloc | apply Kd.V_drewN | apply Kd.V_drew)); exact Kd.V_mono HO_2.out (fun _ hk => ⟨hk.1.1, ⟨hk.2, hk.1.2.2.2.2⟩⟩)⟩, ⟨by (with_reducible repeat (first | apply Kd.N_alloc | apply Kd.N_drewN | apply Kd.N_drew)); exact Kd.N_mono HO404.out (fun _ hk => ⟨hk.1, hk.2.2⟩)⟩, ⟨blk_x BK376.out⟩, ⟨by exact below_y HB.out⟩⟩
               ·
                rw [if_neg c29] at H
                exact absurd H (by simp)
              ·
               rw [if_neg c27] at H
               exact absurd H (by simp)
             ·
              rw [if_neg c26] at H
              exact absurd H (by simp)
            ·
             replace c25 := Bool.eq_false_iff.mpr c25
             subst c25
             have H1 : (swarfref04_Orders.l0 k3 l1 l2 x7_1 false (wrap64 (x9_1 + 1)) l0_0 a0_1 l0_2 a0_3 l0_4) = some r := by rw [if_neg (show ¬ (false = true) by decide)] at H; exact H
             clear H
             have H := H1
             clear H1
             have H' := Aside0.mk H
             clear H
             obtain ⟨_, _, _, _, _⟩ := cz5 BK376
             have hfz45_0 := blk_frozen BK376.out
             have p382 : 0 ≤ (x9_1 : Int) := of_x
             have q382 : x9_1 < (l0_0.length : Int) := of_x
             obtain ⟨ad382, A382_0, c382_0, e382, hx382_0, hx382_1, hx382_2, hx382_3, hl382_0, hi382_0⟩ := at_T50 HR0_0.out x9_1 p382 q382
             cases e382
             replace hx382_0 := cell_x HB hx382_0
             replace hx382_1 := cell_x HB hx382_1
             replace hx382_2 := cell_x HB hx382_2
             replace hx382_3 := cell_x HB hx382_3
             have HR382_0 := Aside0.mk hi382_0
             have HC382_0 := Aside0.mk hl382_0
             clear hi382_0 hl382_0
             replace p382 := eq_true p382
             replace q382 := eq_true q382
             go_wp2
             go_roundg k3
             case measure => have := HK1.out; have := HJ5.out; have := HK3.out; omega
             case rel => exact ⟨(x7_1), (false), (wrap64 (x9_1 + 1)), (by first | rfl | (simp; done) | (simp [*]; done)), (by first | rfl | (simp; done) | (simp [*]; done)), H', ⟨by have := HK1.out; have := HJ5.out; have := HK3.out; omega⟩, ⟨by (with_reducible repeat (first | apply Kd.V_alloc | apply Kd.V_drewN | apply Kd.V_drew)); exact HO_2.out⟩, ⟨by (with_reducible repeat (first | apply Kd.N_alloc | apply Kd.N_drewN | apply Kd.N_drew)); exact HO_7.out⟩, ⟨blk_x BK376.out⟩, ⟨by exact below_y HB.out⟩⟩
          ·
           rw [if_neg c13] at H
           exact absurd H (by simp)
         ·
          rw [if_neg c12] at H
          exact absurd H (by simp)
   ·
    rw [if_neg c5] at H
    have c5b0 : decide (x9_1 < (l1.length : Int)) = false := decide_eq_false c5
    clear c5
    by_cases c46 : x8_1 = true
    ·
     subst c46
     have H1 : (some (([l2] : List (List Int)))) = some r := by rw [if_pos rfl] at H; exact H
     clear H
     have H := H1
     clear H1
     obtain ⟨y377, hy377⟩ : ∃ y_ : List (List Int), y_ = (([l2] : List (List Int))) := ⟨_, rfl⟩
     replace H : (some y377) = some r := by first | (rw [hy377]; with_reducible exact H) | (have H2_ := (Option.bind_some _ _).symm.trans H; rw [hy377]; with_reducible exact H2_) | (have H2_ := (Option.bind_some _ _).symm.trans H; with_reducible exact H2_) | with_reducible exact H | (rw [hy377]; exact H) | exact H
     have Ny377 := Aside0.mk hy377
     clear hy377
     obtain rfl := Option.some.inj H
     go_wp2_with (first | ((with_reducible refine gate_dst (N := 76) rfl ?_); refine Kd.N_lit (Kd.slice 3 (Kd.int .i64)) _ 24 ?hg (N' := 76) ?hd (xs := ([l2] : List (List Int))) (inner := [.slice A2 l2.length c2]) (ok := (fun k_ => (P2_ k_ ∨ w.heap.size ≤ k_) ∧ some k_ ≠ (u7 : Value).ownBlock ∧ k_ ≠ gb376)) (okp := (fun k_ => (P2_ k_ ∨ w.heap.size ≤ k_) ∧ some k_ ≠ (u7 : Value).ownBlock ∧ k_ ≠ gb376)) ?hr ?hp (fun _ hk => hk) ((show ∀ k_, wr.heap.size ≤ k_ → (fun k_ => (P2_ k_ ∨ w.heap.size ≤ k_) ∧ some k_ ≠ (u7 : Value).ownBlock ∧ k_ ≠ gb376) k_ from fun k_ hk => ⟨(.inr (Nat.le_trans (below_size (by exact below_y HB.out)) hk)), Kd.fresh' (Kd.N_lt (Kd.N_x HO_7.out)) k_ hk, Kd.freshB (g := gb376) (o := .cells #[.slice A0_0 l0_0.length c0_0, .int .i64 a0_1, .slice A0_2 l0_2.length c0_2, .int .i64 a0_3, .slice A0_4 l0_4.length c0_4] 26 (0, 0)) (blk_x BK376.out) k_ hk⟩) _ (Nat.le_refl _)) (Below.refl _ _) (Nat.le_refl _) (by simp) ?_; (case hd => rfl); (case hg => rfl); (case hr => first | (go_simp; done) | (go_simp; rfl)); (case hp => exact (Reps.one (show Kd.FK (Kd.slice 3 (Kd.int .i64)) _ _ l2 [.slice A2 l2.length c2] from (Kd.FK_slice_mk (Kd.V_reads' (Kd.V_mono (ok' := (fun k_ => (P2_ k_ ∨ w.heap.size ≤ k_) ∧ some k_ ≠ (u7 : Value).ownBlock ∧ k_ ≠ gb376)) (HO_2.out) (fun k_ hk => ⟨hk.1, ⟨hk.2.1, hk.2.2⟩⟩))).2.1 (Kd.V_F (Kd.V_mono (ok' := (fun k_ => (P2_ k_ ∨ w.heap.size ≤ k_) ∧ some k_ ≠ (u7 : Value).ownBlock ∧ k_ ≠ gb376)) (HO_2.out) (fun k_ hk => ⟨hk.1, ⟨hk.2.1, hk.2.2⟩⟩))))) (Reps.none _ _))); intro v378 w47 ho48 hb hg_ hnew_; clear hg_ hnew_; (first | rw [← Ny377.out] at ho48 | (simp only [Int.reduceToNat] at ho48; rw [← Ny377.out] at ho48)); replace HO_2 := Aside0.mk (Kd.V_elder' (Kd.V_x HO_2.out) (Kd.N_base ho48) hb); replace HO_7 := Aside0.mk (Kd.N_elder' (Kd.N_x HO_7.out) (Kd.N_base ho48) hb); have HO379 := Aside0.mk (Kd.N_lower ho48 (below_size (by exact below_y HB.out))); replace BK376 := Aside0.mk (blk_below (blk_x BK376.out) hb); replace HB := bl_x HB hb; clear hb ho48))
     go_ret
     exact ⟨_, by first | rfl | (simp [errW_none, errW_some] <;> rfl) | (simp [*, errW_none, errW_some] <;> rfl), by (with_reducible repeat (first | apply Kd.N_alloc | apply Kd.N_drewN | apply Kd.N_drew)); exact Kd.N_mono HO379.out (fun _ hk => hk.1), by exact below_y HB.out⟩
    ·
     replace c46 := Bool.eq_false_iff.mpr c46
     subst c46
     have H1 : (some x7_1) = some r := by rw [if_neg (show ¬ (false = true) by decide)] at H; exact H
     clear H
     have H := H1
     clear H1
     obtain rfl := Option.some.inj H
     go_wp2
     go_ret
     exact ⟨_, by first | rfl | (simp [errW_none, errW_some] <;> rfl) | (simp [*, errW_none, errW_some] <;> rfl), by (with_reducible repeat (first | apply Kd.N_alloc | apply Kd.N_drewN | apply Kd.N_drew)); exact Kd.N_mono HO_7.out (fun _ hk => hk.1), by exact below_y HB.out⟩
mutual
def swarfref04_ToDo.l0 : Nat → List Int → List Bool → Int → List (S50) → Int → List (S61) → Int → List Int → Option (List Bool)
 | 0, _, _, _, _, _, _, _, _ => none
 | k + 1, x1, x5, x6, x406000, x406001, x406002, x406003, x406004 => if x6 ≥ 0 then (if 0 ≤ x6 then (if x6 < (x5.length : Int) then (if rdOf false x5 x6 = true then (if x6 < (x1.length : Int) then (swarfref04_ToDo.j1 k x1 (x5.set (x6 : Int).toNat ((rd x1 x6) != 1)) x6 x406000 x406001 x406002 x406003 x406004) else (none)) else (if x6 < (x406000.length : Int) then (if (rd_T50 x406000 x6).f1 = true then (if x6 < (x1.length : Int) then (swarfref04_ToDo.j1 k x1 (x5.set (x6 : Int).toNat ((rd x1 x6) != 1)) x6 x406000 x406001 x406002 x406003 x406004) else (none)) else (swarfref04_ToDo.j1 k x1 (x5.set (x6 : Int).toNat false) x6 x406000 x406001 x406002 x406003 x406004)) else (none))) else (none)) else (none)) else (some x5)
def swarfref04_ToDo.j1 : Nat → List Int → List Bool → Int → List (S50) → Int → List (S61) → Int → List Int → Option (List Bool)
 | 0, _, _, _, _, _, _, _, _ => none
 | k + 1, x1, x5, x6, x406000, x406001, x406002, x406003, x406004 => swarfref04_ToDo.l1 k x1 x5 x6 0 x406000 x406001 x406002 x406003 x406004
def swarfref04_ToDo.l1 : Nat → List Int → List Bool → Int → Int → List (S50) → Int → List (S61) → Int → List Int → Option (List Bool)
 | 0, _, _, _, _, _, _, _, _, _ => none
 | k + 1, x1, x5, x6, x7, x406000, x406001, x406002, x406003, x406004 => if 0 ≤ x6 then (if x6 < (x406000.length : Int) then (if x7 < (((rd_T50 x406000 x6).f0).length : Int) then (if x6 < (x5.length : Int) then (if rdOf false x5 x6 = true then (if 0 ≤ x7 then (if 0 ≤ (rd ((rd_T50 x406000 x6).f0) x7) then (if (rd ((rd_T50 x406000 x6).f0) x7) < (x5.length : Int) then (swarfref04_ToDo.l1 k x1 (x5.set ((rd ((rd_T50 x406000 x6).f0) x7) : Int).toNat true) x6 (wrap64 (x7 + 1)) x406000 x406001 x406002 x406003 x406004) else (none)) else (none)) else (none)) else (swarfref04_ToDo.l0 k x1 x5 (wrap64 (x6 - 1)) x406000 x406001 x406002 x406003 x406004)) else (none)) else (swarfref04_ToDo.l0 k x1 x5 (wrap64 (x6 - 1)) x406000 x406001 x406002 x406003 x406004)) else (none)) else (none)
end
def swarfref04_ToDo.f (k : Nat) (l0_0 : List (S50)) (a0_1 : Int) (l0_2 : List (S61)) (a0_3 : Int) (l0_4 : List Int) (l1 : List Int) : Option (List Bool) := if 0 ≤ (l0_0.length : Int) then (if ((l0_0.length : Int) : Int).toNat ≤ 281474976710656 then (swarfref04_ToDo.l0 k l1 (List.replicate ((l0_0.length : Int) : Int).toNat false) (wrap64 ((l0_0.length : Int) - 1)) l0_0 a0_1 l0_2 a0_3 l0_4) else (none)) else (none)
theorem swarfref04_ToDo.mono_l : ∀ k, (∀ y0 y1 y2 y3 y4 y5 y6 y7, LeO (swarfref04_ToDo.l0 k y0 y1 y2 y3 y4 y5 y6 y7) (swarfref04_ToDo.l0 (k + 1) y0 y1 y2 y3 y4 y5 y6 y7)) ∧ (∀ y0 y1 y2 y3 y4 y5 y6 y7, LeO (swarfref04_ToDo.j1 k y0 y1 y2 y3 y4 y5 y6 y7) (swarfref04_ToDo.j1 (k + 1) y0 y1 y2 y3 y4 y5 y6 y7)) ∧ (∀ y0 y1 y2 y3 y4 y5 y6 y7 y8, LeO (swarfref04_ToDo.l1 k y0 y1 y2 y3 y4 y5 y6 y7 y8) (swarfref04_ToDo.l1 (k + 1) y0 y1 y2 y3 y4 y5 y6 y7 y8))
 | 0 => ⟨fun _ _ _ _ _ _ _ _ r h => by simp [swarfref04_ToDo.l0] at h, fun _ _ _ _ _ _ _ _ r h => by simp [swarfref04_ToDo.j1] at h, fun _ _ _ _ _ _ _ _ _ r h => by simp [swarfref04_ToDo.l1] at h⟩
 | k + 1 => by
  obtain ⟨ih0, ih1, ih2⟩ := swarfref04_ToDo.mono_l k
  refine ⟨?_, ?_, ?_⟩
  ·
   intro y0 y1 y2 y3 y4 y5 y6 y7
   unfold swarfref04_ToDo.l0
   repeat' first
   | (with_reducible exact ih0 _ _ _ _ _ _ _ _)
   | (with_reducible exact ih1 _ _ _ _ _ _ _ _)
   | (with_reducible exact ih2 _ _ _ _ _ _ _ _ _)
   | (with_reducible exact LeO.refl _)
   | (with_reducible exact LeO.none _)
   | (with_reducible refine LeO.ite ?_ ?_)
   | (with_reducible refine LeO.bind ?_ (fun _ => ?_))
   | exact ih0 _ _ _ _ _ _ _ _
   | exact ih1 _ _ _ _ _ _ _ _
   | exact ih2 _ _ _ _ _ _ _ _ _
   | exact LeO.none _
   | refine LeO.ite ?_ ?_
   | refine LeO.bind ?_ (fun _ => ?_)
  ·
   intro y0 y1 y2 y3 y4 y5 y6 y7
   unfold swarfref04_ToDo.j1
   repeat' first
   | (with_reducible exact ih0 _ _ _ _ _ _ _ _)
   | (with_reducible exact ih1 _ _ _ _ _ _ _ _)
   | (with_reducible exact ih2 _ _ _ _ _ _ _ _ _)
   | (with_reducible exact LeO.refl _)
   | (with_reducible exact LeO.none _)
   | (with_reducible refine LeO.ite ?_ ?_)
   | (with_reducible refine LeO.bind ?_ (fun _ => ?_))
   | exact ih0 _ _ _ _ _ _ _ _
   | exact ih1 _ _ _ _ _ _ _ _
   | exact ih2 _ _ _ _ _ _ _ _ _
   | exact LeO.none _
   | refine LeO.ite ?_ ?_
   | refine LeO.bind ?_ (fun _ => ?_)
  ·
   intro y0 y1 y2 y3 y4 y5 y6 y7 y8
   unfold swarfref04_ToDo.l1
   repeat' first
   | (with_reducible exact ih0 _ _ _ _ _ _ _ _)
   | (with_reducible exact ih1 _ _ _ _ _ _ _ _)
   | (with_reducible exact ih2 _ _ _ _ _ _ _ _ _)
   | (with_reducible exact LeO.refl _)
   | (with_reducible exact LeO.none _)
   | (with_reducible refine LeO.ite ?_ ?_)
   | (with_reducible refine LeO.bind ?_ (fun _ => ?_))
   | exact ih0 _ _ _ _ _ _ _ _
   | exact ih1 _ _ _ _ _ _ _ _
   | exact ih2 _ _ _ _ _ _ _ _ _
   | exact LeO.none _
   | refine LeO.ite ?_ ?_
   | refine LeO.bind ?_ (fun _ => ?_)
theorem swarfref04_ToDo.mono : ∀ a0 a1 a2 a3 a4 a5 k, LeO (swarfref04_ToDo.f k a0 a1 a2 a3 a4 a5) (swarfref04_ToDo.f (k + 1) a0 a1 a2 a3 a4 a5) := by
 intro a0 a1 a2 a3 a4 a5 k
 obtain ⟨ih0, ih1, ih2⟩ := swarfref04_ToDo.mono_l k
 unfold swarfref04_ToDo.f
 repeat' first
   | (with_reducible exact ih0 _ _ _ _ _ _ _ _)
   | (with_reducible exact ih1 _ _ _ _ _ _ _ _)
   | (with_reducible exact ih2 _ _ _ _ _ _ _ _ _)
   | (with_reducible exact LeO.refl _)
   | (with_reducible exact LeO.none _)
   | (with_reducible refine LeO.ite ?_ ?_)
   | (with_reducible refine LeO.bind ?_ (fun _ => ?_))
   | exact ih0 _ _ _ _ _ _ _ _
   | exact ih1 _ _ _ _ _ _ _ _
   | exact ih2 _ _ _ _ _ _ _ _ _
   | exact LeO.none _
   | refine LeO.ite ?_ ?_
   | refine LeO.bind ?_ (fun _ => ?_)
set_option maxHeartbeats 8000000 in
set_option maxRecDepth 100000 in
theorem swarfref04_ToDo.calls (k : Nat) (A0_0 : Option Addr) (c0_0 : Nat) (l0_0 : List (S50)) (a0_1 : Int) (A0_2 : Option Addr) (c0_2 : Nat) (l0_2 : List (S61)) (a0_3 : Int) (A0_4 : Option Addr) (c0_4 : Nat) (l0_4 : List Int) (A1 : Option Addr) (c1 : Nat) (l1 : List Int) (r : List Bool) (w : World) (hr0_0 : Kd.C k50 w A0_0 l0_0.length l0_0) (hc0_0 : l0_0.length ≤ c0_0) (hr0_2 : Kd.C k61 w A0_2 l0_2.length l0_2) (hc0_2 : l0_2.length ≤ c0_2) (hr0_4 : Kd.C (Kd.int .i64) w A0_4 l0_4.length l0_4) (hc0_4 : l0_4.length ≤ c0_4) (hr1 : Kd.C (Kd.int .i64) w A1 l1.length l1) (hc1 : l1.length ≤ c1) (h : swarfref04_ToDo.f k l0_0 a0_1 l0_2 a0_3 l0_4 l1 = some r) :
  Calls Try.prog 34 #[.agg #[.slice A0_0 l0_0.length c0_0, .int .i64 a0_1, .slice A0_2 l0_2.length c0_2, .int .i64 a0_3, .slice A0_4 l0_4.length c0_4], .slice A1 l1.length c1] w fun e w' => ∃ v0_ : Value, e = .returned (v0_) ∧ Kd.R Kd.bool 4 w' w.heap.size (fun _ => True) v0_ r ∧ Below w.heap.size w w' := by
 have hu26 := Try.underlying26
 have HR0_0 := Aside0.mk hr0_0
 have HC0_0 := Aside0.mk hc0_0
 clear hr0_0 hc0_0
 have HR0_2 := Aside0.mk hr0_2
 have HC0_2 := Aside0.mk hc0_2
 clear hr0_2 hc0_2
 have HR0_4 := Aside0.mk hr0_4
 have HC0_4 := Aside0.mk hc0_4
 clear hr0_4 hc0_4
 have HR1 := Aside0.mk hr1
 have HC1 := Aside0.mk hc1
 clear hr1 hc1
 have HB := Aside0.mk (Below.refl w.heap.size w)
 have H : (if 0 ≤ (l0_0.length : Int) then (if ((l0_0.length : Int) : Int).toNat ≤ 281474976710656 then (swarfref04_ToDo.l0 k l1 (List.replicate ((l0_0.length : Int) : Int).toNat false) (wrap64 ((l0_0.length : Int) - 1)) l0_0 a0_1 l0_2 a0_3 l0_4) else (none)) else (none)) = some r := h
 clear h
 by_cases c3 : 0 ≤ (l0_0.length : Int)
 ·
  rw [if_pos c3] at H
  have c3b0 := eq_true c3
  have c3b1 : decide (0 ≤ (l0_0.length : Int)) = true := decide_eq_true c3
  clear c3
  by_cases c4 : ((l0_0.length : Int) : Int).toNat ≤ 281474976710656
  ·
   rw [if_pos c4] at H
   have c4b0 := eq_true c4
   have c4b1 : decide (((l0_0.length : Int) : Int).toNat ≤ 281474976710656) = true := decide_eq_true c4
   clear c4
   obtain ⟨y406, hy406⟩ : ∃ y_ : List Bool, y_ = (List.replicate ((l0_0.length : Int) : Int).toNat false) := ⟨_, rfl⟩
   replace H : (swarfref04_ToDo.l0 k l1 y406 (wrap64 ((l0_0.length : Int) - 1)) l0_0 a0_1 l0_2 a0_3 l0_4) = some r := by first | (rw [hy406]; with_reducible exact H) | (have H2_ := (Option.bind_some _ _).symm.trans H; rw [hy406]; with_reducible exact H2_) | (have H2_ := (Option.bind_some _ _).symm.trans H; with_reducible exact H2_) | with_reducible exact H | (rw [hy406]; exact H) | exact H
   have Ny406 := Aside0.mk hy406
   clear hy406
   have H' := Aside0.mk H
   clear H
   go_enter Try.func34, Try.ntmps34
   go_wp2_with (first | ((with_reducible refine gate_dst (N := 2) rfl ?_); refine box_event ?hg (N := 2) ?hd (cs := #[.slice A0_0 l0_0.length c0_0, .int .i64 a0_1, .slice A0_2 l0_2.length c0_2, .int .i64 a0_3, .slice A0_4 l0_4.length c0_4]) (t := 26) ?hr ?_; (case hd => rfl); (case hg => rfl); (case hr => first | (go_simp; done) | (go_simp; rfl)); intro gb405 hg w5 hbox hb; have BK405 := Aside0.mk (hbox); have GW405 := Aside0.mk ((by rw [hg]; exact (below_size (below_x HB.out)) : w.heap.size ≤ gb405)); have GE405 := Aside0.mk ((by rw [hg]; exact (below_size (below_x HB.out)) : w.heap.size ≤ gb405)); replace HB := Aside0.mk (below_step (below_x HB.out) hb); clear hb hbox hg; obtain ⟨_, _, _, _, _⟩ := cz5 BK405; have hfz6_0 := blk_frozen BK405.out) | ((with_reducible refine gate_dst (N := 11) rfl ?_); refine Kd.R_make Kd.bool _ 4 rfl (N := 11) rfl 31 _ _ rfl (l0_0.length : Int) rfl rfl Try.underlying31 (.bool false) 1 info4 rfl (by decide) (by omega) false (ok := fun _ => True) (okp := fun _ => True) rfl (fun _ hk => hk) trivial (of_x) (Nat.le_trans (Nat.mul_le_mul_right _ (of_x : (l0_0.length : Int).toNat ≤ 281474976710656)) (by omega)) (Below.refl _ _) (Nat.le_refl _) ?_; intro v407 w7 ho8 hb hg_ hnew_; clear hg_ hnew_; (first | rw [← Ny406.out] at ho8 | (simp only [Int.reduceToNat] at ho8; rw [← Ny406.out] at ho8)); have HO408 := Aside0.mk (Kd.R_lower ho8 (below_size (by exact below_y HB.out))); replace BK405 := Aside0.mk (blk_below (blk_x BK405.out) hb); replace HB := bl_x HB hb; clear hb ho8; obtain ⟨_, _, _, _, _⟩ := cz5 BK405; have hfz9_0 := blk_frozen BK405.out))
   go_loopg [6] k (fun kq v6 w' => ∃ (x5_1 : List Bool) (x6_1 : Int), v6 = .int .i64 x6_1 ∧ Aside0 (swarfref04_ToDo.l0 kq l1 x5_1 x6_1 l0_0 a0_1 l0_2 a0_3 l0_4 = some r) ∧ Aside0 (kq ≤ k) ∧ Aside0 (Kd.R Kd.bool 4 w' w.heap.size (fun _ => True) v407 x5_1) ∧ Aside0 (w'.heap[gb405]? = some (.cells #[(.slice A0_0 l0_0.length c0_0), .int .i64 a0_1, (.slice A0_2 l0_2.length c0_2), .int .i64 a0_3, (.slice A0_4 l0_4.length c0_4)] 26 (0, 0))) ∧ Aside0 (Below w.heap.size w w'))
   case atStart => exact ⟨(y406), (wrap64 ((l0_0.length : Int) - 1)), (by first | rfl | (simp; done) | (simp [*]; done)), H', ⟨Nat.le_refl _⟩, ⟨by (with_reducible repeat (first | apply Kd.R_alloc | apply Kd.R_drewN | apply Kd.R_drew)); exact HO408.out⟩, ⟨blk_x BK405.out⟩, ⟨by exact below_y HB.out⟩⟩
   case round =>
    clear H'
    obtain ⟨x5_1, x6_1, rfl, HA, HK1, HO_5, BK405, HB⟩ := hrel
    cases gk with
    | zero => exact absurd HA.out (by simp [swarfref04_ToDo.l0])
    | succ k1 =>
     have H := HA.out
     clear HA
     simp only [swarfref04_ToDo.l0] at H
     by_cases c10 : x6_1 ≥ 0
     ·
      rw [if_pos c10] at H
      have c10b0 : decide (0 ≤ x6_1) = true := decide_eq_true c10
      clear c10
      have HC11 := Aside0.mk H
      clear H
      go_upto_region 5 with (fail)
      go_cut [] (fun wc => ∃ (kq : Nat) (x5_10 : List Bool), Aside0 (swarfref04_ToDo.j1 kq l1 x5_10 x6_1 l0_0 a0_1 l0_2 a0_3 l0_4 = some r) ∧ Aside0 (kq ≤ k1) ∧ Aside0 (Kd.R Kd.bool 4 wc w.heap.size (fun _ => True) v407 x5_10) ∧ Aside0 (wc.heap[gb405]? = some (.cells #[(.slice A0_0 l0_0.length c0_0), .int .i64 a0_1, (.slice A0_2 l0_2.length c0_2), .int .i64 a0_3, (.slice A0_4 l0_4.length c0_4)] 26 (0, 0))) ∧ Aside0 (Below w.heap.size w wc))
      case first =>
       have H := HC11.out
       clear HC11
       by_cases c12 : 0 ≤ x6_1
       ·
        rw [if_pos c12] at H
        have c12b0 : decide (0 ≤ x6_1) = true := decide_eq_true c12
        clear c12
        (first | rw [c12b0] | (simp only [i64_w, i32_w]; rw [c12b0]) | skip)
        by_cases c13 : x6_1 < (x5_1.length : Int)
        ·
         rw [if_pos c13] at H
         have c13b0 : decide (x6_1 < (x5_1.length : Int)) = true := decide_eq_true c13
         clear c13
         obtain ⟨bq14, hbq14⟩ : ∃ b_ : Bool, b_ = (rdOf false x5_1 x6_1) := ⟨_, rfl⟩
         replace H : (if bq14 = true then (if x6_1 < (l1.length : Int) then (swarfref04_ToDo.j1 k1 l1 (x5_1.set (x6_1 : Int).toNat ((rd l1 x6_1) != 1)) x6_1 l0_0 a0_1 l0_2 a0_3 l0_4) else (none)) else (if x6_1 < (l0_0.length : Int) then (if (rd_T50 l0_0 x6_1).f1 = true then (if x6_1 < (l1.length : Int) then (swarfref04_ToDo.j1 k1 l1 (x5_1.set (x6_1 : Int).toNat ((rd l1 x6_1) != 1)) x6_1 l0_0 a0_1 l0_2 a0_3 l0_4) else (none)) else (swarfref04_ToDo.j1 k1 l1 (x5_1.set (x6_1 : Int).toNat false) x6_1 l0_0 a0_1 l0_2 a0_3 l0_4)) else (none))) = some r := by rw [← hbq14] at H; exact H
         have Nbq14 := Aside0.mk hbq14
         clear hbq14
         by_cases c15 : bq14 = true
         ·
          subst c15
          have H1 : (if x6_1 < (l1.length : Int) then (swarfref04_ToDo.j1 k1 l1 (x5_1.set (x6_1 : Int).toNat ((rd l1 x6_1) != 1)) x6_1 l0_0 a0_1 l0_2 a0_3 l0_4) else (none)) = some r := by rw [if_pos rfl] at H; exact H
          clear H
          have H := H1
          clear H1
          by_cases c16 : x6_1 < (l1.length : Int)
          ·
           rw [if_pos c16] at H
           have c16b0 : decide (x6_1 < (l1.length : Int)) = true := decide_eq_true c16
           clear c16
           obtain ⟨y411, hy411⟩ : ∃ y_ : List Bool, y_ = (x5_1.set (x6_1 : Int).toNat ((rd l1 x6_1) != 1)) := ⟨_, rfl⟩
           replace H : (swarfref04_ToDo.j1 k1 l1 y411 x6_1 l0_0 a0_1 l0_2 a0_3 l0_4) = some r := by first | (rw [hy411]; with_reducible exact H) | (have H2_ := (Option.bind_some _ _).symm.trans H; rw [hy411]; with_reducible exact H2_) | (have H2_ := (Option.bind_some _ _).symm.trans H; with_reducible exact H2_) | with_reducible exact H | (rw [hy411]; exact H) | exact H
           have Ny411 := Aside0.mk hy411
           clear hy411
           have H' := Aside0.mk H
           clear H
           obtain ⟨Ao18, co18, eo18⟩ := Kd.R_slice HO_5.out
           subst eo18
           have p409 : 0 ≤ (x6_1 : Int) := of_x
           have q409 : x6_1 < (x5_1.length : Int) := of_x
           obtain ⟨ad409, e409, hx409_0⟩ := Kd.at_bool (Kd.R_reads' HO_5.out).2.2 x6_1 p409 q409
           (try rw [← Nbq14.out] at hx409_0)
           cases e409
           replace p409 := eq_true p409
           replace q409 := eq_true q409
           have p410 : 0 ≤ (x6_1 : Int) := of_x
           have q410 : x6_1 < (l1.length : Int) := of_x
           obtain ⟨ad410, e410, hx410_0⟩ := Kd.at_int HR1.out x6_1 p410 q410
           cases e410
           replace hx410_0 := cell_x HB hx410_0
           replace p410 := eq_true p410
           replace q410 := eq_true q410
           have p17 : 0 ≤ (x6_1 : Int) := of_x
           have q17 : (x6_1 : Int) < ((x5_1.length : Int) : Int) := of_x
           obtain ⟨go17, co17, eo17, gb17, gl17, cl17, HG17⟩ := Kd.R_form HO_5.out (by omega)
           (first | cases eo17 | (injection eo17 with ea_ en_ ec_; (first | subst ea_ | (injection ea_ with ea_; subst ea_)); subst ec_; clear en_))
           have GB17 := Aside0.mk gb17
           have GG17 := Aside0.mk HG17
           clear gb17 gl17 HG17
           (first | simp only [add_plain] at hx409_0 | skip)
           obtain ⟨hx17_0, hf17_0⟩ := Kd.R_celln false HO_5.out (x6_1 : Int) p17 q17
           replace p17 := eq_true p17
           replace q17 := eq_true q17
           have HP19 := Kd.R_putg HO_5.out (x6_1 : Int) ((rd l1 x6_1) != 1)
           go_wp2_with (first | ((with_reducible refine gate_store (t := 4) (p := 41) rfl ?_); refine store_event (t := 4) (p := 41) (v := ?vo_w20) (w1 := (wr.setCell ⟨go17, (x6_1 : Int).toNat, none⟩ (.bool ((rd l1 x6_1) != 1)))) ?hg ?ho ?hn ?hr ?_; (case ho => rfl); (case hg => rfl); (case hn => rfl); (case hr => first | (go_simp; done) | (go_simp; rfl)); intro w20 hw; have hg : wr.grownBy w20 (some go17) := (by rw [hw]; exact HP19.2); have hp_ : Kd.R Kd.bool 4 w20 w.heap.size (fun _ => True) (.slice (some ⟨go17, 0, none⟩) x5_1.length co18) y411 := (by rw [hw, Ny411.out]; exact HP19.1); clear HP19; replace BK405 := Aside0.mk (blk_grown (blk_x BK405.out) hg (Kd.R_ne HO_5.out BK405.out (by decide))); replace HO_5 := Aside0.mk (hp_); replace HB := Aside0.mk ((by rw [hw]; exact below_set (HB.out) GB17.out : Below w.heap.size w w20)); clear hg hw hp_))
           go_meet
           case rel => exact ⟨_, (y411), H', ⟨by have := HK1.out; first | omega | exact Nat.le_refl _⟩, ⟨by (with_reducible repeat (first | apply Kd.R_alloc | apply Kd.R_drewN | apply Kd.R_drew)); exact HO_5.out⟩, ⟨blk_x BK405.out⟩, ⟨by exact below_y HB.out⟩⟩
          ·
           rw [if_neg c16] at H
           exact absurd H (by simp)
         ·
          replace c15 := Bool.eq_false_iff.mpr c15
          subst c15
          have H1 : (if x6_1 < (l0_0.length : Int) then (if (rd_T50 l0_0 x6_1).f1 = true then (if x6_1 < (l1.length : Int) then (swarfref04_ToDo.j1 k1 l1 (x5_1.set (x6_1 : Int).toNat ((rd l1 x6_1) != 1)) x6_1 l0_0 a0_1 l0_2 a0_3 l0_4) else (none)) else (swarfref04_ToDo.j1 k1 l1 (x5_1.set (x6_1 : Int).toNat false) x6_1 l0_0 a0_1 l0_2 a0_3 l0_4)) else (none)) = some r := by rw [if_neg (show ¬ (false = true) by decide)] at H; exact H
          clear H
          have H := H1
          clear H1
          by_cases c21 : x6_1 < (l0_0.length : Int)
          ·
           rw [if_pos c21] at H
           have c21b0 : decide (x6_1 < (l0_0.length : Int)) = true := decide_eq_true c21
           clear c21
           obtain ⟨bq22, hbq22⟩ : ∃ b_ : Bool, b_ = ((rd_T50 l0_0 x6_1).f1) := ⟨_, rfl⟩
           replace H : (if bq22 = true then (if x6_1 < (l1.length : Int) then (swarfref04_ToDo.j1 k1 l1 (x5_1.set (x6_1 : Int).toNat ((rd l1 x6_1) != 1)) x6_1 l0_0 a0_1 l0_2 a0_3 l0_4) else (none)) else (swarfref04_ToDo.j1 k1 l1 (x5_1.set (x6_1 : Int).toNat false) x6_1 l0_0 a0_1 l0_2 a0_3 l0_4)) = some r := by rw [← hbq22] at H; exact H
           have Nbq22 := Aside0.mk hbq22
           clear hbq22
           by_cases c23 : bq22 = true
           ·
            subst c23
            have H1 : (if x6_1 < (l1.length : Int) then (swarfref04_ToDo.j1 k1 l1 (x5_1.set (x6_1 : Int).toNat ((rd l1 x6_1) != 1)) x6_1 l0_0 a0_1 l0_2 a0_3 l0_4) else (none)) = some r := by rw [if_pos rfl] at H; exact H
            clear H
            have H := H1
            clear H1
            by_cases c24 : x6_1 < (l1.length : Int)
            ·
             rw [if_pos c24] at H
             have c24b0 : decide (x6_1 < (l1.length : Int)) = true := decide_eq_true c24
             clear c24
             obtain ⟨y414, hy414⟩ : ∃ y_ : List Bool, y_ = (x5_1.set (x6_1 : Int).toNat ((rd l1 x6_1) != 1)) := ⟨_, rfl⟩
             replace H : (swarfref04_ToDo.j1 k1 l1 y414 x6_1 l0_0 a0_1 l0_2 a0_3 l0_4) = some r := by first | (rw [hy414]; with_reducible exact H) | (have H2_ := (Option.bind_some _ _).symm.trans H; rw [hy414]; with_reducible exact H2_) | (have H2_ := (Option.bind_some _ _).symm.trans H; with_reducible exact H2_) | with_reducible exact H | (rw [hy414]; exact H) | exact H
             have Ny414 := Aside0.mk hy414
             clear hy414
             have H' := Aside0.mk H
             clear H
             obtain ⟨Ao26, co26, eo26⟩ := Kd.R_slice HO_5.out
             subst eo26
             have p409 : 0 ≤ (x6_1 : Int) := of_x
             have q409 : x6_1 < (x5_1.length : Int) := of_x
             obtain ⟨ad409, e409, hx409_0⟩ := Kd.at_bool (Kd.R_reads' HO_5.out).2.2 x6_1 p409 q409
             (try rw [← Nbq14.out] at hx409_0)
             (try rw [← Nbq22.out] at hx409_0)
             cases e409
             replace p409 := eq_true p409
             replace q409 := eq_true q409
             obtain ⟨_, _, _, _, _⟩ := cz5 BK405
             have hfz27_0 := blk_frozen BK405.out
             have p412 : 0 ≤ (x6_1 : Int) := of_x
             have q412 : x6_1 < (l0_0.length : Int) := of_x
             obtain ⟨ad412, A412_0, c412_0, e412, hx412_0, hx412_1, hx412_2, hx412_3, hl412_0, hi412_0⟩ := at_T50 HR0_0.out x6_1 p412 q412
             (try rw [← Nbq14.out] at hx412_1)
             (try rw [← Nbq22.out] at hx412_1)
             cases e412
             replace hx412_0 := cell_x HB hx412_0
             replace hx412_1 := cell_x HB hx412_1
             replace hx412_2 := cell_x HB hx412_2
             replace hx412_3 := cell_x HB hx412_3
             have HR412_0 := Aside0.mk hi412_0
             have HC412_0 := Aside0.mk hl412_0
             clear hi412_0 hl412_0
             replace p412 := eq_true p412
             replace q412 := eq_true q412
             have p413 : 0 ≤ (x6_1 : Int) := of_x
             have q413 : x6_1 < (l1.length : Int) := of_x
             obtain ⟨ad413, e413, hx413_0⟩ := Kd.at_int HR1.out x6_1 p413 q413
             cases e413
             replace hx413_0 := cell_x HB hx413_0
             replace p413 := eq_true p413
             replace q413 := eq_true q413
             have p25 : 0 ≤ (x6_1 : Int) := of_x
             have q25 : (x6_1 : Int) < ((x5_1.length : Int) : Int) := of_x
             obtain ⟨go25, co25, eo25, gb25, gl25, cl25, HG25⟩ := Kd.R_form HO_5.out (by omega)
             (first | cases eo25 | (injection eo25 with ea_ en_ ec_; (first | subst ea_ | (injection ea_ with ea_; subst ea_)); subst ec_; clear en_))
             have GB25 := Aside0.mk gb25
             have GG25 := Aside0.mk HG25
             clear gb25 gl25 HG25
             (first | simp only [add_plain] at hx409_0 | skip)
             obtain ⟨hx25_0, hf25_0⟩ := Kd.R_celln false HO_5.out (x6_1 : Int) p25 q25
             replace p25 := eq_true p25
             replace q25 := eq_true q25
             have HP28 := Kd.R_putg HO_5.out (x6_1 : Int) ((rd l1 x6_1) != 1)
             go_wp2_with (first | ((with_reducible refine gate_store (t := 4) (p := 41) rfl ?_); refine store_event (t := 4) (p := 41) (v := ?vo_w29) (w1 := (wr.setCell ⟨go25, (x6_1 : Int).toNat, none⟩ (.bool ((rd l1 x6_1) != 1)))) ?hg ?ho ?hn ?hr ?_; (case ho => rfl); (case hg => rfl); (case hn => rfl); (case hr => first | (go_simp; done) | (go_simp; rfl)); intro w29 hw; have hg : wr.grownBy w29 (some go25) := (by rw [hw]; exact HP28.2); have hp_ : Kd.R Kd.bool 4 w29 w.heap.size (fun _ => True) (.slice (some ⟨go25, 0, none⟩) x5_1.length co26) y414 := (by rw [hw, Ny414.out]; exact HP28.1); clear HP28; replace BK405 := Aside0.mk (blk_grown (blk_x BK405.out) hg (Kd.R_ne HO_5.out BK405.out (by decide))); replace HO_5 := Aside0.mk (hp_); replace HB := Aside0.mk ((by rw [hw]; exact below_set (HB.out) GB25.out : Below w.heap.size w w29)); clear hg hw hp_))
             go_meet
             case rel => exact ⟨_, (y414), H', ⟨by have := HK1.out; first | omega | exact Nat.le_refl _⟩, ⟨by (with_reducible repeat (first | apply Kd.R_alloc | apply Kd.R_drewN | apply Kd.R_drew)); exact HO_5.out⟩, ⟨blk_x BK405.out⟩, ⟨by exact below_y HB.out⟩⟩
            ·
             rw [if_neg c24] at H
             exact absurd H (by simp)
           ·
            replace c23 := Bool.eq_false_iff.mpr c23
            subst c23
            have H1 : (swarfref04_ToDo.j1 k1 l1 (x5_1.set (x6_1 : Int).toNat false) x6_1 l0_0 a0_1 l0_2 a0_3 l0_4) = some r := by rw [if_neg (show ¬ (false = true) by decide)] at H; exact H
            clear H
            have H := H1
            clear H1
            obtain ⟨y415, hy415⟩ : ∃ y_ : List Bool, y_ = (x5_1.set (x6_1 : Int).toNat false) := ⟨_, rfl⟩
            replace H : (swarfref04_ToDo.j1 k1 l1 y415 x6_1 l0_0 a0_1 l0_2 a0_3 l0_4) = some r := by first | (rw [hy415]; with_reducible exact H) | (have H2_ := (Option.bind_some _ _).symm.trans H; rw [hy415]; with_reducible exact H2_) | (have H2_ := (Option.bind_some _ _).symm.trans H; with_reducible exact H2_) | with_reducible exact H | (rw [hy415]; exact H) | exact H
            have Ny415 := Aside0.mk hy415
            clear hy415
            have H' := Aside0.mk H
            clear H
            obtain ⟨Ao31, co31, eo31⟩ := Kd.R_slice HO_5.out
            subst eo31
            have p409 : 0 ≤ (x6_1 : Int) := of_x
            have q409 : x6_1 < (x5_1.length : Int) := of_x
            obtain ⟨ad409, e409, hx409_0⟩ := Kd.at_bool (Kd.R_reads' HO_5.out).2.2 x6_1 p409 q409
            (try rw [← Nbq14.out] at hx409_0)
            (try rw [← Nbq22.out] at hx409_0)
            cases e409
            replace p409 := eq_true p409
            replace q409 := eq_true q409
            obtain ⟨_, _, _, _, _⟩ := cz5 BK405
            have hfz32_0 := blk_frozen BK405.out
            have p412 : 0 ≤ (x6_1 : Int) := of_x
            have q412 : x6_1 < (l0_0.length : Int) := of_x
            obtain ⟨ad412, A412_0, c412_0, e412, hx412_0, hx412_1, hx412_2, hx412_3, hl412_0, hi412_0⟩ := at_T50 HR0_0.out x6_1 p412 q412
            (try rw [← Nbq14.out] at hx412_1)
            (try rw [← Nbq22.out] at hx412_1)
            cases e412
            replace hx412_0 := cell_x HB hx412_0
            replace hx412_1 := cell_x HB hx412_1
            replace hx412_2 := cell_x HB hx412_2
            replace hx412_3 := cell_x HB hx412_3
            have HR412_0 := Aside0.mk hi412_0
            have HC412_0 := Aside0.mk hl412_0
            clear hi412_0 hl412_0
            replace p412 := eq_true p412
            replace q412 := eq_true q412
            have p30 : 0 ≤ (x6_1 : Int) := of_x
            have q30 : (x6_1 : Int) < ((x5_1.length : Int) : Int) := of_x
            obtain ⟨go30, co30, eo30, gb30, gl30, cl30, HG30⟩ := Kd.R_form HO_5.out (by omega)
            (first | cases eo30 | (injection eo30 with ea_ en_ ec_; (first | subst ea_ | (injection ea_ with ea_; subst ea_)); subst ec_; clear en_))
            have GB30 := Aside0.mk gb30
            have GG30 := Aside0.mk HG30
            clear gb30 gl30 HG30
            (first | simp only [add_plain] at hx409_0 | skip)
            obtain ⟨hx30_0, hf30_0⟩ := Kd.R_celln false HO_5.out (x6_1 : Int) p30 q30
            replace p30 := eq_true p30
            replace q30 := eq_true q30
            have HP33 := Kd.R_putg HO_5.out (x6_1 : Int) false
            go_wp2_with (first | ((with_reducible refine gate_store (t := 4) (p := 41) rfl ?_); refine store_event (t := 4) (p := 41) (v := ?vo_w34) (w1 := (wr.setCell ⟨go30, (x6_1 : Int).toNat, none⟩ (.bool false))) ?hg ?ho ?hn ?hr ?_; (case ho => rfl); (case hg => rfl); (case hn => rfl); (case hr => first | (go_simp; done) | (go_simp; rfl)); intro w34 hw; have hg : wr.grownBy w34 (some go30) := (by rw [hw]; exact HP33.2); have hp_ : Kd.R Kd.bool 4 w34 w.heap.size (fun _ => True) (.slice (some ⟨go30, 0, none⟩) x5_1.length co31) y415 := (by rw [hw, Ny415.out]; exact HP33.1); clear HP33; replace BK405 := Aside0.mk (blk_grown (blk_x BK405.out) hg (Kd.R_ne HO_5.out BK405.out (by decide))); replace HO_5 := Aside0.mk (hp_); replace HB := Aside0.mk ((by rw [hw]; exact below_set (HB.out) GB30.out : Below w.heap.size w w34)); clear hg hw hp_))
            go_meet
            case rel => exact ⟨_, (y415), H', ⟨by have := HK1.out; first | omega | exact Nat.le_refl _⟩, ⟨by (with_reducible repeat (first | apply Kd.R_alloc | apply Kd.R_drewN | apply Kd.R_drew)); exact HO_5.out⟩, ⟨blk_x BK405.out⟩, ⟨by exact below_y HB.out⟩⟩
          ·
           rw [if_neg c21] at H
           exact absurd H (by simp)
        ·
         rw [if_neg c13] at H
         exact absurd H (by simp)
       ·
        rw [if_neg c12] at H
        exact absurd H (by simp)
      case rest =>
       clear HC11
       obtain ⟨kq, x5_10, HA, HJ10, HO_5, BK405, HB⟩ := hcut
       cases kq with
       | zero => exact absurd HA.out (by simp [swarfref04_ToDo.j1])
       | succ kj10 =>
        have H := HA.out
        clear HA
        simp only [swarfref04_ToDo.j1] at H
        have H' := Aside0.mk H
        clear H
        go_wp2
        go_loopg [7] kj10 (fun kq v7 w' => ∃ (x5_3 : List Bool) (x7_3 : Int), v7 = .int .i64 x7_3 ∧ Aside0 (swarfref04_ToDo.l1 kq l1 x5_3 x6_1 x7_3 l0_0 a0_1 l0_2 a0_3 l0_4 = some r) ∧ Aside0 (kq ≤ kj10) ∧ Aside0 (Kd.R Kd.bool 4 w' w.heap.size (fun _ => True) v407 x5_3) ∧ Aside0 (w'.heap[gb405]? = some (.cells #[(.slice A0_0 l0_0.length c0_0), .int .i64 a0_1, (.slice A0_2 l0_2.length c0_2), .int .i64 a0_3, (.slice A0_4 l0_4.length c0_4)] 26 (0, 0))) ∧ Aside0 (Below w.heap.size w w'))
        case atStart => exact ⟨(x5_10), (0), (by first | rfl | (simp; done) | (simp [*]; done)), H', ⟨Nat.le_refl _⟩, ⟨by (with_reducible repeat (first | apply Kd.R_alloc | apply Kd.R_drewN | apply Kd.R_drew)); exact HO_5.out⟩, ⟨blk_x BK405.out⟩, ⟨by exact below_y HB.out⟩⟩
        case round =>
         clear H'
         obtain ⟨x5_3, x7_3, rfl, HA, HK3, HO_5, BK405, HB⟩ := hrel
         cases gk with
         | zero => exact absurd HA.out (by simp [swarfref04_ToDo.l1])
         | succ k3 =>
          have H := HA.out
          clear HA
          simp only [swarfref04_ToDo.l1] at H
          by_cases c35 : 0 ≤ x6_1
          ·
           rw [if_pos c35] at H
           have c35b0 : decide (0 ≤ x6_1) = true := decide_eq_true c35
           clear c35
           by_cases c36 : x6_1 < (l0_0.length : Int)
           ·
            rw [if_pos c36] at H
            have c36b0 : decide (x6_1 < (l0_0.length : Int)) = true := decide_eq_true c36
            clear c36
            by_cases c37 : x7_3 < (((rd_T50 l0_0 x6_1).f0).length : Int)
            ·
             rw [if_pos c37] at H
             have c37b0 : decide (x7_3 < (((rd_T50 l0_0 x6_1).f0).length : Int)) = true := decide_eq_true c37
             clear c37
             by_cases c38 : x6_1 < (x5_3.length : Int)
             ·
              rw [if_pos c38] at H
              have c38b0 : decide (x6_1 < (x5_3.length : Int)) = true := decide_eq_true c38
              clear c38
              obtain ⟨bq39, hbq39⟩ : ∃ b_ : Bool, b_ = (rdOf false x5_3 x6_1) := ⟨_, rfl⟩
              replace H : (if bq39 = true then (if 0 ≤ x7_3 then (if 0 ≤ (rd ((rd_T50 l0_0 x6_1).f0) x7_3) then (if (rd ((rd_T50 l0_0 x6_1).f0) x7_3) < (x5_3.length : Int) then (swarfref04_ToDo.l1 k3 l1 (x5_3.set ((rd ((rd_T50 l0_0 x6_1).f0) x7_3) : Int).toNat true) x6_1 (wrap64 (x7_3 + 1)) l0_0 a0_1 l0_2 a0_3 l0_4) else (none)) else (none)) else (none)) else (swarfref04_ToDo.l0 k3 l1 x5_3 (wrap64 (x6_1 - 1)) l0_0 a0_1 l0_2 a0_3 l0_4)) = some r := by rw [← hbq39] at H; exact H
              have Nbq39 := Aside0.mk hbq39
              clear hbq39
              by_cases c40 : bq39 = true
              ·
               subst c40
               have H1 : (if 0 ≤ x7_3 then (if 0 ≤ (rd ((rd_T50 l0_0 x6_1).f0) x7_3) then (if (rd ((rd_T50 l0_0 x6_1).f0) x7_3) < (x5_3.length : Int) then (swarfref04_ToDo.l1 k3 l1 (x5_3.set ((rd ((rd_T50 l0_0 x6_1).f0) x7_3) : Int).toNat true) x6_1 (wrap64 (x7_3 + 1)) l0_0 a0_1 l0_2 a0_3 l0_4) else (none)) else (none)) else (none)) = some r := by rw [if_pos rfl] at H; exact H
               clear H
               have H := H1
               clear H1
               by_cases c41 : 0 ≤ x7_3
               ·
                rw [if_pos c41] at H
                have c41b0 : decide (0 ≤ x7_3) = true := decide_eq_true c41
                clear c41
                by_cases c42 : 0 ≤ (rd ((rd_T50 l0_0 x6_1).f0) x7_3)
                ·
                 rw [if_pos c42] at H
                 have c42b0 : decide (0 ≤ (rd ((rd_T50 l0_0 x6_1).f0) x7_3)) = true := decide_eq_true c42
                 clear c42
                 by_cases c43 : (rd ((rd_T50 l0_0 x6_1).f0) x7_3) < (x5_3.length : Int)
                 ·
                  rw [if_pos c43] at H
                  have c43b0 : decide ((rd ((rd_T50 l0_0 x6_1).f0) x7_3) < (x5_3.length : Int)) = true := decide_eq_true c43
                  clear c43
                  obtain ⟨y420, hy420⟩ : ∃ y_ : List Bool, y_ = (x5_3.set ((rd ((rd_T50 l0_0 x6_1).f0) x7_3) : Int).toNat true) := ⟨_, rfl⟩
                  replace H : (swarfref04_ToDo.l1 k3 l1 y420 x6_1 (wrap64 (x7_3 + 1)) l0_0 a0_1 l0_2 a0_3 l0_4) = some r := by first | (rw [hy420]; with_reducible exact H) | (have H2_ := (Option.bind_some _ _).symm.trans H; rw [hy420]; with_reducible exact H2_) | (have H2_ := (Option.bind_some _ _).symm.trans H; with_reducible exact H2_) | with_reducible exact H | (rw [hy420]; exact H) | exact H
                  have Ny420 := Aside0.mk hy420
                  clear hy420
                  have H' := Aside0.mk H
                  clear H
                  obtain ⟨_, _, _, _, _⟩ := cz5 BK405
                  have hfz45_0 := blk_frozen BK405.out
                  have p416 : 0 ≤ (x6_1 : Int) := of_x
                  have q416 : x6_1 < (l0_0.length : Int) := of_x
                  obtain ⟨ad416, A416_0, c416_0, e416, hx416_0, hx416_1, hx416_2, hx416_3, hl416_0, hi416_0⟩ := at_T50 HR0_0.out x6_1 p416 q416
                  (try rw [← Nbq39.out] at hx416_1)
                  cases e416
                  replace hx416_0 := cell_x HB hx416_0
                  replace hx416_1 := cell_x HB hx416_1
                  replace hx416_2 := cell_x HB hx416_2
                  replace hx416_3 := cell_x HB hx416_3
                  have HR416_0 := Aside0.mk hi416_0
                  have HC416_0 := Aside0.mk hl416_0
                  clear hi416_0 hl416_0
                  replace p416 := eq_true p416
                  replace q416 := eq_true q416
                  obtain ⟨Ao46, co46, eo46⟩ := Kd.R_slice HO_5.out
                  subst eo46
                  have p417 : 0 ≤ (x6_1 : Int) := of_x
                  have q417 : x6_1 < (x5_3.length : Int) := of_x
                  obtain ⟨ad417, e417, hx417_0⟩ := Kd.at_bool (Kd.R_reads' HO_5.out).2.2 x6_1 p417 q417
                  (try rw [← Nbq39.out] at hx417_0)
                  cases e417
                  replace p417 := eq_true p417
                  replace q417 := eq_true q417
                  have p418 : 0 ≤ (x6_1 : Int) := of_x
                  have q418 : x6_1 < (l0_0.length : Int) := of_x
                  obtain ⟨ad418, A418_0, c418_0, e418, hx418_0, hx418_1, hx418_2, hx418_3, hl418_0, hi418_0⟩ := at_T50 HR0_0.out x6_1 p418 q418
                  (try rw [← Nbq39.out] at hx418_1)
                  obtain rfl : ad416 = ad418 := (by injection e418)
                  replace hx418_0 := cell_x HB hx418_0
                  replace hx418_1 := cell_x HB hx418_1
                  replace hx418_2 := cell_x HB hx418_2
                  replace hx418_3 := cell_x HB hx418_3
                  have HR418_0 := Aside0.mk hi418_0
                  have HC418_0 := Aside0.mk hl418_0
                  clear hi418_0 hl418_0
                  replace p418 := eq_true p418
                  replace q418 := eq_true q418
                  have ea_ := Option.some.inj (hx416_0.symm.trans hx418_0)
                  injection ea_ with ea_ en_ ec_
                  subst ea_
                  subst ec_
                  clear en_
                  have p419 : 0 ≤ (x7_3 : Int) := of_x
                  have q419 : x7_3 < (((rd_T50 l0_0 x6_1).f0).length : Int) := of_x
                  obtain ⟨ad419, e419, hx419_0⟩ := Kd.at_int HR418_0.out x7_3 p419 q419
                  cases e419
                  replace hx419_0 := cell_x HB hx419_0
                  replace p419 := eq_true p419
                  replace q419 := eq_true q419
                  have p44 : 0 ≤ ((rd ((rd_T50 l0_0 x6_1).f0) x7_3) : Int) := of_x
                  have q44 : ((rd ((rd_T50 l0_0 x6_1).f0) x7_3) : Int) < ((x5_3.length : Int) : Int) := of_x
                  obtain ⟨go44, co44, eo44, gb44, gl44, cl44, HG44⟩ := Kd.R_form HO_5.out (by omega)
                  (first | cases eo44 | (injection eo44 with ea_ en_ ec_; (first | subst ea_ | (injection ea_ with ea_; subst ea_)); subst ec_; clear en_))
                  have GB44 := Aside0.mk gb44
                  have GG44 := Aside0.mk HG44
                  clear gb44 gl44 HG44
                  (first | simp only [add_plain] at hx417_0 | skip)
                  obtain ⟨hx44_0, hf44_0⟩ := Kd.R_celln false HO_5.out ((rd ((rd_T50 l0_0 x6_1).f0) x7_3) : Int) p44 q44
                  replace p44 := eq_true p44
                  replace q44 := eq_true q44
                  have HP47 := Kd.R_putg HO_5.out ((rd ((rd_T50 l0_0 x6_1).f0) x7_3) : Int) true
                  go_wp2_with (first | ((with_reducible refine gate_store (t := 4) (p := 69) rfl ?_); refine store_event (t := 4) (p := 69) (v := ?vo_w48) (w1 := (wr.setCell ⟨go44, ((rd ((rd_T50 l0_0 x6_1).f0) x7_3) : Int).toNat, none⟩ (.bool true))) ?hg ?ho ?hn ?hr ?_; (case ho => rfl); (case hg => rfl); (case hn => rfl); (case hr => first | (go_simp; done) | (go_simp; rfl)); intro w48 hw; have hg : wr.grownBy w48 (some go44) := (by rw [hw]; exact HP47.2); have hp_ : Kd.R Kd.bool 4 w48 w.heap.size (fun _ => True) (.slice (some ⟨go44, 0, none⟩) x5_3.length co46) y420 := (by rw [hw, Ny420.out]; exact HP47.1); clear HP47; replace BK405 := Aside0.mk (blk_grown (blk_x BK405.out) hg (Kd.R_ne HO_5.out BK405.out (by decide))); replace HO_5 := Aside0.mk (hp_); replace HB := Aside0.mk ((by rw [hw]; exact below_set (HB.out) GB44.out : Below w.heap.size w w48)); clear hg hw hp_))
                  go_roundg k3
                  case measure => have := HK1.out; have := HJ10.out; have := HK3.out; omega
                  case rel => exact ⟨(y420), (wrap64 (x7_3 + 1)), (by first | rfl | (simp; done) | (simp [*]; done)), H', ⟨by have := HK1.out; have := HJ10.out; have := HK3.out; omega⟩, ⟨by (with_reducible repeat (first | apply Kd.R_alloc | apply Kd.R_drewN | apply Kd.R_drew)); exact HO_5.out⟩, ⟨blk_x BK405.out⟩, ⟨by exact below_y HB.out⟩⟩
                 ·
                  rw [if_neg c43] at H
                  exact absurd H (by simp)
                ·
                 rw [if_neg c42] at H
                 exact absurd H (by simp)
               ·
                rw [if_neg c41] at H
                exact absurd H (by simp)
              ·
               replace c40 := Bool.eq_false_iff.mpr c40
               subst c40
               have H1 : (swarfref04_ToDo.l0 k3 l1 x5_3 (wrap64 (x6_1 - 1)) l0_0 a0_1 l0_2 a0_3 l0_4) = some r := by rw [if_neg (show ¬ (false = true) by decide)] at H; exact H
               clear H
               have H := H1
               clear H1
               have H' := Aside0.mk H
               clear H
               obtain ⟨_, _, _, _, _⟩ := cz5 BK405
               have hfz49_0 := blk_frozen BK405.out
               have p416 : 0 ≤ (x6_1 : Int) := of_x
               have q416 : x6_1 < (l0_0.length : Int) := of_x
               obtain ⟨ad416, A416_0, c416_0, e416, hx416_0, hx416_1, hx416_2, hx416_3, hl416_0, hi416_0⟩ := at_T50 HR0_0.out x6_1 p416 q416
               (try rw [← Nbq39.out] at hx416_1)
               cases e416
               replace hx416_0 := cell_x HB hx416_0
               replace hx416_1 := cell_x HB hx416_1
               replace hx416_2 := cell_x HB hx416_2
               replace hx416_3 := cell_x HB hx416_3
               have HR416_0 := Aside0.mk hi416_0
               have HC416_0 := Aside0.mk hl416_0
               clear hi416_0 hl416_0
               replace p416 := eq_true p416
               replace q416 := eq_true q416
               obtain ⟨Ao50, co50, eo50⟩ := Kd.R_slice HO_5.out
               subst eo50
               have p417 : 0 ≤ (x6_1 : Int) := of_x
               have q417 : x6_1 < (x5_3.length : Int) := of_x
               obtain ⟨ad417, e417, hx417_0⟩ := Kd.at_bool (Kd.R_reads' HO_5.out).2.2 x6_1 p417 q417
               (try rw [← Nbq39.out] at hx417_0)
               cases e417
               replace p417 := eq_true p417
               replace q417 := eq_true q417
               go_wp2
               go_roundg k3
               case measure => have := HK1.out; have := HJ10.out; have := HK3.out; omega
               case rel => exact ⟨(x5_3), (wrap64 (x6_1 - 1)), (by first | rfl | (simp; done) | (simp [*]; done)), H', ⟨by have := HK1.out; have := HJ10.out; have := HK3.out; omega⟩, ⟨by (with_reducible repeat (first | apply Kd.R_alloc | apply Kd.R_drewN | apply Kd.R_drew)); exact HO_5.out⟩, ⟨blk_x BK405.out⟩, ⟨by exact below_y HB.out⟩⟩
             ·
              rw [if_neg c38] at H
              exact absurd H (by simp)
            ·
             rw [if_neg c37] at H
             have c37b0 : decide (x7_3 < (((rd_T50 l0_0 x6_1).f0).length : Int)) = false := decide_eq_false c37
             clear c37
             have H' := Aside0.mk H
             clear H
             obtain ⟨_, _, _, _, _⟩ := cz5 BK405
             have hfz51_0 := blk_frozen BK405.out
             have p416 : 0 ≤ (x6_1 : Int) := of_x
             have q416 : x6_1 < (l0_0.length : Int) := of_x
             obtain ⟨ad416, A416_0, c416_0, e416, hx416_0, hx416_1, hx416_2, hx416_3, hl416_0, hi416_0⟩ := at_T50 HR0_0.out x6_1 p416 q416
             cases e416
             replace hx416_0 := cell_x HB hx416_0
             replace hx416_1 := cell_x HB hx416_1
             replace hx416_2 := cell_x HB hx416_2
             replace hx416_3 := cell_x HB hx416_3
             have HR416_0 := Aside0.mk hi416_0
             have HC416_0 := Aside0.mk hl416_0
             clear hi416_0 hl416_0
             replace p416 := eq_true p416
             replace q416 := eq_true q416
             go_wp2
             go_roundg k3
             case measure => have := HK1.out; have := HJ10.out; have := HK3.out; omega
             case rel => exact ⟨(x5_3), (wrap64 (x6_1 - 1)), (by first | rfl | (simp; done) | (simp [*]; done)), H', ⟨by have := HK1.out; have := HJ10.out; have := HK3.out; omega⟩, ⟨by (with_reducible repeat (first | apply Kd.R_alloc | apply Kd.R_drewN | apply Kd.R_drew)); exact HO_5.out⟩, ⟨blk_x BK405.out⟩, ⟨by exact below_y HB.out⟩⟩
           ·
            rw [if_neg c36] at H
            exact absurd H (by simp)
          ·
           rw [if_neg c35] at H
           exact absurd H (by simp)
     ·
      rw [if_neg c10] at H
      have c10b0 : decide (0 ≤ x6_1) = false := decide_eq_false c10
      clear c10
      obtain rfl := Option.some.inj H
      go_wp2
      go_ret
      exact ⟨_, by first | rfl | (simp [errW_none, errW_some] <;> rfl) | (simp [*, errW_none, errW_some] <;> rfl), by (with_reducible repeat (first | apply Kd.R_alloc | apply Kd.R_drewN | apply Kd.R_drew)); exact HO_5.out, by exact below_y HB.out⟩
  ·
   rw [if_neg c4] at H
   exact absurd H (by simp)
 ·
  rw [if_neg c3] at H
  exact absurd H (by simp)
end Go.Proofs.Ytkkmfcdikkiodaa.PC4
