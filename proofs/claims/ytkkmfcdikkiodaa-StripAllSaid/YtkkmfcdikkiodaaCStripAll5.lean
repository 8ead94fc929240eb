/- Lemmas on the way to this: What Out and Clean say of a car is what all its states say, gone through one by one: for every list of numbers of the size that Go can hold. -/
import Derived.Test.YtkkmfcdikkiodaaCStripAll4
import Derived.Test.YtkkmfcdikkiodaaCStripAll2
import Derived.Test.YtkkmfcdikkiodaaCStripAll1
namespace Go.Proofs.Ytkkmfcdikkiodaa.PC4
set_option linter.unusedVariables false
open Go.RowKit Go.Proofs.YtkkmfcdikkiodaaW.PrintWords Go.Proofs.YtkkmfcdikkiodaaW.PrintLast Go.Proofs.YtkkmfcdikkiodaaW.PrintMore
theorem u64_bd (n : Int) : 0 ≤ IntKind.u64.wrap n ∧ IntKind.u64.wrap n < 18446744073709551616 := by
  have : IntKind.u64.wrap n = n % 18446744073709551616 := by simp [IntKind.wrap, IntKind.bits, IntKind.signed]
  omega
theorem u64_id {n : Int} (h0 : 0 ≤ n) (h : n < 18446744073709551616) : IntKind.u64.wrap n = n := by
  have : IntKind.u64.wrap n = n % 18446744073709551616 := by simp [IntKind.wrap, IntKind.bits, IntKind.signed]
  omega
theorem below_ok (s n : Int) (h1 : 1 ≤ n) (h : n ≤ 1000000000) : ∃ r s', swarfkit_Feed_Below.f s n = some (r, s') ∧ 0 ≤ r ∧ r < n := by
  unfold swarfkit_Feed_Below.f
  by_cases h2 : n < 2
  · rw [if_pos h2]
    exact ⟨0, s, rfl, by omega, by omega⟩
  · rw [if_neg h2]
    unfold swarfkit_Feed_next.f
    simp only [Option.bind_some]
    rw [u64_id (by omega) (by omega), if_neg (by omega)]
    refine ⟨_, _, rfl, ?_⟩
    obtain ⟨ha, hb⟩ := u64_bd (feedN s * 2685821657736338717)
    have hm : feedM (feedN s) = IntKind.u64.wrap (feedN s * 2685821657736338717) := rfl
    rw [hm]
    generalize IntKind.u64.wrap (feedN s * 2685821657736338717) = x at *
    have hx : 0 ≤ x / 256 := by omega
    rw [Int.tmod_eq_emod_of_nonneg hx]
    have h3 := Int.emod_nonneg (x / 256) (show n ≠ 0 by omega)
    have h4 := Int.emod_lt_of_pos (x / 256) (show 0 < n by omega)
    rw [wrap64_id (by omega) (by omega)]
    exact ⟨h3, h4⟩
theorem often_ok (s n m : Int) (h1 : 1 ≤ m) (h : m ≤ 1000000000) : ∃ b s', swarfkit_Feed_Often.f s n m = some (b, s') := by
  obtain ⟨r, s', h2, _⟩ := below_ok s m h1 h
  exact ⟨_, _, by unfold swarfkit_Feed_Often.f; rw [h2]; rfl⟩
theorem between_ok (s lo hi : Int) (h : lo ≤ hi) (h0 : 0 ≤ lo) (h1 : hi ≤ 1000000) : ∃ r s', swarfkit_Feed_Between.f s lo hi = some (r, s') ∧ lo ≤ r ∧ r ≤ hi := by
  obtain ⟨r, s', h2, h3, h4⟩ := below_ok s (hi - lo + 1) (by omega) (by omega)
  refine ⟨lo + r, s', ?_, by omega, by omega⟩
  unfold swarfkit_Feed_Between.f
  rw [wrap64_id (n := hi - lo) (by omega) (by omega), wrap64_id (by omega) (by omega), h2]
  simp only [Option.bind_some]
  rw [wrap64_id (by omega) (by omega)]
theorem either_ok (s : Int) (l : List Int) (h0 : l ≠ []) (h : l.length ≤ 1000) : ∃ r s', swarfkit_Feed_Either.f s l = some (r, s') ∧ r ∈ l := by
  have hl : 0 < l.length := List.length_pos_iff.2 h0
  obtain ⟨r, s', h2, h3, h4⟩ := below_ok s l.length (by omega) (by omega)
  refine ⟨rd l r, s', ?_, ?_⟩
  · unfold swarfkit_Feed_Either.f
    rw [if_neg (by omega), h2]
    simp only [Option.bind_some]
    rw [if_pos h3, if_pos h4]
  · obtain ⟨k, rfl⟩ : ∃ k : Nat, r = k := ⟨r.toNat, by omega⟩
    have hk : k < l.length := by omega
    rw [rd_getD, List.getD, List.getElem?_eq_getElem hk]
    exact List.getElem_mem hk
end Go.Proofs.Ytkkmfcdikkiodaa.PC4
namespace Go.Proofs.Ytkkmfcdikkiodaa.PC4
set_option linter.unusedVariables false
open Go.RowKit Go.Proofs.YtkkmfcdikkiodaaW.PrintWords Go.Proofs.YtkkmfcdikkiodaaW.PrintLast Go.Proofs.YtkkmfcdikkiodaaW.PrintMore
def Res {α : Type} (g : Nat → Option α) (P : α → Prop) : Prop := ∃ r, Ev g r ∧ P r
theorem Res.step {α : Type} {g f : Nat → Option α} {P : α → Prop} (h : ∀ k, g (k + 1) = f k) (k : Res f P) : Res g P := by
  obtain ⟨r, h1, h2⟩ := k
  exact ⟨r, Ev.step h h1, h2⟩
theorem Res.bind {α β : Type} {g : Nat → Option α} {f : Nat → α → Option β} {P : β → Prop} {a : α} (h : Ev g a) (k : Res (fun n => f n a) P) : Res (fun n => (g n).bind (f n)) P := by
  obtain ⟨r, h1, h2⟩ := k
  exact ⟨r, Ev.bind h h1, h2⟩
theorem inB_of {n low high : Int} (h : low ≤ n ∧ n ≤ high) : inB n low high = true := inB_true.2 h
theorem rise_snoc (most beyond x : Int) : ∀ (l : List Int) (p : Option Int), rise most beyond p l = 0 → (∀ y, y ∈ l → y < x) → (∀ q, p = some q → q < x) → 0 ≤ x → x ≤ most → rise most beyond p (l ++ [x]) = 0 := by
  intro l
  induction l with
  | nil =>
    intro p _ _ hp h0 h1
    show rise most beyond p [x] = 0
    rw [rise_cons, if_pos (inB_of ⟨h0, h1⟩)]
    cases p with
    | none => simp [rise]
    | some q =>
      have := hp q rfl
      rw [if_neg (by simpa using this)]
      simp [rise]
  | cons y l ih =>
    intro p h hl hp h0 h1
    rw [List.cons_append, rise_cons]
    rw [rise_cons] at h
    have hy := hl y List.mem_cons_self
    by_cases hb : inB y 0 most = true
    · rw [if_pos hb] at h ⊢
      have hn := fun h => ih (some y) h (fun z hz => hl z (List.mem_cons_of_mem _ hz)) (fun q e => by injection e with e; omega) h0 h1
      cases p with
      | none =>
        rw [if_neg (by simp)] at h ⊢
        exact hn h
      | some q =>
        by_cases hq : y ≤ q
        · rw [if_pos (by simpa using hq)] at h
          cases h
        · rw [if_neg (by simpa using hq)] at h ⊢
          exact hn h
    · rw [if_neg hb] at h ⊢
      exact h
theorem riseE_snoc {most beyond x : Int} {l : List Int} (h : riseE most beyond l = 0) (hl : ∀ y, y ∈ l → y < x) (h0 : 0 ≤ x) (h1 : x ≤ most) : riseE most beyond (l ++ [x]) = 0 :=
  rise_snoc most beyond x l none h hl (fun q e => by cases e) h0 h1
structure PartOK (i : Nat) (p : S50) : Prop where
  ris : riseE ((i : Int) - 1) 3 p.f0 = 0
  lt : ∀ x, x ∈ p.f0 → 0 ≤ x ∧ x < i
  len : p.f0.length ≤ i
  tool : 1 ≤ p.f2 ∧ p.f2 ≤ 3
  min : 0 ≤ p.f3 ∧ p.f3 ≤ 1000
structure PartsOK (parts : List S50) (st : List Bool) : Prop where
  len : st.length = parts.length
  ok : ∀ i, i < parts.length → PartOK i (parts.getD i z50)
  st : ∀ i, i < parts.length → st.getD i false = true → ∀ x, x ∈ (parts.getD i z50).f0 → st.getD x.toNat false = true
theorem getD_snoc_lt {α : Type} (l : List α) (x d : α) {i : Nat} (h : i < l.length) : (l ++ [x]).getD i d = l.getD i d := by
  rw [List.getD, List.getD, List.getElem?_append_left h]
theorem getD_snoc_eq {α : Type} (l : List α) (x d : α) : (l ++ [x]).getD l.length d = x := by
  rw [List.getD, List.getElem?_append_right (Nat.le_refl _)]; simp
theorem PartsOK.snoc {parts : List S50} {st : List Bool} (h : PartsOK parts st) {p : S50} {b : Bool} (hp : PartOK parts.length p) (hb : b = true → ∀ x, x ∈ p.f0 → st.getD x.toNat false = true) : PartsOK (parts ++ [p]) (st ++ [b]) := by
  refine ⟨by simp [h.len], fun i hi => ?_, fun i hi hs x hx => ?_⟩
  · rw [List.length_append, List.length_singleton] at hi
    by_cases e : i = parts.length
    · subst e; rw [getD_snoc_eq]; exact hp
    · rw [getD_snoc_lt _ _ _ (by omega)]; exact h.ok i (by omega)
  · rw [List.length_append, List.length_singleton] at hi
    by_cases e : i = parts.length
    · subst e
      rw [getD_snoc_eq] at hx
      rw [← h.len, getD_snoc_eq] at hs
      have hlt := hp.lt x hx
      rw [getD_snoc_lt _ _ _ (by rw [h.len]; omega)]
      exact hb hs x hx
    · rw [getD_snoc_lt _ _ _ (by omega)] at hx
      rw [getD_snoc_lt _ _ _ (by rw [h.len]; omega)] at hs
      have hlt := (h.ok i (by omega)).lt x hx
      rw [getD_snoc_lt _ _ _ (by rw [h.len]; omega)]
      exact h.st i (by omega) hs x hx
def wrongB (st : List Bool) : List S61 → Nat
  | [] => 0
  | l :: t => (if st.getD l.f0.toNat false != l.f1 then 1 else 0) + wrongB st t
theorem wrongB_le (st : List Bool) (l : List S61) : wrongB st l ≤ l.length := by
  induction l with
  | nil => simp [wrongB]
  | cons y l ih => simp only [wrongB, List.length_cons]; split <;> omega
theorem wrongs_l0 (parts : List S50) (swap : Int) (looks : List S61) (wrong : Int) (needs : List Int) (st : List Bool) (hl : looks.length ≤ 1000) (h : ∀ l, l ∈ looks → 0 ≤ l.f0 ∧ l.f0 < st.length) (d : Nat) :
    ∀ (i n : Nat), i + d = looks.length → n ≤ i → Ev (fun K => swarfref04_Wrongs.l0 K st (n : Int) (i : Int) parts swap looks wrong needs) ((n + wrongB st (looks.drop i) : Nat) : Int) := by
  induction d with
  | zero =>
    intro i n hi hn
    refine Ev.step (f := fun _ => some (n : Int)) (fun K => ?_) ?_
    · simp only [swarfref04_Wrongs.l0]
      rw [if_neg (by omega)]
    · rw [List.drop_of_length_le (by omega)]
      exact Ev.now _
  | succ d ih =>
    intro i n hi hn
    have hlt : i < looks.length := by omega
    have hrd : rd_T61 looks (i : Int) = looks.getD i z61 := by simp [rd_T61]
    have hm : looks.getD i z61 ∈ looks := by rw [List.getD, List.getElem?_eq_getElem hlt]; exact List.getElem_mem hlt
    have hb := h _ hm
    have hw : wrap64 ((i : Int) + 1) = ((i + 1 : Nat) : Int) := by rw [wrap64_id (by omega) (by omega)]; omega
    have hw2 : wrap64 ((n : Int) + 1) = ((n + 1 : Nat) : Int) := by rw [wrap64_id (by omega) (by omega)]; omega
    rw [drop_cons_rd looks i hlt z61]
    generalize looks.getD i z61 = x at *
    have hx : rdOf false st x.f0 = st.getD x.f0.toNat false := rfl
    refine Ev.step (f := fun K => if (st.getD x.f0.toNat false != x.f1) = true then swarfref04_Wrongs.l0 K st ((n + 1 : Nat) : Int) ((i + 1 : Nat) : Int) parts swap looks wrong needs else swarfref04_Wrongs.l0 K st (n : Int) ((i + 1 : Nat) : Int) parts swap looks wrong needs) (fun K => ?_) ?_
    · simp only [swarfref04_Wrongs.l0]
      rw [if_pos (by omega), if_pos (by omega), hrd, if_pos (by omega), if_pos (by omega), hw, hw2, hx]
    · simp only [wrongB]
      by_cases hc : (st.getD x.f0.toNat false != x.f1) = true
      · simp only [hc, if_true]
        have := ih (i + 1) (n + 1) (by omega) (by omega)
        rwa [Nat.add_assoc] at this
      · simp only [hc, Bool.false_eq_true, if_false, Nat.zero_add]
        exact ih (i + 1) n (by omega) (by omega)
theorem wrongs_ev (parts : List S50) (swap : Int) (looks : List S61) (wrong : Int) (needs : List Int) (st : List Bool) (hl : looks.length ≤ 1000) (h : ∀ l, l ∈ looks → 0 ≤ l.f0 ∧ l.f0 < st.length) :
    Ev (fun K => swarfref04_Wrongs.f K parts swap looks wrong needs st) ((wrongB st looks : Nat) : Int) := by
  have := wrongs_l0 parts swap looks wrong needs st hl h looks.length 0 0 (by omega) (by omega)
  simpa [swarfref04_Wrongs.f] using this
structure CarGood (a1 a2 : Int) (parts : List S50) (swap : Int) (looks : List S61) (wrong : Int) (needs : List Int) (st : List Bool) : Prop where
  p : PartsOK parts st
  one : 1 ≤ parts.length
  few : (parts.length : Int) ≤ a1
  sw : 0 ≤ swap ∧ swap ≤ 8
  lk : ∀ l, l ∈ looks → 0 ≤ l.f0 ∧ l.f0 < parts.length
  ll : (looks.length : Int) ≤ a2
  wr : 0 ≤ wrong ∧ wrong ≤ 12 ∧ (wrongB st looks : Int) ≤ wrong
  nd : riseE 8 1 needs = 0
  nl : needs.length ≤ 3
abbrev CarT := List S50 × Int × List S61 × Int × List Int × List Bool × Int
def CarGoodT (a1 a2 : Int) (r : CarT) : Prop := CarGood a1 a2 r.1 r.2.1 r.2.2.1 r.2.2.2.1 r.2.2.2.2.1 r.2.2.2.2.2.1
theorem carOf_l3 {a1 a2 : Int} {parts : List S50} {swap : Int} {looks : List S61} {wrong : Int} {st : List Bool} (hg : CarGood a1 a2 parts swap looks wrong [] st) (d : Nat) :
    ∀ (i : Nat) (s : Int) (needs : List Int), i + d = 9 → riseE 8 1 needs = 0 → (∀ x, x ∈ needs → x < i) → needs.length ≤ 3 → Res (fun K => swarfkit_CarOf.l3 K st (i : Int) s parts swap looks wrong needs) (CarGoodT a1 a2) := by
  induction d with
  | zero =>
    intro i s needs hi hr hlt hlen
    refine Res.step (f := fun K => swarfkit_CarOf.j4 K st (i : Int) false s parts swap looks wrong needs) (fun K => ?_) ?_
    · simp only [swarfkit_CarOf.l3]
      rw [if_neg (by omega)]
    · refine Res.step (f := fun K => some (parts, swap, looks, wrong, needs, st, s)) (fun K => ?_) ?_
      · simp only [swarfkit_CarOf.j4]
        rw [if_neg (by decide)]
      · exact ⟨_, Ev.now _, ⟨hg.p, hg.one, hg.few, hg.sw, hg.lk, hg.ll, hg.wr, hr, hlen⟩⟩
  | succ d ih =>
    intro i s needs hi hr hlt hlen
    refine Res.step (f := fun K => swarfkit_CarOf.j4 K st (i : Int) (decide ((needs.length : Int) < 3)) s parts swap looks wrong needs) (fun K => ?_) ?_
    · simp only [swarfkit_CarOf.l3]
      rw [if_pos (by omega)]
    by_cases h3 : (needs.length : Int) < 3
    · obtain ⟨b, s', hb⟩ := often_ok s 1 5 (by decide) (by decide)
      have hw : wrap64 ((i : Int) + 1) = ((i + 1 : Nat) : Int) := by rw [wrap64_id (by omega) (by omega)]; omega
      refine Res.step (f := fun K => if b = true then swarfkit_CarOf.l3 K st ((i + 1 : Nat) : Int) s' parts swap looks wrong (needs ++ [(i : Int)]) else swarfkit_CarOf.l3 K st ((i + 1 : Nat) : Int) s' parts swap looks wrong needs) (fun K => ?_) ?_
      · have hl2 : needs.length < 17592186044416 := by omega
        simp only [swarfkit_CarOf.j4, decide_eq_true h3, if_true, hb, Option.bind_some, hl2, hw]
      · cases b with
        | true =>
          simp only [if_true]
          refine ih (i + 1) s' _ (by omega) (riseE_snoc hr hlt (by omega) (by omega)) (fun x hx => ?_) (by simp; omega)
          rcases List.mem_append.1 hx with hx | hx
          · have := hlt x hx; omega
          · have := List.mem_singleton.1 hx; omega
        | false =>
          simp only [Bool.false_eq_true, if_false]
          exact ih (i + 1) s' _ (by omega) hr (fun x hx => by have := hlt x hx; omega) hlen
    · refine Res.step (f := fun K => some (parts, swap, looks, wrong, needs, st, s)) (fun K => ?_) ?_
      · simp only [swarfkit_CarOf.j4]
        rw [if_neg (by simpa using h3)]
      · exact ⟨_, Ev.now _, ⟨hg.p, hg.one, hg.few, hg.sw, hg.lk, hg.ll, hg.wr, hr, hlen⟩⟩
end Go.Proofs.Ytkkmfcdikkiodaa.PC4
namespace Go.Proofs.Ytkkmfcdikkiodaa.PC4
set_option linter.unusedVariables false
open Go.RowKit Go.Proofs.YtkkmfcdikkiodaaW.PrintWords Go.Proofs.YtkkmfcdikkiodaaW.PrintLast Go.Proofs.YtkkmfcdikkiodaaW.PrintMore
theorem carOf_l2 {a1 a2 : Int} {parts : List S50} {swap : Int} {st : List Bool} (hp : PartsOK parts st) (h1 : 1 ≤ parts.length) (h2 : (parts.length : Int) ≤ a1) (h9 : a1 ≤ 9) (hsw : 0 ≤ swap ∧ swap ≤ 8) (h12 : a2 ≤ 12) (d : Nat) :
    ∀ (s : Int) (looks : List S61), (looks.length : Int) + d ≤ a2 → (∀ l, l ∈ looks → 0 ≤ l.f0 ∧ l.f0 < parts.length) → Res (fun K => swarfkit_CarOf.l2 K st (d : Int) s parts swap looks 0) (CarGoodT a1 a2) := by
  induction d with
  | zero =>
    intro s looks hd hl
    have hlen := hp.len
    have hle := wrongB_le st looks
    have hw := wrongs_ev parts swap looks 0 [] st (by omega) (fun l h => by have := hl l h; rw [hlen]; exact this)
    obtain ⟨r, s', he, hr⟩ := either_ok s [0, 0, 1] (by simp) (by simp)
    have hr01 : 0 ≤ r ∧ r ≤ 1 := by simp at hr; omega
    refine Res.step (f := fun K => (swarfref04_Wrongs.f K parts swap looks 0 ([] : List Int) st).bind fun t259 => swarfkit_CarOf.l3 K st ((0 : Nat) : Int) s' parts swap looks (mn 12 (wrap64 (t259 + r))) ([] : List Int)) (fun K => ?_) ?_
    · simp only [swarfkit_CarOf.l2]
      rw [if_neg (by omega), he]
      rfl
    · refine Res.bind hw ?_
      rw [wrap64_id (by omega) (by omega)]
      have hm : 0 ≤ mn 12 ((wrongB st looks : Int) + r) ∧ mn 12 ((wrongB st looks : Int) + r) ≤ 12 ∧ (wrongB st looks : Int) ≤ mn 12 ((wrongB st looks : Int) + r) := by
        unfold mn
        split <;> omega
      exact carOf_l3 (a1 := a1) (a2 := a2) ⟨hp, h1, h2, hsw, hl, by omega, hm, rfl, by simp⟩ 9 0 s' [] rfl rfl (fun x hx => by cases hx) (by simp)
  | succ d ih =>
    intro s looks hd hl
    have hlen := hp.len
    obtain ⟨q, s1, hb, hq0, hq1⟩ := below_ok s parts.length (by omega) (by omega)
    obtain ⟨b, s2, ho⟩ := often_ok s1 1 6 (by decide) (by decide)
    have hw : wrap64 (((d + 1 : Nat) : Int) - 1) = (d : Int) := by rw [wrap64_id (by omega) (by omega)]; omega
    refine Res.step (f := fun K => swarfkit_CarOf.l2 K st (d : Int) s2 parts swap (looks ++ [(⟨q, (rdOf false st q) != b⟩ : S61)]) 0) (fun K => ?_) ?_
    · simp only [swarfkit_CarOf.l2]
      rw [if_pos (by omega), hb]
      simp only [Option.bind_some]
      rw [if_pos hq0, if_pos (by omega), ho]
      simp only [Option.bind_some]
      rw [if_pos (by omega), hw]
    · refine ih s2 _ (by simp; omega) (fun l h => ?_)
      rcases List.mem_append.1 h with h | h
      · exact hl l h
      · rw [List.mem_singleton.1 h]
        exact ⟨hq0, hq1⟩
theorem bind_of {α β : Type} {o : Option α} {a : α} {f : α → Option β} {r : Option β} (h : o = some a) (h2 : f a = r) : o.bind f = r := by rw [h]; exact h2
theorem carOf_l1 {a1 a2 : Int} {parts : List S50} {st : List Bool} (hp : PartsOK parts st) (h9 : parts.length < 9) (x10 : Int) (bad : Bool) (tool min : Int) (ht : 1 ≤ tool ∧ tool ≤ 3) (hm : 0 ≤ min ∧ min ≤ 1000)
    (hT : ∀ (p : S50) (b : Bool) (s : Int), PartOK parts.length p → (b = true → ∀ x, x ∈ p.f0 → st.getD x.toNat false = true) → Res (fun K => swarfkit_CarOf.l0 K a2 (st ++ [b]) (wrap64 (x10 - 1)) s (parts ++ [p]) 0 0) (CarGoodT a1 a2)) (d : Nat) :
    ∀ (k : Nat) (s : Int) (may : Bool) (bef : List Int), k + d = parts.length → riseE ((parts.length : Int) - 1) 3 bef = 0 → (∀ x, x ∈ bef → 0 ≤ x ∧ x < k) → bef.length ≤ k → (may = true → ∀ x, x ∈ bef → st.getD x.toNat false = true) →
      Res (fun K => swarfkit_CarOf.l1 K a2 st x10 (parts.length : Int) may (k : Int) s parts 0 0 bef bad tool min) (CarGoodT a1 a2) := by
  induction d with
  | zero =>
    intro k s may bef hk hr hlt hlen hmay
    have hsl := hp.len
    have hP : PartOK parts.length ⟨bef, bad, tool, min⟩ := ⟨hr, fun x hx => by have := hlt x hx; omega, by show bef.length ≤ _; omega, ht, hm⟩
    have hl1 : parts.length < 2932031007402 := by omega
    have hl2 : st.length < 140737488355328 := by omega
    cases may with
    | true =>
      obtain ⟨b, s1, ho⟩ := often_ok s 3 5 (by decide) (by decide)
      refine Res.step (f := fun K => swarfkit_CarOf.l0 K a2 (st ++ [b]) (wrap64 (x10 - 1)) s1 (parts ++ [(⟨bef, bad, tool, min⟩ : S50)]) 0 0) (fun K => ?_) (hT _ b s1 hP (fun _ => hmay rfl))
      simp only [swarfkit_CarOf.l1]
      rw [if_neg (by omega)]
      simp only [hl1, hl2, if_true, Option.bind_some, ho]
    | false =>
      refine Res.step (f := fun K => swarfkit_CarOf.l0 K a2 (st ++ [false]) (wrap64 (x10 - 1)) s (parts ++ [(⟨bef, bad, tool, min⟩ : S50)]) 0 0) (fun K => ?_) (hT _ false s hP (fun h => by cases h))
      simp only [swarfkit_CarOf.l1]
      rw [if_neg (by omega)]
      simp only [hl1, hl2, if_true, Option.bind_some, Bool.false_eq_true, if_false]
  | succ d ih =>
    intro k s may bef hk hr hlt hlen hmay
    have hsl := hp.len
    obtain ⟨b, s1, ho⟩ := often_ok s 1 4 (by decide) (by decide)
    have hw : wrap64 ((k : Int) + 1) = ((k + 1 : Nat) : Int) := by rw [wrap64_id (by omega) (by omega)]; omega
    have hlt2 : (k : Int) < (parts.length : Int) := by omega
    have hlt3 : (k : Int) < (st.length : Int) := by omega
    have hk0 : 0 ≤ (k : Int) := by omega
    have hbl : bef.length < 17592186044416 := by omega
    have hlt4 : ∀ x, x ∈ bef → 0 ≤ x ∧ x < ((k + 1 : Nat) : Int) := fun x hx => by have := hlt x hx; omega
    have hlt5 : ∀ x, x ∈ bef ++ [(k : Int)] → 0 ≤ x ∧ x < ((k + 1 : Nat) : Int) := fun x hx => by
      rcases List.mem_append.1 hx with hx | hx
      · exact hlt4 x hx
      · rw [List.mem_singleton.1 hx]; omega
    have hr5 : riseE ((parts.length : Int) - 1) 3 (bef ++ [(k : Int)]) = 0 := riseE_snoc hr (fun y hy => (hlt y hy).2) hk0 (by omega)
    cases b with
    | false =>
      refine Res.step (f := fun K => swarfkit_CarOf.l1 K a2 st x10 (parts.length : Int) may ((k + 1 : Nat) : Int) s1 parts 0 0 bef bad tool min) (fun K => ?_) (ih (k + 1) s1 may bef (by omega) hr hlt4 (by omega) hmay)
      simp only [swarfkit_CarOf.l1, hlt2, if_true, ho, Option.bind_some, Bool.false_eq_true, if_false, hw]
    | true =>
      cases may with
      | false =>
        refine Res.step (f := fun K => swarfkit_CarOf.l1 K a2 st x10 (parts.length : Int) false ((k + 1 : Nat) : Int) s1 parts 0 0 (bef ++ [(k : Int)]) bad tool min) (fun K => ?_) (ih (k + 1) s1 false _ (by omega) hr5 hlt5 (by simp; omega) (fun h => by cases h))
        simp only [swarfkit_CarOf.l1, hlt2, if_true, ho, Option.bind_some, Bool.false_eq_true, if_false, hw, hbl]
      | true =>
        refine Res.step (f := fun K => swarfkit_CarOf.l1 K a2 st x10 (parts.length : Int) (rdOf false st (k : Int)) ((k + 1 : Nat) : Int) s1 parts 0 0 (bef ++ [(k : Int)]) bad tool min) (fun K => ?_) (ih (k + 1) s1 _ _ (by omega) hr5 hlt5 (by simp; omega) (fun h x hx => ?_))
        · simp only [swarfkit_CarOf.l1, hlt2, hlt3, hk0, if_true, ho, Option.bind_some, hw, hbl]
        · rcases List.mem_append.1 hx with hx | hx
          · exact hmay rfl x hx
          · rw [List.mem_singleton.1 hx]
            exact h
theorem carOf_l0 {a1 a2 : Int} (h9 : a1 ≤ 9) (h12 : a2 ≤ 12) (h0 : 0 ≤ a2) (d : Nat) :
    ∀ (parts : List S50) (st : List Bool) (s : Int), PartsOK parts st → (parts.length : Int) + d ≤ a1 → 1 ≤ parts.length + d → Res (fun K => swarfkit_CarOf.l0 K a2 st (d : Int) s parts 0 0) (CarGoodT a1 a2) := by
  induction d with
  | zero =>
    intro parts st s hp hd h1
    obtain ⟨r1, s1, hb1, hr1, hr1'⟩ := below_ok s 9 (by decide) (by decide)
    obtain ⟨r2, s2, hb2, hr2⟩ := either_ok s1 [0, r1] (by simp) (by simp)
    obtain ⟨r3, s3, hb3, hr3, hr3'⟩ := below_ok s2 (a2 + 1) (by omega) (by omega)
    have hsw : 0 ≤ r2 ∧ r2 ≤ 8 := by simp at hr2; omega
    have hw : wrap64 (a2 + 1) = a2 + 1 := wrap64_id (by omega) (by omega)
    obtain ⟨n, rfl⟩ : ∃ n : Nat, r3 = n := ⟨r3.toNat, by omega⟩
    refine Res.step (f := fun K => swarfkit_CarOf.l2 K st (n : Int) s3 parts r2 ([] : List S61) 0) (fun K => ?_) (carOf_l2 hp (by omega) (by omega) h9 hsw h12 n s3 [] (by simp; omega) (fun l h => by cases h))
    have hgt : ¬ (((0 : Nat) : Int) > 0) := by omega
    rw [swarfkit_CarOf.l0, if_neg hgt]
    refine bind_of hb1 ?_
    refine bind_of hb2 ?_
    refine bind_of (a := (((n : Nat) : Int), s3)) ?_ rfl
    rw [hw]
    exact hb3
  | succ d ih =>
    intro parts st s hp hd h1
    obtain ⟨b, s1, ho⟩ := often_ok s 1 2 (by decide) (by decide)
    obtain ⟨tool, s2, hbt, ht0, ht1⟩ := between_ok s1 1 3 (by decide) (by decide) (by decide)
    obtain ⟨m1, s3, hm1, hm10, hm11⟩ := below_ok s2 30 (by decide) (by decide)
    obtain ⟨m2, s4, hm2, hm20, hm21⟩ := below_ok s3 30 (by decide) (by decide)
    obtain ⟨m, s5, he, hm⟩ := either_ok s4 [0, m1, m2] (by simp) (by simp)
    have hmm : 0 ≤ m ∧ m ≤ 1000 := by simp at hm; omega
    have hw : wrap64 (((d + 1 : Nat) : Int) - 1) = (d : Int) := by rw [wrap64_id (by omega) (by omega)]; omega
    refine Res.step (f := fun K => swarfkit_CarOf.l1 K a2 st ((d + 1 : Nat) : Int) (parts.length : Int) true ((0 : Nat) : Int) s5 parts 0 0 ([] : List Int) b tool m) (fun K => ?_)
      (carOf_l1 hp (by omega) _ b tool m ⟨ht0, ht1⟩ hmm (fun p b s hP hst => ?_) parts.length 0 s5 true [] (by omega) (by simp [riseE, rise]) (fun x h => by cases h) (Nat.le_refl _) (fun _ x h => by cases h))
    · have hz : ((0 : Nat) : Int) = 0 := rfl
      have hgt : ((d + 1 : Nat) : Int) > 0 := by omega
      rw [swarfkit_CarOf.l0, if_pos hgt, hz]
      refine bind_of ho ?_
      refine bind_of hbt ?_
      refine bind_of hm1 ?_
      refine bind_of hm2 ?_
      exact bind_of he rfl
    · rw [hw]
      exact ih _ _ s (hp.snoc hP hst) (by simp; omega) (by rw [List.length_append, List.length_singleton]; omega)
theorem carOf_ev (s a1 a2 : Int) (h1 : 1 ≤ a1) (h9 : a1 ≤ 9) (h0 : 0 ≤ a2) (h12 : a2 ≤ 12) : Res (fun K => swarfkit_CarOf.f K s a1 a2) (CarGoodT a1 a2) := by
  obtain ⟨n, s1, hb, hn0, hn1⟩ := between_ok s 1 a1 h1 (by decide) (by omega)
  obtain ⟨m, rfl⟩ : ∃ m : Nat, n = m := ⟨n.toNat, by omega⟩
  have h := carOf_l0 (a1 := a1) h9 h12 h0 m [] [] s1 ⟨rfl, fun i h => by simp at h, fun i h => by simp at h⟩ (by simp; omega) (by simp; omega)
  obtain ⟨r, h2, h3⟩ := h
  refine ⟨r, ?_, h3⟩
  obtain ⟨K, h2⟩ := h2
  refine ⟨K, fun k hk => ?_⟩
  unfold swarfkit_CarOf.f
  rw [hb]
  exact h2 k hk
end Go.Proofs.Ytkkmfcdikkiodaa.PC4
namespace Go.Proofs.Ytkkmfcdikkiodaa.PC4
set_option linter.unusedVariables false
open Go.RowKit Go.Proofs.YtkkmfcdikkiodaaW.PrintWords Go.Proofs.YtkkmfcdikkiodaaW.PrintLast Go.Proofs.YtkkmfcdikkiodaaW.PrintMore
theorem rawHas_eq (s i : Nat) (hs : s < 65536) (hi : i ≤ 16) : rawHas (i : Int) (s : Int) = s.testBit i := by
  have h := has_f s i hs hi
  unfold strip_set_has.f at h
  rw [if_pos (by omega)] at h
  injection h
theorem rawAll_eq (s o : Nat) (hs : s < 65536) (ho : o < 65536) : rawAll (o : Int) (s : Int) = subM o s := u16_andNot o s ho hs
theorem verdict_cases (T : List Nat) (p : Int → Bool) (q : Nat → Bool) (hq : ∀ s, s ∈ T → p (s : Int) = q s) :
    (verdictS (setsI T) p = 1 ∧ ∀ s, s ∈ T → q s = true) ∨ (verdictS (setsI T) p = 2 ∧ T ≠ [] ∧ ∀ s, s ∈ T → q s = false) ∨ (verdictS (setsI T) p = 3 ∧ (∃ s, s ∈ T ∧ q s = true) ∧ ∃ s, s ∈ T ∧ q s = false) := by
  unfold verdictS
  by_cases h1 : (setsI T).any (fun x => !p x) = true
  · rw [if_pos h1]
    obtain ⟨x, hx, h1⟩ := List.any_eq_true.1 h1
    obtain ⟨s, hs, rfl⟩ := List.mem_map.1 hx
    have hs2 : q s = false := by rw [← hq s hs]; simpa using h1
    by_cases h2 : (setsI T).any p = true
    · rw [if_pos h2]
      obtain ⟨y, hy, h2⟩ := List.any_eq_true.1 h2
      obtain ⟨t, ht, rfl⟩ := List.mem_map.1 hy
      exact .inr (.inr ⟨rfl, ⟨t, ht, by rw [← hq t ht]; exact h2⟩, s, hs, hs2⟩)
    · rw [if_neg h2]
      refine .inr (.inl ⟨rfl, fun e => (by rw [e] at hs; cases hs), fun t ht => ?_⟩)
      cases hb : q t with
      | false => rfl
      | true => exact absurd (List.any_eq_true.2 ⟨(t : Int), List.mem_map.2 ⟨t, ht, rfl⟩, by rw [hq t ht]; exact hb⟩) h2
  · rw [if_neg h1]
    refine .inl ⟨rfl, fun t ht => ?_⟩
    cases hb : q t with
    | true => rfl
    | false => exact absurd (List.any_eq_true.2 ⟨(t : Int), List.mem_map.2 ⟨t, ht, rfl⟩, by rw [hq t ht, hb]; rfl⟩) h1
theorem okGo_iff (s : Nat) (l : List S50) : ∀ i, okGo s i l = true ↔ ∀ k (h : k < l.length), s.testBit (i + k) = true → subM (maskOf (l[k]).f0) s = true := by
  induction l with
  | nil => intro i; simp [okGo]
  | cons p l ih =>
    intro i
    rw [okGo_cons]
    by_cases hc : (s.testBit i && !subM (maskOf p.f0) s) = true
    · rw [if_pos hc]
      rw [Bool.and_eq_true, Bool.not_eq_true'] at hc
      refine ⟨fun h => (by cases h), fun h => ?_⟩
      have := h 0 (by simp) (by simpa using hc.1)
      rw [List.getElem_cons_zero, hc.2] at this
      cases this
    · rw [if_neg hc, ih]
      constructor
      · intro h k hk hb
        cases k with
        | zero =>
          rw [List.getElem_cons_zero]
          cases hs : subM (maskOf p.f0) s with
          | true => rfl
          | false => exact absurd (by rw [hs]; simpa using hb) hc
        | succ k =>
          rw [List.getElem_cons_succ]
          exact h k (by simpa using hk) (by rwa [show i + 1 + k = i + (k + 1) by omega])
      · intro h k hk hb
        have := h (k + 1) (by simpa using hk) (by rwa [show i + (k + 1) = i + 1 + k by omega])
        rwa [List.getElem_cons_succ] at this
theorem okM_iff {parts : List S50} (h : ∀ i, i < parts.length → PartOK i (parts.getD i z50)) (s : Nat) : okM parts s = true ↔ ∀ i, i < parts.length → s.testBit i = true → ∀ x, x ∈ (parts.getD i z50).f0 → s.testBit x.toNat = true := by
  unfold okM
  rw [okGo_iff]
  have hg : ∀ i (hi : i < parts.length), parts.getD i z50 = parts[i] := fun i hi => by rw [List.getD, List.getElem?_eq_getElem hi]; rfl
  constructor
  · intro h1 i hi hb x hx
    have h2 := h1 i hi (by rwa [Nat.zero_add])
    have hp := h i hi
    rw [hg i hi] at hx hp
    refine (subM_iff _ _).1 h2 _ ?_
    exact (maskOf_bit _ (fun y hy => (hp.lt y hy).1) _).2 (by have := (hp.lt x hx).1; rwa [Int.toNat_of_nonneg this])
  · intro h1 i hi hb
    rw [Nat.zero_add] at hb
    have hp := h i hi
    have h2 := h1 i hi hb
    rw [hg i hi] at h2 hp
    refine (subM_iff _ _).2 (fun k hk => ?_)
    have := h2 (k : Int) ((maskOf_bit _ (fun y hy => (hp.lt y hy).1) _).1 hk)
    rwa [Int.toNat_natCast] at this
theorem mem_truths {parts : List S50} {looks : List S61} {wrong : Int} (s : Nat) : s ∈ truthsL parts looks wrong ↔ s < 2 ^ parts.length ∧ okM parts s = true ∧ (wrongM s looks : Int) ≤ wrong := by
  unfold truthsL truthsOf statesL statesTo
  simp only [List.mem_map, List.mem_filter, List.mem_range, decide_eq_true_eq]
  constructor
  · rintro ⟨x, ⟨⟨t, ⟨h1, h2⟩, rfl⟩, h3⟩, rfl⟩
    exact ⟨h1, h2, h3⟩
  · rintro ⟨h1, h2, h3⟩
    exact ⟨(s, wrongM s looks), ⟨⟨s, ⟨h1, h2⟩, rfl⟩, h3⟩, rfl⟩
def stM : List Bool → Nat
  | [] => 0
  | b :: l => (if b then 1 else 0) + 2 * stM l
theorem stM_lt (l : List Bool) : stM l < 2 ^ l.length := by
  induction l with
  | nil => simp [stM]
  | cons b l ih => simp only [stM, List.length_cons, Nat.pow_succ]; split <;> omega
theorem stM_bit (l : List Bool) : ∀ i, (stM l).testBit i = l.getD i false := by
  induction l with
  | nil => intro i; simp [stM]
  | cons b l ih =>
    intro i
    cases i with
    | zero =>
      rw [Nat.testBit_zero]
      cases b <;> simp [stM] <;> omega
    | succ i =>
      rw [Nat.testBit_succ]
      have : stM (b :: l) / 2 = stM l := by simp only [stM]; split <;> omega
      rw [this, ih]
      simp
theorem wrongM_st (st : List Bool) (looks : List S61) : wrongM (stM st) looks = wrongB st looks := by
  induction looks with
  | nil => rfl
  | cons l t ih => simp only [wrongM, wrongB, stM_bit, ih]
theorem CarGood.truth {a1 a2 : Int} {parts : List S50} {swap : Int} {looks : List S61} {wrong : Int} {needs : List Int} {st : List Bool} (h : CarGood a1 a2 parts swap looks wrong needs st) : stM st ∈ truthsL parts looks wrong := by
  refine (mem_truths _).2 ⟨?_, (okM_iff h.p.ok _).2 (fun i hi hb x hx => ?_), by rw [wrongM_st]; exact h.wr.2.2⟩
  · rw [← h.p.len]; exact stM_lt st
  · rw [stM_bit] at hb ⊢
    exact h.p.st i hi hb x hx
theorem partsE_of (l : List S50) : ∀ i : Int, (∀ k (h : k < l.length), riseE (i + k - 1) 3 (l[k]).f0 = 0 ∧ inB (l[k]).f2 1 4 = true ∧ inB (l[k]).f3 0 1000 = true) → partsE i l = 0 := by
  induction l with
  | nil => intro i _; rfl
  | cons p l ih =>
    intro i h
    obtain ⟨h1, h2, h3⟩ := h 0 (by simp)
    rw [List.getElem_cons_zero] at h1 h2 h3
    rw [partsE_cons, if_pos (by simpa using h1), if_pos (by rw [h2, h3]; rfl)]
    refine ih (i + 1) (fun k hk => ?_)
    have := h (k + 1) (by simpa using hk)
    rw [List.getElem_cons_succ] at this
    rw [show i + 1 + (k : Int) - 1 = i + ((k + 1 : Nat) : Int) - 1 by omega]
    exact this
theorem CarGood.check {a1 a2 : Int} {parts : List S50} {swap : Int} {looks : List S61} {wrong : Int} {needs : List Int} {st : List Bool} (h : CarGood a1 a2 parts swap looks wrong needs st) (h9 : a1 ≤ 9) (h12 : a2 ≤ 12) : checkE parts swap looks wrong needs = 0 := by
  have hp := h.one
  have hf := h.few
  have hl := h.ll
  unfold checkE
  rw [if_neg (by omega), if_neg (by omega), if_pos ?_]
  · unfold checkT
    rw [if_pos (inB_of (by have := h.sw; omega)), if_neg (by omega), if_neg ?_, if_pos (inB_of ⟨h.wr.1, h.wr.2.1⟩), if_neg (by have := h.nl; omega), h.nd]
    intro e
    obtain ⟨l, hl, hb⟩ := List.any_eq_true.1 e
    have := h.lk l hl
    unfold lookBad at hb
    simp only [Bool.not_eq_true', Bool.and_eq_false_iff, decide_eq_false_iff_not] at hb
    omega
  · refine partsE_of _ _ (fun k hk => ?_)
    have hk2 := h.p.ok k hk
    have hg : parts.getD k z50 = parts[k] := by rw [List.getD, List.getElem?_eq_getElem hk]; rfl
    rw [hg] at hk2
    exact ⟨by rw [Int.zero_add]; exact hk2.ris, inB_of (by have := hk2.tool; omega), inB_of hk2.min⟩
theorem CarGood.fits {a1 a2 : Int} {parts : List S50} {swap : Int} {looks : List S61} {wrong : Int} {needs : List Int} {st : List Bool} (h : CarGood a1 a2 parts swap looks wrong needs st) (h9 : a1 ≤ 9) (h12 : a2 ≤ 12) : carFits parts looks needs := by
  have hf := h.few
  have hl := h.ll
  have hn := h.nl
  refine ⟨by omega, by omega, by omega, fun p hp => ?_⟩
  obtain ⟨i, hi, rfl⟩ := List.getElem_of_mem hp
  have hk2 := h.p.ok i hi
  rw [List.getD, List.getElem?_eq_getElem hi] at hk2
  have : (parts[i]).f0.length ≤ i := hk2.len
  omega
end Go.Proofs.Ytkkmfcdikkiodaa.PC4
namespace Go.Proofs.Ytkkmfcdikkiodaa.PC4
set_option linter.unusedVariables false
open Go.RowKit Go.Proofs.YtkkmfcdikkiodaaW.PrintWords Go.Proofs.YtkkmfcdikkiodaaW.PrintLast Go.Proofs.YtkkmfcdikkiodaaW.PrintMore
def carP : List S50 := [⟨[], true, 1, 10⟩, ⟨[0], true, 2, 20⟩, ⟨[1], true, 1, 15⟩, ⟨[], false, 3, 30⟩, ⟨[0, 3], true, 3, 5⟩]
def carL : List S61 := [⟨0, true⟩, ⟨1, true⟩, ⟨2, false⟩, ⟨4, false⟩]
set_option maxRecDepth 100000 in
theorem car_fits : carFits carP carL [2, 5] := by decide
theorem car_out : outE carP 2 carL 1 [2, 5] = ([1, 3, 3, 3, 3], 0) := by decide +kernel
theorem car_clean : cleanE carP 2 carL 1 [2, 5] = (2, 0) := by decide +kernel
theorem car_work : workE carP 2 carL 1 [2, 5] = ([1, 2, 3, 4], 74, 0) := by decide +kernel
theorem awake_eq (k : Nat) : swarflaw04_awake.f k = ((swarfkit_EqualInts.f k [1, 3, 3, 3, 3] [1, 3, 3, 3, 3]).bind fun t189 => (if t189 = true then ((swarfkit_EqualInts.f k [1, 2, 3, 4] [1, 2, 3, 4]).bind fun t193 => (some t193)) else (some false))) := by
  have hcar : swarflaw04_car.f = some (carP, 2, carL, 1, [2, 5]) := rfl
  have h1 : strip_Out.f carP 2 carL 1 [2, 5] = some ([1, 3, 3, 3, 3], 0) := by unfold strip_Out.f; rw [if_pos car_fits, car_out]
  have h2 : strip_Clean.f carP 2 carL 1 [2, 5] = some (2, 0) := by unfold strip_Clean.f; rw [if_pos car_fits, car_clean]
  have h3 : strip_Work.f carP 2 carL 1 [2, 5] = some ([1, 2, 3, 4], 74, 0) := by unfold strip_Work.f; rw [if_pos car_fits, car_work]
  unfold swarflaw04_awake.f
  refine bind_of hcar ?_
  refine bind_of h1 ?_
  refine bind_of hcar ?_
  refine bind_of h2 ?_
  refine bind_of hcar ?_
  exact bind_of h3 rfl
theorem equal_l0 (a b : List Int) (hl : a.length = b.length) (hs : a.length ≤ 1000000000) (d : Nat) : ∀ i : Nat, i + d = a.length → Ev (fun K => swarfkit_EqualInts.l0 K a b true (i : Int)) (decide (a.drop i = b.drop i)) := by
  induction d with
  | zero =>
    intro i hi
    have hc : ¬ (i : Int) < (a.length : Int) := by omega
    refine Ev.step (f := fun _ => some true) (fun K => ?_) ?_
    · simp only [swarfkit_EqualInts.l0, hc, if_true, if_false]
    · rw [List.drop_of_length_le (by omega), List.drop_of_length_le (by omega)]
      exact Ev.now _
  | succ d ih =>
    intro i hi
    have hc : (i : Int) < (a.length : Int) := by omega
    have hc2 : (i : Int) < (b.length : Int) := by omega
    have hc0 : 0 ≤ (i : Int) := by omega
    have hw : wrap64 ((i : Int) + 1) = ((i + 1 : Nat) : Int) := by rw [wrap64_id (by omega) (by omega)]; omega
    refine Ev.step (f := fun K => swarfkit_EqualInts.l0 K a b (a.getD i 0 == b.getD i 0) ((i + 1 : Nat) : Int)) (fun K => ?_) ?_
    · simp only [swarfkit_EqualInts.l0, hc, hc2, hc0, if_true, hw, rd_getD]
    · rw [drop_cons_rd a i (by omega) 0, drop_cons_rd b i (by omega) 0]
      by_cases he : a.getD i 0 = b.getD i 0
      · rw [he, beq_self_eq_true]
        have := ih (i + 1) (by omega)
        simpa using this
      · rw [beq_eq_false_iff_ne.2 he]
        refine Ev.step (f := fun _ => some false) (fun K => ?_) ?_
        · simp only [swarfkit_EqualInts.l0, Bool.false_eq_true, if_false]
        · have : decide (a.getD i 0 :: a.drop (i + 1) = b.getD i 0 :: b.drop (i + 1)) = false := decide_eq_false (fun e => he (by injection e))
          rw [this]
          exact Ev.now _
theorem equal_ev (a b : List Int) (hs : a.length ≤ 1000000000) (hs2 : b.length ≤ 1000000000) : Ev (fun K => swarfkit_EqualInts.f K a b) (decide (a = b)) := by
  unfold swarfkit_EqualInts.f
  by_cases hl : a.length = b.length
  · have : ((a.length : Int) == (b.length : Int)) = true := beq_iff_eq.2 (by omega)
    rw [this]
    have := equal_l0 a b hl hs a.length 0 (by omega)
    simpa using this
  · have h1 : ((a.length : Int) == (b.length : Int)) = false := beq_eq_false_iff_ne.2 (by omega)
    rw [h1, decide_eq_false (fun e => hl (by rw [e]))]
    refine Ev.step (f := fun _ => some false) (fun K => ?_) (Ev.now _)
    simp only [swarfkit_EqualInts.l0, Bool.false_eq_true, if_false]
theorem awake_ev : Ev (fun K => swarflaw04_awake.f K) true := by
  refine Ev.congr awake_eq ?_
  refine Ev.bind (equal_ev _ _ (by decide) (by decide)) ?_
  simp only [decide_true, if_true]
  refine Ev.bind (equal_ev _ _ (by decide) (by decide)) ?_
  simp only [decide_true]
  exact Ev.now _
theorem awake_true {k : Nat} {r : Bool} (h : swarflaw04_awake.f k = some r) : r = true := by
  obtain ⟨K, hK⟩ := awake_ev
  have h1 := at_rounds (g := fun k => swarflaw04_awake.f k) swarflaw04_awake.mono (Nat.le_max_left k K) h
  have h2 := hK (max k K) (Nat.le_max_right k K)
  exact Option.some.inj (h1.symm.trans h2)
end Go.Proofs.Ytkkmfcdikkiodaa.PC4
namespace Go.Proofs.Ytkkmfcdikkiodaa.PC4
open Go.RowKit Go.Proofs.YtkkmfcdikkiodaaW.PrintWords Go.Proofs.YtkkmfcdikkiodaaW.PrintLast Go.Proofs.YtkkmfcdikkiodaaW.PrintMore
attribute [local go_sem] max2_int min2_int max_two min_two max_three min_three max_four min_four
set_option linter.unusedVariables false
set_option linter.unusedSimpArgs false
set_option maxHeartbeats 8000000 in
set_option maxRecDepth 100000 in
theorem swarflaw04_awake.calls (k : Nat)  (r : Bool) (w : World) (h : swarflaw04_awake.f k  = some r) :
    Calls Try.prog 16 #[] w fun e w' => e = .returned (.bool r) ∧ Below w.heap.size w w' := by
  have hrt := Aside0.mk (awake_true h)
  have HB := Aside0.mk (Below.refl w.heap.size w)
  have H : ((swarflaw04_car.f).bind fun bt142 => ((strip_Out.f bt142.1 bt142.2.1 bt142.2.2.1 bt142.2.2.2.1 bt142.2.2.2.2).bind fun bt153 => ((swarflaw04_car.f).bind fun bt157 => ((strip_Clean.f bt157.1 bt157.2.1 bt157.2.2.1 bt157.2.2.2.1 bt157.2.2.2.2).bind fun bt168 => ((swarflaw04_car.f).bind fun bt170 => ((strip_Work.f bt170.1 bt170.2.1 bt170.2.2.1 bt170.2.2.2.1 bt170.2.2.2.2).bind fun bt181 => (if bt153.2 = 0 then (if bt168.2 = 0 then (if bt181.2.2 = 0 then (if bt168.1 = 2 then (if bt181.2.1 = 74 then ((swarfkit_EqualInts.f k bt153.1 (([1, 3, 3, 3, 3] : List Int))).bind fun t189 => (if t189 = true then ((swarfkit_EqualInts.f k bt181.1 (([1, 2, 3, 4] : List Int))).bind fun t193 => (some t193)) else (some false))) else (some false)) else (some false)) else (some false)) else (some false)) else (some false)))))))) = some r := h
  clear h
  replace H := Option.bind_eq_some_iff.mp H
  obtain ⟨⟨t142, t145, t146, t149, t150⟩, A10, H⟩ := H
  replace H : ((strip_Out.f t142 t145 t146 t149 t150).bind fun bt153 => ((swarflaw04_car.f).bind fun bt157 => ((strip_Clean.f bt157.1 bt157.2.1 bt157.2.2.1 bt157.2.2.2.1 bt157.2.2.2.2).bind fun bt168 => ((swarflaw04_car.f).bind fun bt170 => ((strip_Work.f bt170.1 bt170.2.1 bt170.2.2.1 bt170.2.2.2.1 bt170.2.2.2.2).bind fun bt181 => (if bt153.2 = 0 then (if bt168.2 = 0 then (if bt181.2.2 = 0 then (if bt168.1 = 2 then (if bt181.2.1 = 74 then ((swarfkit_EqualInts.f k bt153.1 (([1, 3, 3, 3, 3] : List Int))).bind fun t189 => (if t189 = true then ((swarfkit_EqualInts.f k bt181.1 (([1, 2, 3, 4] : List Int))).bind fun t193 => (some t193)) else (some false))) else (some false)) else (some false)) else (some false)) else (some false)) else (some false))))))) = some r := H
  have A1 := Aside0.mk A10
  clear A10
  replace H := Option.bind_eq_some_iff.mp H
  obtain ⟨⟨t153, t156⟩, A20, H⟩ := H
  replace H : ((swarflaw04_car.f).bind fun bt157 => ((strip_Clean.f bt157.1 bt157.2.1 bt157.2.2.1 bt157.2.2.2.1 bt157.2.2.2.2).bind fun bt168 => ((swarflaw04_car.f).bind fun bt170 => ((strip_Work.f bt170.1 bt170.2.1 bt170.2.2.1 bt170.2.2.2.1 bt170.2.2.2.2).bind fun bt181 => (if t156 = 0 then (if bt168.2 = 0 then (if bt181.2.2 = 0 then (if bt168.1 = 2 then (if bt181.2.1 = 74 then ((swarfkit_EqualInts.f k t153 (([1, 3, 3, 3, 3] : List Int))).bind fun t189 => (if t189 = true then ((swarfkit_EqualInts.f k bt181.1 (([1, 2, 3, 4] : List Int))).bind fun t193 => (some t193)) else (some false))) else (some false)) else (some false)) else (some false)) else (some false)) else (some false)))))) = some r := H
  have A2 := Aside0.mk A20
  clear A20
  replace H := Option.bind_eq_some_iff.mp H
  obtain ⟨⟨t157, t160, t161, t164, t165⟩, A30, H⟩ := H
  replace H : ((strip_Clean.f t157 t160 t161 t164 t165).bind fun bt168 => ((swarflaw04_car.f).bind fun bt170 => ((strip_Work.f bt170.1 bt170.2.1 bt170.2.2.1 bt170.2.2.2.1 bt170.2.2.2.2).bind fun bt181 => (if t156 = 0 then (if bt168.2 = 0 then (if bt181.2.2 = 0 then (if bt168.1 = 2 then (if bt181.2.1 = 74 then ((swarfkit_EqualInts.f k t153 (([1, 3, 3, 3, 3] : List Int))).bind fun t189 => (if t189 = true then ((swarfkit_EqualInts.f k bt181.1 (([1, 2, 3, 4] : List Int))).bind fun t193 => (some t193)) else (some false))) else (some false)) else (some false)) else (some false)) else (some false)) else (some false))))) = some r := H
  have A3 := Aside0.mk A30
  clear A30
  replace H := Option.bind_eq_some_iff.mp H
  obtain ⟨⟨t168, t169⟩, A40, H⟩ := H
  replace H : ((swarflaw04_car.f).bind fun bt170 => ((strip_Work.f bt170.1 bt170.2.1 bt170.2.2.1 bt170.2.2.2.1 bt170.2.2.2.2).bind fun bt181 => (if t156 = 0 then (if t169 = 0 then (if bt181.2.2 = 0 then (if t168 = 2 then (if bt181.2.1 = 74 then ((swarfkit_EqualInts.f k t153 (([1, 3, 3, 3, 3] : List Int))).bind fun t189 => (if t189 = true then ((swarfkit_EqualInts.f k bt181.1 (([1, 2, 3, 4] : List Int))).bind fun t193 => (some t193)) else (some false))) else (some false)) else (some false)) else (some false)) else (some false)) else (some false)))) = some r := H
  have A4 := Aside0.mk A40
  clear A40
  replace H := Option.bind_eq_some_iff.mp H
  obtain ⟨⟨t170, t173, t174, t177, t178⟩, A50, H⟩ := H
  replace H : ((strip_Work.f t170 t173 t174 t177 t178).bind fun bt181 => (if t156 = 0 then (if t169 = 0 then (if bt181.2.2 = 0 then (if t168 = 2 then (if bt181.2.1 = 74 then ((swarfkit_EqualInts.f k t153 (([1, 3, 3, 3, 3] : List Int))).bind fun t189 => (if t189 = true then ((swarfkit_EqualInts.f k bt181.1 (([1, 2, 3, 4] : List Int))).bind fun t193 => (some t193)) else (some false))) else (some false)) else (some false)) else (some false)) else (some false)) else (some false))) = some r := H
  have A5 := Aside0.mk A50
  clear A50
  replace H := Option.bind_eq_some_iff.mp H
  obtain ⟨⟨t181, t184, t185⟩, A60, H⟩ := H
  replace H : (if t156 = 0 then (if t169 = 0 then (if t185 = 0 then (if t168 = 2 then (if t184 = 74 then ((swarfkit_EqualInts.f k t153 (([1, 3, 3, 3, 3] : List Int))).bind fun t189 => (if t189 = true then ((swarfkit_EqualInts.f k t181 (([1, 2, 3, 4] : List Int))).bind fun t193 => (some t193)) else (some false))) else (some false)) else (some false)) else (some false)) else (some false)) else (some false)) = some r := H
  have A6 := Aside0.mk A60
  clear A60
  by_cases c7 : t156 = 0
  · rw [if_pos c7] at H
    have c7b0 : (t156 == 0) = true := beq_iff_eq.mpr c7
    have c7b1 : (t156 != 0) = false := bne_eq_false_iff_eq.mpr c7
    clear c7
    by_cases c8 : t169 = 0
    · rw [if_pos c8] at H
      have c8b0 : (t169 == 0) = true := beq_iff_eq.mpr c8
      have c8b1 : (t169 != 0) = false := bne_eq_false_iff_eq.mpr c8
      clear c8
      by_cases c9 : t185 = 0
      · rw [if_pos c9] at H
        have c9b0 : (t185 == 0) = true := beq_iff_eq.mpr c9
        have c9b1 : (t185 != 0) = false := bne_eq_false_iff_eq.mpr c9
        clear c9
        by_cases c10 : t168 = 2
        · rw [if_pos c10] at H
          have c10b0 : (t168 == 2) = true := beq_iff_eq.mpr c10
          have c10b1 : (t168 != 2) = false := bne_eq_false_iff_eq.mpr c10
          clear c10
          by_cases c11 : t184 = 74
          · rw [if_pos c11] at H
            have c11b0 : (t184 == 74) = true := beq_iff_eq.mpr c11
            have c11b1 : (t184 != 74) = false := bne_eq_false_iff_eq.mpr c11
            clear c11
            obtain ⟨y186, hy186⟩ : ∃ y_ : List Int, y_ = (([1, 3, 3, 3, 3] : List Int)) := ⟨_, rfl⟩
            replace H : ((swarfkit_EqualInts.f k t153 y186).bind fun t189 => (if t189 = true then ((swarfkit_EqualInts.f k t181 (([1, 2, 3, 4] : List Int))).bind fun t193 => (some t193)) else (some false))) = some r := by first | (rw [hy186]; with_reducible exact H) | (have H2_ := (Option.bind_some _ _).symm.trans H; rw [hy186]; with_reducible exact H2_) | (have H2_ := (Option.bind_some _ _).symm.trans H; with_reducible exact H2_) | with_reducible exact H | (rw [hy186]; exact H) | exact H
            have Ny186 := Aside0.mk hy186
            clear hy186
            replace H := Option.bind_eq_some_iff.mp H
            obtain ⟨t189, A120, H⟩ := H
            replace H : (if t189 = true then ((swarfkit_EqualInts.f k t181 (([1, 2, 3, 4] : List Int))).bind fun t193 => (some t193)) else (some false)) = some r := H
            have A12 := Aside0.mk A120
            clear A120
            by_cases c13 : t189 = true
            · subst c13
              have H1 : ((swarfkit_EqualInts.f k t181 (([1, 2, 3, 4] : List Int))).bind fun t193 => (some t193)) = some r := by rw [if_pos rfl] at H; exact H
              clear H
              have H := H1
              clear H1
              obtain ⟨y190, hy190⟩ : ∃ y_ : List Int, y_ = (([1, 2, 3, 4] : List Int)) := ⟨_, rfl⟩
              replace H : ((swarfkit_EqualInts.f k t181 y190).bind fun t193 => (some t193)) = some r := by first | (rw [hy190]; with_reducible exact H) | (have H2_ := (Option.bind_some _ _).symm.trans H; rw [hy190]; with_reducible exact H2_) | (have H2_ := (Option.bind_some _ _).symm.trans H; with_reducible exact H2_) | with_reducible exact H | (rw [hy190]; exact H) | exact H
              have Ny190 := Aside0.mk hy190
              clear hy190
              replace H := Option.bind_eq_some_iff.mp H
              obtain ⟨t193, A140, H⟩ := H
              replace H : (some t193) = some r := H
              have A14 := Aside0.mk A140
              clear A140
              obtain rfl := Option.some.inj H
              go_enter Try.func16, Try.ntmps16
              go_wp2_with (first | ((with_reducible refine gate_callee (f := 55) rfl ?_); refine goesL_ (some 10) rfl rfl Try.func55 (by kernel_rfl) rfl #[] rfl (by (try simp only [List.map_toArray, List.map_cons, List.map_nil]); first | done | rfl | (simp only [List.length_drop, List.length_take]; rfl)) ?_; (with_reducible refine (swarflaw04_car.calls  t142 t145 t146 t149 t150 _ A1.out).mono ?_); rintro e w15 ⟨v143, v147, v151, rfl, ho0, ho1, ho2, hb⟩; refine ⟨_, rfl, ?_⟩; have n0_ := Aside0.mk (Kd.N_lower (Kd.N_mono (ok' := fun k_ => some k_ ≠ (v147 : Value).ownBlock ∧ some k_ ≠ (v151 : Value).ownBlock) ho0 (fun k_ hk_ => ⟨hk_.2.1, hk_.2.2⟩)) (below_size (by repeat (first | (with_reducible first | exact HB.out | apply below_alloc | apply pw_below_drewN | apply below_drew1) | exact HB.out)))); have n1_ := Aside0.mk (Kd.R_lower (Kd.R_mono (ok' := fun k_ => True) ho1 (fun _ hk_ => trivial)) (below_size (by repeat (first | (with_reducible first | exact HB.out | apply below_alloc | apply pw_below_drewN | apply below_drew1) | exact HB.out)))); have n2_ := Aside0.mk (Kd.R_lower (Kd.R_mono (ok' := fun k_ => True) ho2 (fun _ hk_ => trivial)) (below_size (by repeat (first | (with_reducible first | exact HB.out | apply below_alloc | apply pw_below_drewN | apply below_drew1) | exact HB.out)))); have n3_ := Aside0.mk (below_step (by repeat (first | (with_reducible first | exact HB.out | apply below_alloc | apply pw_below_drewN | apply below_drew1) | exact HB.out)) hb); clear HB; have HO144 := n0_; have HO148 := n1_; have HO152 := n2_; have HB := n3_; clear n0_ n1_ n2_ n3_; (try clear hb); (try clear hb2); (try clear hk); (try clear hi); (try clear ho0); (try clear ho1); (try clear ho2); obtain ⟨Ao16, co16, eo16⟩ := Kd.N_slice HO144.out; subst eo16; obtain ⟨Ao17, co17, eo17⟩ := Kd.R_slice HO148.out; subst eo17; obtain ⟨Ao18, co18, eo18⟩ := Kd.R_slice HO152.out; subst eo18) | ((with_reducible refine gate_callee (f := 26) rfl ?_); refine goesL_ (some 11) rfl rfl Try.func26 (by kernel_rfl) rfl #[.agg #[.slice Ao16 t142.length co16, .int .i64 t145, .slice Ao17 t146.length co17, .int .i64 t149, .slice Ao18 t150.length co18]] rfl (by (try simp only [List.map_toArray, List.map_cons, List.map_nil]); first | done | rfl | (simp only [List.length_drop, List.length_take]; rfl)) ?_; (with_reducible refine (strip_Out.calls _ _ t142 t145 _ _ t146 t149 _ _ t150 t153 t156 _ ?side1 ?side2 ?side3 ?side4 ?side5 ?side6 A2.out).mono ?_); (case side1 => repeat (first | exact (Kd.N_reads' HO144.out).2.2 | (with_reducible refine Kd.C_alloc ?_ _) | (with_reducible refine Kd.C_drewN ?_ _) | (with_reducible refine Kd.C_drew ?_))); (case side2 => exact (Kd.N_reads' HO144.out).2.1); (case side3 => repeat (first | exact (Kd.R_reads' HO148.out).2.2 | (with_reducible refine Kd.C_alloc ?_ _) | (with_reducible refine Kd.C_drewN ?_ _) | (with_reducible refine Kd.C_drew ?_))); (case side4 => exact (Kd.R_reads' HO148.out).2.1); (case side5 => repeat (first | exact (Kd.R_reads' HO152.out).2.2 | (with_reducible refine Kd.C_alloc ?_ _) | (with_reducible refine Kd.C_drewN ?_ _) | (with_reducible refine Kd.C_drew ?_))); (case side6 => exact (Kd.R_reads' HO152.out).2.1); rintro e w19 ⟨v154, rfl, ho0, hb⟩; refine ⟨_, rfl, ?_⟩; have n0_ := Aside0.mk (Kd.N_elder' (by (with_reducible repeat (first | apply Kd.N_alloc | apply Kd.N_drewN | apply Kd.N_drew)); exact HO144.out) (Kd.R_base ho0) hb); have n1_ := Aside0.mk (Kd.R_below (by (with_reducible repeat (first | apply Kd.R_alloc | apply Kd.R_drewN | apply Kd.R_drew)); exact HO148.out) hb); have n2_ := Aside0.mk (Kd.R_elder' (by (with_reducible repeat (first | apply Kd.R_alloc | apply Kd.R_drewN | apply Kd.R_drew)); exact HO152.out) (Kd.R_base ho0) hb); have n3_ := Aside0.mk (Kd.R_lower (Kd.R_new' ho0 (Kd.R_lt (by (with_reducible repeat (first | apply Kd.R_alloc | apply Kd.R_drewN | apply Kd.R_drew)); exact HO152.out))) (below_size (by repeat (first | (with_reducible first | exact HB.out | apply below_alloc | apply pw_below_drewN | apply below_drew1) | exact HB.out)))); have n4_ := Aside0.mk (below_step (by repeat (first | (with_reducible first | exact HB.out | apply below_alloc | apply pw_below_drewN | apply below_drew1) | exact HB.out)) hb); clear HO144; clear HO148; clear HO152; clear HB; have HO144 := n0_; have HO148 := n1_; have HO152 := n2_; have HO155 := n3_; have HB := n4_; clear n0_ n1_ n2_ n3_ n4_; (try clear hb); (try clear hb2); (try clear hk); (try clear hi); (try clear ho0)) | ((with_reducible refine gate_callee (f := 55) rfl ?_); refine goesL_ (some 15) rfl rfl Try.func55 (by kernel_rfl) rfl #[] rfl (by (try simp only [List.map_toArray, List.map_cons, List.map_nil]); first | done | rfl | (simp only [List.length_drop, List.length_take]; rfl)) ?_; (with_reducible refine (swarflaw04_car.calls  t157 t160 t161 t164 t165 _ A3.out).mono ?_); rintro e w20 ⟨v158, v162, v166, rfl, ho0, ho1, ho2, hb⟩; refine ⟨_, rfl, ?_⟩; have n0_ := Aside0.mk (Kd.N_mono (Kd.N_told (Kd.N_told (Kd.N_told (Kd.N_old (by (with_reducible repeat (first | apply Kd.N_alloc | apply Kd.N_drewN | apply Kd.N_drew)); exact HO144.out) hb) (Kd.N_base ho0)) (Kd.R_base ho1)) (Kd.R_base ho2)) (fun _ h_ => h_.1)); have n1_ := Aside0.mk (Kd.R_elder' (by (with_reducible repeat (first | apply Kd.R_alloc | apply Kd.R_drewN | apply Kd.R_drew)); exact HO148.out) (Kd.R_base ho1) hb); have n2_ := Aside0.mk (Kd.R_elder' (by (with_reducible repeat (first | apply Kd.R_alloc | apply Kd.R_drewN | apply Kd.R_drew)); exact HO152.out) (Kd.R_base ho2) hb); have n3_ := Aside0.mk (Kd.R_elder' (by (with_reducible repeat (first | apply Kd.R_alloc | apply Kd.R_drewN | apply Kd.R_drew)); exact HO155.out) (Kd.R_base ho2) hb); have n4_ := Aside0.mk (Kd.N_lower (Kd.N_mono (ok' := fun k_ => some k_ ≠ (v162 : Value).ownBlock ∧ some k_ ≠ (v166 : Value).ownBlock ∧ some k_ ≠ (.slice Ao16 t142.length co16 : Value).ownBlock ∧ some k_ ≠ (.slice Ao17 t146.length co17 : Value).ownBlock ∧ some k_ ≠ (.slice Ao18 t150.length co18 : Value).ownBlock ∧ some k_ ≠ (v154 : Value).ownBlock) ho0 (fun k_ hk_ => ⟨hk_.2.1, hk_.2.2, (Kd.fresh' (Kd.N_lt (by (with_reducible repeat (first | apply Kd.N_alloc | apply Kd.N_drewN | apply Kd.N_drew)); exact HO144.out)) k_ hk_.1), (Kd.fresh' (Kd.R_lt (by (with_reducible repeat (first | apply Kd.R_alloc | apply Kd.R_drewN | apply Kd.R_drew)); exact HO148.out)) k_ hk_.1), (Kd.fresh' (Kd.R_lt (by (with_reducible repeat (first | apply Kd.R_alloc | apply Kd.R_drewN | apply Kd.R_drew)); exact HO152.out)) k_ hk_.1), (Kd.fresh' (Kd.R_lt (by (with_reducible repeat (first | apply Kd.R_alloc | apply Kd.R_drewN | apply Kd.R_drew)); exact HO155.out)) k_ hk_.1)⟩)) (below_size (by repeat (first | (with_reducible first | exact HB.out | apply below_alloc | apply pw_below_drewN | apply below_drew1) | exact HB.out)))); have n5_ := Aside0.mk (Kd.R_lower (Kd.R_new' (Kd.R_mono (ok' := fun k_ => True) ho1 (fun _ hk_ => trivial)) (Kd.R_lt (by (with_reducible repeat (first | apply Kd.R_alloc | apply Kd.R_drewN | apply Kd.R_drew)); exact HO148.out))) (below_size (by repeat (first | (with_reducible first | exact HB.out | apply below_alloc | apply pw_below_drewN | apply below_drew1) | exact HB.out)))); have n6_ := Aside0.mk (Kd.R_lower (Kd.R_new' (Kd.R_new' (Kd.R_mono (ok' := fun k_ => True) ho2 (fun _ hk_ => trivial)) (Kd.R_lt (by (with_reducible repeat (first | apply Kd.R_alloc | apply Kd.R_drewN | apply Kd.R_drew)); exact HO152.out))) (Kd.R_lt (by (with_reducible repeat (first | apply Kd.R_alloc | apply Kd.R_drewN | apply Kd.R_drew)); exact HO155.out))) (below_size (by repeat (first | (with_reducible first | exact HB.out | apply below_alloc | apply pw_below_drewN | apply below_drew1) | exact HB.out)))); have n7_ := Aside0.mk (below_step (by repeat (first | (with_reducible first | exact HB.out | apply below_alloc | apply pw_below_drewN | apply below_drew1) | exact HB.out)) hb); clear HO144; clear HO148; clear HO152; clear HO155; clear HB; have HO144 := n0_; have HO148 := n1_; have HO152 := n2_; have HO155 := n3_; have HO159 := n4_; have HO163 := n5_; have HO167 := n6_; have HB := n7_; clear n0_ n1_ n2_ n3_ n4_ n5_ n6_ n7_; (try clear hb); (try clear hb2); (try clear hk); (try clear hi); (try clear ho0); (try clear ho1); (try clear ho2); obtain ⟨Ao21, co21, eo21⟩ := Kd.N_slice HO159.out; subst eo21; obtain ⟨Ao22, co22, eo22⟩ := Kd.R_slice HO163.out; subst eo22; obtain ⟨Ao23, co23, eo23⟩ := Kd.R_slice HO167.out; subst eo23) | ((with_reducible refine gate_callee (f := 27) rfl ?_); refine goesL_ (some 16) rfl rfl Try.func27 (by kernel_rfl) rfl #[.agg #[.slice Ao21 t157.length co21, .int .i64 t160, .slice Ao22 t161.length co22, .int .i64 t164, .slice Ao23 t165.length co23]] rfl (by (try simp only [List.map_toArray, List.map_cons, List.map_nil]); first | done | rfl | (simp only [List.length_drop, List.length_take]; rfl)) ?_; (with_reducible refine (strip_Clean.calls _ _ t157 t160 _ _ t161 t164 _ _ t165 t168 t169 _ ?side1 ?side2 ?side3 ?side4 ?side5 ?side6 A4.out).mono ?_); (case side1 => repeat (first | exact (Kd.N_reads' HO159.out).2.2 | (with_reducible refine Kd.C_alloc ?_ _) | (with_reducible refine Kd.C_drewN ?_ _) | (with_reducible refine Kd.C_drew ?_))); (case side2 => exact (Kd.N_reads' HO159.out).2.1); (case side3 => repeat (first | exact (Kd.R_reads' HO163.out).2.2 | (with_reducible refine Kd.C_alloc ?_ _) | (with_reducible refine Kd.C_drewN ?_ _) | (with_reducible refine Kd.C_drew ?_))); (case side4 => exact (Kd.R_reads' HO163.out).2.1); (case side5 => repeat (first | exact (Kd.R_reads' HO167.out).2.2 | (with_reducible refine Kd.C_alloc ?_ _) | (with_reducible refine Kd.C_drewN ?_ _) | (with_reducible refine Kd.C_drew ?_))); (case side6 => exact (Kd.R_reads' HO167.out).2.1); rintro e w24 ⟨rfl, hb⟩; refine ⟨_, rfl, ?_⟩; have n0_ := Aside0.mk (Kd.N_below (by (with_reducible repeat (first | apply Kd.N_alloc | apply Kd.N_drewN | apply Kd.N_drew)); exact HO144.out) hb); have n1_ := Aside0.mk (Kd.R_below (by (with_reducible repeat (first | apply Kd.R_alloc | apply Kd.R_drewN | apply Kd.R_drew)); exact HO148.out) hb); have n2_ := Aside0.mk (Kd.R_below (by (with_reducible repeat (first | apply Kd.R_alloc | apply Kd.R_drewN | apply Kd.R_drew)); exact HO152.out) hb); have n3_ := Aside0.mk (Kd.R_below (by (with_reducible repeat (first | apply Kd.R_alloc | apply Kd.R_drewN | apply Kd.R_drew)); exact HO155.out) hb); have n4_ := Aside0.mk (Kd.N_below (by (with_reducible repeat (first | apply Kd.N_alloc | apply Kd.N_drewN | apply Kd.N_drew)); exact HO159.out) hb); have n5_ := Aside0.mk (Kd.R_below (by (with_reducible repeat (first | apply Kd.R_alloc | apply Kd.R_drewN | apply Kd.R_drew)); exact HO163.out) hb); have n6_ := Aside0.mk (Kd.R_below (by (with_reducible repeat (first | apply Kd.R_alloc | apply Kd.R_drewN | apply Kd.R_drew)); exact HO167.out) hb); have n7_ := Aside0.mk (below_step (by repeat (first | (with_reducible first | exact HB.out | apply below_alloc | apply pw_below_drewN | apply below_drew1) | exact HB.out)) hb); clear HO144; clear HO148; clear HO152; clear HO155; clear HO159; clear HO163; clear HO167; clear HB; have HO144 := n0_; have HO148 := n1_; have HO152 := n2_; have HO155 := n3_; have HO159 := n4_; have HO163 := n5_; have HO167 := n6_; have HB := n7_; clear n0_ n1_ n2_ n3_ n4_ n5_ n6_ n7_; (try clear hb); (try clear hb2); (try clear hk); (try clear hi)) | ((with_reducible refine gate_callee (f := 55) rfl ?_); refine goesL_ (some 20) rfl rfl Try.func55 (by kernel_rfl) rfl #[] rfl (by (try simp only [List.map_toArray, List.map_cons, List.map_nil]); first | done | rfl | (simp only [List.length_drop, List.length_take]; rfl)) ?_; (with_reducible refine (swarflaw04_car.calls  t170 t173 t174 t177 t178 _ A5.out).mono ?_); rintro e w25 ⟨v171, v175, v179, rfl, ho0, ho1, ho2, hb⟩; refine ⟨_, rfl, ?_⟩; have n0_ := Aside0.mk (Kd.N_mono (Kd.N_told (Kd.N_told (Kd.N_told (Kd.N_old (by (with_reducible repeat (first | apply Kd.N_alloc | apply Kd.N_drewN | apply Kd.N_drew)); exact HO144.out) hb) (Kd.N_base ho0)) (Kd.R_base ho1)) (Kd.R_base ho2)) (fun _ h_ => h_.1)); have n1_ := Aside0.mk (Kd.R_elder' (by (with_reducible repeat (first | apply Kd.R_alloc | apply Kd.R_drewN | apply Kd.R_drew)); exact HO148.out) (Kd.R_base ho1) hb); have n2_ := Aside0.mk (Kd.R_elder' (by (with_reducible repeat (first | apply Kd.R_alloc | apply Kd.R_drewN | apply Kd.R_drew)); exact HO152.out) (Kd.R_base ho2) hb); have n3_ := Aside0.mk (Kd.R_elder' (by (with_reducible repeat (first | apply Kd.R_alloc | apply Kd.R_drewN | apply Kd.R_drew)); exact HO155.out) (Kd.R_base ho2) hb); have n4_ := Aside0.mk (Kd.N_mono (Kd.N_told (Kd.N_told (Kd.N_told (Kd.N_old (by (with_reducible repeat (first | apply Kd.N_alloc | apply Kd.N_drewN | apply Kd.N_drew)); exact HO159.out) hb) (Kd.N_base ho0)) (Kd.R_base ho1)) (Kd.R_base ho2)) (fun _ h_ => h_.1)); have n5_ := Aside0.mk (Kd.R_elder' (by (with_reducible repeat (first | apply Kd.R_alloc | apply Kd.R_drewN | apply Kd.R_drew)); exact HO163.out) (Kd.R_base ho1) hb); have n6_ := Aside0.mk (Kd.R_elder' (by (with_reducible repeat (first | apply Kd.R_alloc | apply Kd.R_drewN | apply Kd.R_drew)); exact HO167.out) (Kd.R_base ho2) hb); have n7_ := Aside0.mk (Kd.N_lower (Kd.N_mono (ok' := fun k_ => some k_ ≠ (v175 : Value).ownBlock ∧ some k_ ≠ (v179 : Value).ownBlock ∧ some k_ ≠ (.slice Ao16 t142.length co16 : Value).ownBlock ∧ some k_ ≠ (.slice Ao17 t146.length co17 : Value).ownBlock ∧ some k_ ≠ (.slice Ao18 t150.length co18 : Value).ownBlock ∧ some k_ ≠ (v154 : Value).ownBlock ∧ some k_ ≠ (.slice Ao21 t157.length co21 : Value).ownBlock ∧ some k_ ≠ (.slice Ao22 t161.length co22 : Value).ownBlock ∧ some k_ ≠ (.slice Ao23 t165.length co23 : Value).ownBlock) ho0 (fun k_ hk_ => ⟨hk_.2.1, hk_.2.2, (Kd.fresh' (Kd.N_lt (by (with_reducible repeat (first | apply Kd.N_alloc | apply Kd.N_drewN | apply Kd.N_drew)); exact HO144.out)) k_ hk_.1), (Kd.fresh' (Kd.R_lt (by (with_reducible repeat (first | apply Kd.R_alloc | apply Kd.R_drewN | apply Kd.R_drew)); exact HO148.out)) k_ hk_.1), (Kd.fresh' (Kd.R_lt (by (with_reducible repeat (first | apply Kd.R_alloc | apply Kd.R_drewN | apply Kd.R_drew)); exact HO152.out)) k_ hk_.1), (Kd.fresh' (Kd.R_lt (by (with_reducible repeat (first | apply Kd.R_alloc | apply Kd.R_drewN | apply Kd.R_drew)); exact HO155.out)) k_ hk_.1), (Kd.fresh' (Kd.N_lt (by (with_reducible repeat (first | apply Kd.N_alloc | apply Kd.N_drewN | apply Kd.N_drew)); exact HO159.out)) k_ hk_.1), (Kd.fresh' (Kd.R_lt (by (with_reducible repeat (first | apply Kd.R_alloc | apply Kd.R_drewN | apply Kd.R_drew)); exact HO163.out)) k_ hk_.1), (Kd.fresh' (Kd.R_lt (by (with_reducible repeat (first | apply Kd.R_alloc | apply Kd.R_drewN | apply Kd.R_drew)); exact HO167.out)) k_ hk_.1)⟩)) (below_size (by repeat (first | (with_reducible first | exact HB.out | apply below_alloc | apply pw_below_drewN | apply below_drew1) | exact HB.out)))); have n8_ := Aside0.mk (Kd.R_lower (Kd.R_new' (Kd.R_new' (Kd.R_mono (ok' := fun k_ => True) ho1 (fun _ hk_ => trivial)) (Kd.R_lt (by (with_reducible repeat (first | apply Kd.R_alloc | apply Kd.R_drewN | apply Kd.R_drew)); exact HO148.out))) (Kd.R_lt (by (with_reducible repeat (first | apply Kd.R_alloc | apply Kd.R_drewN | apply Kd.R_drew)); exact HO163.out))) (below_size (by repeat (first | (with_reducible first | exact HB.out | apply below_alloc | apply pw_below_drewN | apply below_drew1) | exact HB.out)))); have n9_ := Aside0.mk (Kd.R_lower (Kd.R_new' (Kd.R_new' (Kd.R_new' (Kd.R_mono (ok' := fun k_ => True) ho2 (fun _ hk_ => trivial)) (Kd.R_lt (by (with_reducible repeat (first | apply Kd.R_alloc | apply Kd.R_drewN | apply Kd.R_drew)); exact HO152.out))) (Kd.R_lt (by (with_reducible repeat (first | apply Kd.R_alloc | apply Kd.R_drewN | apply Kd.R_drew)); exact HO155.out))) (Kd.R_lt (by (with_reducible repeat (first | apply Kd.R_alloc | apply Kd.R_drewN | apply Kd.R_drew)); exact HO167.out))) (below_size (by repeat (first | (with_reducible first | exact HB.out | apply below_alloc | apply pw_below_drewN | apply below_drew1) | exact HB.out)))); have n10_ := Aside0.mk (below_step (by repeat (first | (with_reducible first | exact HB.out | apply below_alloc | apply pw_below_drewN | apply below_drew1) | exact HB.out)) hb); clear HO144; clear HO148; clear HO152; clear HO155; clear HO159; clear HO163; clear HO167; clear HB; have HO144 := n0_; have HO148 := n1_; have HO152 := n2_; have HO155 := n3_; have HO159 := n4_; have HO163 := n5_; have HO167 := n6_; have HO172 := n7_; have HO176 := n8_; have HO180 := n9_; have HB := n10_; clear n0_ n1_ n2_ n3_ n4_ n5_ n6_ n7_ n8_ n9_ n10_; (try clear hb); (try clear hb2); (try clear hk); (try clear hi); (try clear ho0); (try clear ho1); (try clear ho2); obtain ⟨Ao26, co26, eo26⟩ := Kd.N_slice HO172.out; subst eo26; obtain ⟨Ao27, co27, eo27⟩ := Kd.R_slice HO176.out; subst eo27; obtain ⟨Ao28, co28, eo28⟩ := Kd.R_slice HO180.out; subst eo28) | ((with_reducible refine gate_callee (f := 20) rfl ?_); refine goesL_ (some 21) rfl rfl Try.func20 (by kernel_rfl) rfl #[.agg #[.slice Ao26 t170.length co26, .int .i64 t173, .slice Ao27 t174.length co27, .int .i64 t177, .slice Ao28 t178.length co28]] rfl (by (try simp only [List.map_toArray, List.map_cons, List.map_nil]); first | done | rfl | (simp only [List.length_drop, List.length_take]; rfl)) ?_; (with_reducible refine (strip_Work.calls _ _ t170 t173 _ _ t174 t177 _ _ t178 t181 t184 t185 _ ?side1 ?side2 ?side3 ?side4 ?side5 ?side6 A6.out).mono ?_); (case side1 => repeat (first | exact (Kd.N_reads' HO172.out).2.2 | (with_reducible refine Kd.C_alloc ?_ _) | (with_reducible refine Kd.C_drewN ?_ _) | (with_reducible refine Kd.C_drew ?_))); (case side2 => exact (Kd.N_reads' HO172.out).2.1); (case side3 => repeat (first | exact (Kd.R_reads' HO176.out).2.2 | (with_reducible refine Kd.C_alloc ?_ _) | (with_reducible refine Kd.C_drewN ?_ _) | (with_reducible refine Kd.C_drew ?_))); (case side4 => exact (Kd.R_reads' HO176.out).2.1); (case side5 => repeat (first | exact (Kd.R_reads' HO180.out).2.2 | (with_reducible refine Kd.C_alloc ?_ _) | (with_reducible refine Kd.C_drewN ?_ _) | (with_reducible refine Kd.C_drew ?_))); (case side6 => exact (Kd.R_reads' HO180.out).2.1); rintro e w29 ⟨v182, rfl, ho0, hb⟩; refine ⟨_, rfl, ?_⟩; have n0_ := Aside0.mk (Kd.N_elder' (by (with_reducible repeat (first | apply Kd.N_alloc | apply Kd.N_drewN | apply Kd.N_drew)); exact HO144.out) (Kd.R_base ho0) hb); have n1_ := Aside0.mk (Kd.R_below (by (with_reducible repeat (first | apply Kd.R_alloc | apply Kd.R_drewN | apply Kd.R_drew)); exact HO148.out) hb); have n2_ := Aside0.mk (Kd.R_elder' (by (with_reducible repeat (first | apply Kd.R_alloc | apply Kd.R_drewN | apply Kd.R_drew)); exact HO152.out) (Kd.R_base ho0) hb); have n3_ := Aside0.mk (Kd.R_elder' (by (with_reducible repeat (first | apply Kd.R_alloc | apply Kd.R_drewN | apply Kd.R_drew)); exact HO155.out) (Kd.R_base ho0) hb); have n4_ := Aside0.mk (Kd.N_elder' (by (with_reducible repeat (first | apply Kd.N_alloc | apply Kd.N_drewN | apply Kd.N_drew)); exact HO159.out) (Kd.R_base ho0) hb); have n5_ := Aside0.mk (Kd.R_below (by (with_reducible repeat (first | apply Kd.R_alloc | apply Kd.R_drewN | apply Kd.R_drew)); exact HO163.out) hb); have n6_ := Aside0.mk (Kd.R_elder' (by (with_reducible repeat (first | apply Kd.R_alloc | apply Kd.R_drewN | apply Kd.R_drew)); exact HO167.out) (Kd.R_base ho0) hb); have n7_ := Aside0.mk (Kd.N_elder' (by (with_reducible repeat (first | apply Kd.N_alloc | apply Kd.N_drewN | apply Kd.N_drew)); exact HO172.out) (Kd.R_base ho0) hb); have n8_ := Aside0.mk (Kd.R_below (by (with_reducible repeat (first | apply Kd.R_alloc | apply Kd.R_drewN | apply Kd.R_drew)); exact HO176.out) hb); have n9_ := Aside0.mk (Kd.R_elder' (by (with_reducible repeat (first | apply Kd.R_alloc | apply Kd.R_drewN | apply Kd.R_drew)); exact HO180.out) (Kd.R_base ho0) hb); have n10_ := Aside0.mk (Kd.R_lower (Kd.R_new' (Kd.R_new' (Kd.R_new' (Kd.R_new' ho0 (Kd.R_lt (by (with_reducible repeat (first | apply Kd.R_alloc | apply Kd.R_drewN | apply Kd.R_drew)); exact HO152.out))) (Kd.R_lt (by (with_reducible repeat (first | apply Kd.R_alloc | apply Kd.R_drewN | apply Kd.R_drew)); exact HO155.out))) (Kd.R_lt (by (with_reducible repeat (first | apply Kd.R_alloc | apply Kd.R_drewN | apply Kd.R_drew)); exact HO167.out))) (Kd.R_lt (by (with_reducible repeat (first | apply Kd.R_alloc | apply Kd.R_drewN | apply Kd.R_drew)); exact HO180.out))) (below_size (by repeat (first | (with_reducible first | exact HB.out | apply below_alloc | apply pw_below_drewN | apply below_drew1) | exact HB.out)))); have n11_ := Aside0.mk (below_step (by repeat (first | (with_reducible first | exact HB.out | apply below_alloc | apply pw_below_drewN | apply below_drew1) | exact HB.out)) hb); clear HO144; clear HO148; clear HO152; clear HO155; clear HO159; clear HO163; clear HO167; clear HO172; clear HO176; clear HO180; clear HB; have HO144 := n0_; have HO148 := n1_; have HO152 := n2_; have HO155 := n3_; have HO159 := n4_; have HO163 := n5_; have HO167 := n6_; have HO172 := n7_; have HO176 := n8_; have HO180 := n9_; have HO183 := n10_; have HB := n11_; clear n0_ n1_ n2_ n3_ n4_ n5_ n6_ n7_ n8_ n9_ n10_ n11_; (try clear hb); (try clear hb2); (try clear hk); (try clear hi); (try clear ho0)) | ((with_reducible refine gate_dst (N := 49) rfl ?_); (try (refine gate_guard (by rfl) ?_; dsimp only)); refine Kd.R_lit (Kd.int .i64) _ 3 ?hg (N := 49) ?hd (xs := ([1, 3, 3, 3, 3] : List Int)) (inner := [.int .i64 1, .int .i64 3, .int .i64 3, .int .i64 3, .int .i64 3]) (ok := fun _ => True) (okp := fun _ => True) ?hr ?hp (fun _ hk => hk) trivial (Below.refl _ _) (Nat.le_refl _) (by simp) ?_; (case hd => rfl); (case hg => rfl); (case hr => first | (go_simp; done) | (go_simp; rfl)); (case hp => exact (Reps.one (show Kd.M (Kd.int .i64) _ _ _ 1 [.int .i64 1] from rfl) (Reps.one (show Kd.M (Kd.int .i64) _ _ _ 3 [.int .i64 3] from rfl) (Reps.one (show Kd.M (Kd.int .i64) _ _ _ 3 [.int .i64 3] from rfl) (Reps.one (show Kd.M (Kd.int .i64) _ _ _ 3 [.int .i64 3] from rfl) (Reps.one (show Kd.M (Kd.int .i64) _ _ _ 3 [.int .i64 3] from rfl) (Reps.none _ _))))))); intro v187 w30 ho31 hb hg_ hnew_; clear hg_ hnew_; (first | rw [← Ny186.out] at ho31 | (simp only [Int.reduceToNat] at ho31; rw [← Ny186.out] at ho31)); have n0_ := Aside0.mk (Kd.N_elder' (by (with_reducible repeat (first | apply Kd.N_alloc | apply Kd.N_drewN | apply Kd.N_drew)); exact HO144.out) (Kd.R_base ho31) hb); have n1_ := Aside0.mk (Kd.R_below (by (with_reducible repeat (first | apply Kd.R_alloc | apply Kd.R_drewN | apply Kd.R_drew)); exact HO148.out) hb); have n2_ := Aside0.mk (Kd.R_elder' (by (with_reducible repeat (first | apply Kd.R_alloc | apply Kd.R_drewN | apply Kd.R_drew)); exact HO152.out) (Kd.R_base ho31) hb); have n3_ := Aside0.mk (Kd.R_elder' (by (with_reducible repeat (first | apply Kd.R_alloc | apply Kd.R_drewN | apply Kd.R_drew)); exact HO155.out) (Kd.R_base ho31) hb); have n4_ := Aside0.mk (Kd.N_elder' (by (with_reducible repeat (first | apply Kd.N_alloc | apply Kd.N_drewN | apply Kd.N_drew)); exact HO159.out) (Kd.R_base ho31) hb); have n5_ := Aside0.mk (Kd.R_below (by (with_reducible repeat (first | apply Kd.R_alloc | apply Kd.R_drewN | apply Kd.R_drew)); exact HO163.out) hb); have n6_ := Aside0.mk (Kd.R_elder' (by (with_reducible repeat (first | apply Kd.R_alloc | apply Kd.R_drewN | apply Kd.R_drew)); exact HO167.out) (Kd.R_base ho31) hb); have n7_ := Aside0.mk (Kd.N_elder' (by (with_reducible repeat (first | apply Kd.N_alloc | apply Kd.N_drewN | apply Kd.N_drew)); exact HO172.out) (Kd.R_base ho31) hb); have n8_ := Aside0.mk (Kd.R_below (by (with_reducible repeat (first | apply Kd.R_alloc | apply Kd.R_drewN | apply Kd.R_drew)); exact HO176.out) hb); have n9_ := Aside0.mk (Kd.R_elder' (by (with_reducible repeat (first | apply Kd.R_alloc | apply Kd.R_drewN | apply Kd.R_drew)); exact HO180.out) (Kd.R_base ho31) hb); have n10_ := Aside0.mk (Kd.R_elder' (by (with_reducible repeat (first | apply Kd.R_alloc | apply Kd.R_drewN | apply Kd.R_drew)); exact HO183.out) (Kd.R_base ho31) hb); have n11_ := Aside0.mk (Kd.R_lower (Kd.R_new' (Kd.R_new' (Kd.R_new' (Kd.R_new' (Kd.R_new' ho31 (Kd.R_lt (by (with_reducible repeat (first | apply Kd.R_alloc | apply Kd.R_drewN | apply Kd.R_drew)); exact HO152.out))) (Kd.R_lt (by (with_reducible repeat (first | apply Kd.R_alloc | apply Kd.R_drewN | apply Kd.R_drew)); exact HO155.out))) (Kd.R_lt (by (with_reducible repeat (first | apply Kd.R_alloc | apply Kd.R_drewN | apply Kd.R_drew)); exact HO167.out))) (Kd.R_lt (by (with_reducible repeat (first | apply Kd.R_alloc | apply Kd.R_drewN | apply Kd.R_drew)); exact HO180.out))) (Kd.R_lt (by (with_reducible repeat (first | apply Kd.R_alloc | apply Kd.R_drewN | apply Kd.R_drew)); exact HO183.out))) (below_size (by repeat (first | (with_reducible first | exact HB.out | apply below_alloc | apply pw_below_drewN | apply below_drew1) | exact HB.out)))); have n12_ := Aside0.mk (below_step (by repeat (first | (with_reducible first | exact HB.out | apply below_alloc | apply pw_below_drewN | apply below_drew1) | exact HB.out)) hb); clear HO144; clear HO148; clear HO152; clear HO155; clear HO159; clear HO163; clear HO167; clear HO172; clear HO176; clear HO180; clear HO183; clear HB; have HO144 := n0_; have HO148 := n1_; have HO152 := n2_; have HO155 := n3_; have HO159 := n4_; have HO163 := n5_; have HO167 := n6_; have HO172 := n7_; have HO176 := n8_; have HO180 := n9_; have HO183 := n10_; have HO188 := n11_; have HB := n12_; clear n0_ n1_ n2_ n3_ n4_ n5_ n6_ n7_ n8_ n9_ n10_ n11_ n12_; clear hb ho31; obtain ⟨Ao32, co32, eo32⟩ := Kd.R_slice HO155.out; subst eo32; obtain ⟨Ao33, co33, eo33⟩ := Kd.R_slice HO188.out; subst eo33) | (go_at_call 22; (with_reducible refine (swarfkit_EqualInts.calls k _ _ t153 _ _ y186 true _ ?side1 ?side2 ?side3 ?side4 A12.out).mono ?_); (case side1 => repeat (first | exact (Kd.R_reads' HO155.out).2.2 | (with_reducible refine Kd.C_alloc ?_ _) | (with_reducible refine Kd.C_drewN ?_ _) | (with_reducible refine Kd.C_drew ?_))); (case side2 => exact (Kd.R_reads' HO155.out).2.1); (case side3 => repeat (first | exact (Kd.R_reads' HO188.out).2.2 | (with_reducible refine Kd.C_alloc ?_ _) | (with_reducible refine Kd.C_drewN ?_ _) | (with_reducible refine Kd.C_drew ?_))); (case side4 => exact (Kd.R_reads' HO188.out).2.1); rintro e w' ⟨rfl, ⟨nd, rfl⟩⟩) | ((with_reducible refine gate_dst (N := 54) rfl ?_); (try (refine gate_guard (by rfl) ?_; dsimp only)); refine Kd.R_lit (Kd.int .i64) _ 3 ?hg (N := 54) ?hd (xs := ([1, 2, 3, 4] : List Int)) (inner := [.int .i64 1, .int .i64 2, .int .i64 3, .int .i64 4]) (ok := fun _ => True) (okp := fun _ => True) ?hr ?hp (fun _ hk => hk) trivial (Below.refl _ _) (Nat.le_refl _) (by simp) ?_; (case hd => rfl); (case hg => rfl); (case hr => first | (go_simp; done) | (go_simp; rfl)); (case hp => exact (Reps.one (show Kd.M (Kd.int .i64) _ _ _ 1 [.int .i64 1] from rfl) (Reps.one (show Kd.M (Kd.int .i64) _ _ _ 2 [.int .i64 2] from rfl) (Reps.one (show Kd.M (Kd.int .i64) _ _ _ 3 [.int .i64 3] from rfl) (Reps.one (show Kd.M (Kd.int .i64) _ _ _ 4 [.int .i64 4] from rfl) (Reps.none _ _)))))); intro v191 w34 ho35 hb hg_ hnew_; clear hg_ hnew_; (first | rw [← Ny190.out] at ho35 | (simp only [Int.reduceToNat] at ho35; rw [← Ny190.out] at ho35)); have n0_ := Aside0.mk (Kd.N_elder' (by (with_reducible repeat (first | apply Kd.N_alloc | apply Kd.N_drewN | apply Kd.N_drew)); exact HO144.out) (Kd.R_base ho35) hb); have n1_ := Aside0.mk (Kd.R_below (by (with_reducible repeat (first | apply Kd.R_alloc | apply Kd.R_drewN | apply Kd.R_drew)); exact HO148.out) hb); have n2_ := Aside0.mk (Kd.R_elder' (by (with_reducible repeat (first | apply Kd.R_alloc | apply Kd.R_drewN | apply Kd.R_drew)); exact HO152.out) (Kd.R_base ho35) hb); have n3_ := Aside0.mk (Kd.R_elder' (by (with_reducible repeat (first | apply Kd.R_alloc | apply Kd.R_drewN | apply Kd.R_drew)); exact HO155.out) (Kd.R_base ho35) hb); have n4_ := Aside0.mk (Kd.N_elder' (by (with_reducible repeat (first | apply Kd.N_alloc | apply Kd.N_drewN | apply Kd.N_drew)); exact HO159.out) (Kd.R_base ho35) hb); have n5_ := Aside0.mk (Kd.R_below (by (with_reducible repeat (first | apply Kd.R_alloc | apply Kd.R_drewN | apply Kd.R_drew)); exact HO163.out) hb); have n6_ := Aside0.mk (Kd.R_elder' (by (with_reducible repeat (first | apply Kd.R_alloc | apply Kd.R_drewN | apply Kd.R_drew)); exact HO167.out) (Kd.R_base ho35) hb); have n7_ := Aside0.mk (Kd.N_elder' (by (with_reducible repeat (first | apply Kd.N_alloc | apply Kd.N_drewN | apply Kd.N_drew)); exact HO172.out) (Kd.R_base ho35) hb); have n8_ := Aside0.mk (Kd.R_below (by (with_reducible repeat (first | apply Kd.R_alloc | apply Kd.R_drewN | apply Kd.R_drew)); exact HO176.out) hb); have n9_ := Aside0.mk (Kd.R_elder' (by (with_reducible repeat (first | apply Kd.R_alloc | apply Kd.R_drewN | apply Kd.R_drew)); exact HO180.out) (Kd.R_base ho35) hb); have n10_ := Aside0.mk (Kd.R_elder' (by (with_reducible repeat (first | apply Kd.R_alloc | apply Kd.R_drewN | apply Kd.R_drew)); exact HO183.out) (Kd.R_base ho35) hb); have n11_ := Aside0.mk (Kd.R_elder' (by (with_reducible repeat (first | apply Kd.R_alloc | apply Kd.R_drewN | apply Kd.R_drew)); exact HO188.out) (Kd.R_base ho35) hb); have n12_ := Aside0.mk (Kd.R_lower (Kd.R_new' (Kd.R_new' (Kd.R_new' (Kd.R_new' (Kd.R_new' (Kd.R_new' ho35 (Kd.R_lt (by (with_reducible repeat (first | apply Kd.R_alloc | apply Kd.R_drewN | apply Kd.R_drew)); exact HO152.out))) (Kd.R_lt (by (with_reducible repeat (first | apply Kd.R_alloc | apply Kd.R_drewN | apply Kd.R_drew)); exact HO155.out))) (Kd.R_lt (by (with_reducible repeat (first | apply Kd.R_alloc | apply Kd.R_drewN | apply Kd.R_drew)); exact HO167.out))) (Kd.R_lt (by (with_reducible repeat (first | apply Kd.R_alloc | apply Kd.R_drewN | apply Kd.R_drew)); exact HO180.out))) (Kd.R_lt (by (with_reducible repeat (first | apply Kd.R_alloc | apply Kd.R_drewN | apply Kd.R_drew)); exact HO183.out))) (Kd.R_lt (by (with_reducible repeat (first | apply Kd.R_alloc | apply Kd.R_drewN | apply Kd.R_drew)); exact HO188.out))) (below_size (by repeat (first | (with_reducible first | exact HB.out | apply below_alloc | apply pw_below_drewN | apply below_drew1) | exact HB.out)))); have n13_ := Aside0.mk (below_step (by repeat (first | (with_reducible first | exact HB.out | apply below_alloc | apply pw_below_drewN | apply below_drew1) | exact HB.out)) hb); clear HO144; clear HO148; clear HO152; clear HO155; clear HO159; clear HO163; clear HO167; clear HO172; clear HO176; clear HO180; clear HO183; clear HO188; clear HB; have HO144 := n0_; have HO148 := n1_; have HO152 := n2_; have HO155 := n3_; have HO159 := n4_; have HO163 := n5_; have HO167 := n6_; have HO172 := n7_; have HO176 := n8_; have HO180 := n9_; have HO183 := n10_; have HO188 := n11_; have HO192 := n12_; have HB := n13_; clear n0_ n1_ n2_ n3_ n4_ n5_ n6_ n7_ n8_ n9_ n10_ n11_ n12_ n13_; clear hb ho35; obtain ⟨Ao36, co36, eo36⟩ := Kd.R_slice HO183.out; subst eo36; obtain ⟨Ao37, co37, eo37⟩ := Kd.R_slice HO192.out; subst eo37) | (go_at_call 22; (with_reducible refine (swarfkit_EqualInts.calls k _ _ t181 _ _ y190 t193 _ ?side1 ?side2 ?side3 ?side4 A14.out).mono ?_); (case side1 => repeat (first | exact (Kd.R_reads' HO183.out).2.2 | (with_reducible refine Kd.C_alloc ?_ _) | (with_reducible refine Kd.C_drewN ?_ _) | (with_reducible refine Kd.C_drew ?_))); (case side2 => exact (Kd.R_reads' HO183.out).2.1); (case side3 => repeat (first | exact (Kd.R_reads' HO192.out).2.2 | (with_reducible refine Kd.C_alloc ?_ _) | (with_reducible refine Kd.C_drewN ?_ _) | (with_reducible refine Kd.C_drew ?_))); (case side4 => exact (Kd.R_reads' HO192.out).2.1); rintro e w' ⟨rfl, ⟨nd, rfl⟩⟩))
              go_ret
              exact ⟨by first | rfl | (simp [errW_none, errW_some] <;> rfl) | (simp [*, errW_none, errW_some] <;> rfl), by repeat (first | (with_reducible first | exact HB.out | apply below_alloc | apply pw_below_drewN | apply below_drew1) | exact HB.out)⟩
            · replace c13 := Bool.eq_false_iff.mpr c13
              subst c13
              have H1 : (some false) = some r := by rw [if_neg (show ¬ (false = true) by decide)] at H; exact H
              clear H
              have H := H1
              clear H1
              exact absurd ((Option.some.inj H).trans hrt.out) (by decide)
          · rw [if_neg c11] at H
            have c11b0 : (t184 == 74) = false := beq_eq_false_iff_ne.mpr c11
            have c11b1 : (t184 != 74) = true := bne_iff_ne.mpr c11
            exact absurd ((Option.some.inj H).trans hrt.out) (by decide)
        · rw [if_neg c10] at H
          have c10b0 : (t168 == 2) = false := beq_eq_false_iff_ne.mpr c10
          have c10b1 : (t168 != 2) = true := bne_iff_ne.mpr c10
          exact absurd ((Option.some.inj H).trans hrt.out) (by decide)
      · rw [if_neg c9] at H
        have c9b0 : (t185 == 0) = false := beq_eq_false_iff_ne.mpr c9
        have c9b1 : (t185 != 0) = true := bne_iff_ne.mpr c9
        exact absurd ((Option.some.inj H).trans hrt.out) (by decide)
    · rw [if_neg c8] at H
      have c8b0 : (t169 == 0) = false := beq_eq_false_iff_ne.mpr c8
      have c8b1 : (t169 != 0) = true := bne_iff_ne.mpr c8
      exact absurd ((Option.some.inj H).trans hrt.out) (by decide)
  · rw [if_neg c7] at H
    have c7b0 : (t156 == 0) = false := beq_eq_false_iff_ne.mpr c7
    have c7b1 : (t156 != 0) = true := bne_iff_ne.mpr c7
    exact absurd ((Option.some.inj H).trans hrt.out) (by decide)
end Go.Proofs.Ytkkmfcdikkiodaa.PC4
namespace Go.Proofs.Ytkkmfcdikkiodaa.PC4
open Go.RowKit Go.Proofs.YtkkmfcdikkiodaaW.PrintWords Go.Proofs.YtkkmfcdikkiodaaW.PrintLast Go.Proofs.YtkkmfcdikkiodaaW.PrintMore
attribute [local go_sem] max2_int min2_int max_two min_two max_three min_three max_four min_four
set_option linter.unusedVariables false
set_option linter.unusedSimpArgs false
def swarfref04_IsClean.l0 : Nat → List Bool → Int → List (S50) → Int → List (S61) → Int → List Int → Option (Bool)
  | 0, _, _, _, _, _, _, _ => none
  | k + 1, x1, x5, x271000, x271001, x271002, x271003, x271004 => if x5 < (x1.length : Int) then (if 0 ≤ x5 then (if x5 < (x271000.length : Int) then (if (rd_T50 x271000 x5).f1 = true then (if rdOf false x1 x5 = true then (swarfref04_IsClean.l0 k x1 (wrap64 (x5 + 1)) x271000 x271001 x271002 x271003 x271004) else (some false)) else (swarfref04_IsClean.l0 k x1 (wrap64 (x5 + 1)) x271000 x271001 x271002 x271003 x271004)) else (none)) else (none)) else (some true)
def swarfref04_IsClean.f (k : Nat) (l0_0 : List (S50)) (a0_1 : Int) (l0_2 : List (S61)) (a0_3 : Int) (l0_4 : List Int) (l1 : List Bool) : Option (Bool) := swarfref04_IsClean.l0 k l1 0 l0_0 a0_1 l0_2 a0_3 l0_4
theorem swarfref04_IsClean.mono_l : ∀ k, (∀ y0 y1 y2 y3 y4 y5 y6, LeO (swarfref04_IsClean.l0 k y0 y1 y2 y3 y4 y5 y6) (swarfref04_IsClean.l0 (k + 1) y0 y1 y2 y3 y4 y5 y6))
  | 0 => fun _ _ _ _ _ _ _ r h => by simp [swarfref04_IsClean.l0] at h
  | k + 1 => by
    have ih0 := swarfref04_IsClean.mono_l k
    · intro y0 y1 y2 y3 y4 y5 y6
      unfold swarfref04_IsClean.l0
      repeat' first
      | (with_reducible exact ih0 _ _ _ _ _ _ _)
      | (with_reducible exact LeO.refl _)
      | (with_reducible exact LeO.none _)
      | (with_reducible refine LeO.ite ?_ ?_)
      | (with_reducible refine LeO.bind ?_ (fun _ => ?_))
      | exact ih0 _ _ _ _ _ _ _
      | exact LeO.none _
      | refine LeO.ite ?_ ?_
      | refine LeO.bind ?_ (fun _ => ?_)
theorem swarfref04_IsClean.mono : ∀ a0 a1 a2 a3 a4 a5 k, LeO (swarfref04_IsClean.f k a0 a1 a2 a3 a4 a5) (swarfref04_IsClean.f (k + 1) a0 a1 a2 a3 a4 a5) := by
  intro a0 a1 a2 a3 a4 a5 k
  have ih0 := swarfref04_IsClean.mono_l k
  unfold swarfref04_IsClean.f
  repeat' first
      | (with_reducible exact ih0 _ _ _ _ _ _ _)
      | (with_reducible exact LeO.refl _)
      | (with_reducible exact LeO.none _)
      | (with_reducible refine LeO.ite ?_ ?_)
      | (with_reducible refine LeO.bind ?_ (fun _ => ?_))
      | exact ih0 _ _ _ _ _ _ _
      | exact LeO.none _
      | refine LeO.ite ?_ ?_
      | refine LeO.bind ?_ (fun _ => ?_)
set_option maxHeartbeats 8000000 in
set_option maxRecDepth 100000 in
theorem swarfref04_IsClean.calls (k : Nat) (A0_0 : Option Addr) (c0_0 : Nat) (l0_0 : List (S50)) (a0_1 : Int) (A0_2 : Option Addr) (c0_2 : Nat) (l0_2 : List (S61)) (a0_3 : Int) (A0_4 : Option Addr) (c0_4 : Nat) (l0_4 : List Int) (A1 : Option Addr) (c1 : Nat) (l1 : List Bool) (r : Bool) (w : World) (hr0_0 : Kd.C k50 w A0_0 l0_0.length l0_0) (hc0_0 : l0_0.length ≤ c0_0) (hr0_2 : Kd.C k61 w A0_2 l0_2.length l0_2) (hc0_2 : l0_2.length ≤ c0_2) (hr0_4 : Kd.C (Kd.int .i64) w A0_4 l0_4.length l0_4) (hc0_4 : l0_4.length ≤ c0_4) (hr1 : Kd.C Kd.bool w A1 l1.length l1) (hc1 : l1.length ≤ c1) (h : swarfref04_IsClean.f k l0_0 a0_1 l0_2 a0_3 l0_4 l1 = some r) :
    Calls Try.prog 29 #[.agg #[.slice A0_0 l0_0.length c0_0, .int .i64 a0_1, .slice A0_2 l0_2.length c0_2, .int .i64 a0_3, .slice A0_4 l0_4.length c0_4], .slice A1 l1.length c1] w fun e w' => e = .returned (.bool r) ∧ Below w.heap.size w w' := by
  have hu26 := Try.underlying26
  have HR0_0 := Aside0.mk hr0_0
  have HC0_0 := Aside0.mk hc0_0
  clear hr0_0 hc0_0
  have HR0_2 := Aside0.mk hr0_2
  have HC0_2 := Aside0.mk hc0_2
  clear hr0_2 hc0_2
  have HR0_4 := Aside0.mk hr0_4
  have HC0_4 := Aside0.mk hc0_4
  clear hr0_4 hc0_4
  have HR1 := Aside0.mk hr1
  have HC1 := Aside0.mk hc1
  clear hr1 hc1
  have HB := Aside0.mk (Below.refl w.heap.size w)
  have H : (swarfref04_IsClean.l0 k l1 0 l0_0 a0_1 l0_2 a0_3 l0_4) = some r := h
  clear h
  have H' := Aside0.mk H
  clear H
  go_enter Try.func29, Try.ntmps29
  go_wp2_with (first | ((with_reducible refine gate_dst (N := 2) rfl ?_); refine box_event ?hg (N := 2) ?hd (cs := #[.slice A0_0 l0_0.length c0_0, .int .i64 a0_1, .slice A0_2 l0_2.length c0_2, .int .i64 a0_3, .slice A0_4 l0_4.length c0_4]) (t := 26) ?hr ?_; (case hd => rfl); (case hg => rfl); (case hr => first | (go_simp; done) | (go_simp; rfl)); intro gb270 hg w3 hbox hb; have n0_ := Aside0.mk (below_step (by repeat (first | (with_reducible first | exact HB.out | apply below_alloc | apply pw_below_drewN | apply below_drew1) | exact HB.out)) hb); have n1_ := Aside0.mk (hbox); have n2_ := Aside0.mk ((by rw [hg]; exact (below_size (by repeat (first | (with_reducible first | exact HB.out | apply below_alloc | apply pw_below_drewN | apply below_drew1) | exact HB.out))) : w.heap.size ≤ gb270)); have n3_ := Aside0.mk ((by rw [hg]; exact (below_size (by repeat (first | (with_reducible first | exact HB.out | apply below_alloc | apply pw_below_drewN | apply below_drew1) | exact HB.out))) : w.heap.size ≤ gb270)); clear HB; have HB := n0_; have BK270 := n1_; have GW270 := n2_; have GE270 := n3_; clear n0_ n1_ n2_ n3_; clear hb hbox hg))
  go_loopg [5] k (fun kq v5 w' => ∃ (x5_1 : Int), v5 = .int .i64 x5_1 ∧ Aside0 (swarfref04_IsClean.l0 kq l1 x5_1 l0_0 a0_1 l0_2 a0_3 l0_4 = some r) ∧ Aside0 (kq ≤ k) ∧ Aside0 (w'.heap[gb270]? = some (.cells #[(.slice A0_0 l0_0.length c0_0), .int .i64 a0_1, (.slice A0_2 l0_2.length c0_2), .int .i64 a0_3, (.slice A0_4 l0_4.length c0_4)] 26 (0, 0))) ∧ Aside0 (Below w.heap.size w w'))
  case atStart => exact ⟨(0), (by first | rfl | (simp; done) | (simp [*]; done)), H', ⟨Nat.le_refl _⟩, ⟨by (with_reducible repeat (first | refine blk_drewN ?_ _ | refine blk_drew ?_ | refine blk_alloc ?_ _)); exact BK270.out⟩, ⟨by repeat (first | (with_reducible first | exact HB.out | apply below_alloc | apply pw_below_drewN | apply below_drew1 | refine below_set ?_ GE270.out) | exact HB.out)⟩⟩
  case round =>
    clear H'
    try clear c1
    try clear c2
    try clear p2
    obtain ⟨x5_1, rfl, HA, HK1, BK270, HB⟩ := hrel
    cases gk with
    | zero => exact absurd HA.out (by simp [swarfref04_IsClean.l0])
    | succ k1 =>
      have H := HA.out
      clear HA
      simp only [swarfref04_IsClean.l0] at H
      by_cases c4 : x5_1 < (l1.length : Int)
      · rw [if_pos c4] at H
        have c4b0 : decide (x5_1 < (l1.length : Int)) = true := decide_eq_true c4
        clear c4
        by_cases c5 : 0 ≤ x5_1
        · rw [if_pos c5] at H
          have c5b0 : decide (0 ≤ x5_1) = true := decide_eq_true c5
          clear c5
          by_cases c6 : x5_1 < (l0_0.length : Int)
          · rw [if_pos c6] at H
            have c6b0 : decide (x5_1 < (l0_0.length : Int)) = true := decide_eq_true c6
            clear c6
            obtain ⟨bq7, hbq7⟩ : ∃ b_ : Bool, b_ = ((rd_T50 l0_0 x5_1).f1) := ⟨_, rfl⟩
            replace H : (if bq7 = true then (if rdOf false l1 x5_1 = true then (swarfref04_IsClean.l0 k1 l1 (wrap64 (x5_1 + 1)) l0_0 a0_1 l0_2 a0_3 l0_4) else (some false)) else (swarfref04_IsClean.l0 k1 l1 (wrap64 (x5_1 + 1)) l0_0 a0_1 l0_2 a0_3 l0_4)) = some r := by rw [← hbq7] at H; exact H
            have Nbq7 := Aside0.mk hbq7
            clear hbq7
            by_cases c8 : bq7 = true
            · subst c8
              have H1 : (if rdOf false l1 x5_1 = true then (swarfref04_IsClean.l0 k1 l1 (wrap64 (x5_1 + 1)) l0_0 a0_1 l0_2 a0_3 l0_4) else (some false)) = some r := by rw [if_pos rfl] at H; exact H
              clear H
              have H := H1
              clear H1
              obtain ⟨bq9, hbq9⟩ : ∃ b_ : Bool, b_ = (rdOf false l1 x5_1) := ⟨_, rfl⟩
              replace H : (if bq9 = true then (swarfref04_IsClean.l0 k1 l1 (wrap64 (x5_1 + 1)) l0_0 a0_1 l0_2 a0_3 l0_4) else (some false)) = some r := by rw [← hbq9] at H; exact H
              have Nbq9 := Aside0.mk hbq9
              clear hbq9
              by_cases c10 : bq9 = true
              · subst c10
                have H1 : (swarfref04_IsClean.l0 k1 l1 (wrap64 (x5_1 + 1)) l0_0 a0_1 l0_2 a0_3 l0_4) = some r := by rw [if_pos rfl] at H; exact H
                clear H
                have H := H1
                clear H1
                have H' := Aside0.mk H
                clear H
                have hcz11_0 : wr.cell? ⟨gb270, 0, none⟩ = some (.slice A0_0 l0_0.length c0_0) := (blk_cell BK270.out 0).trans rfl
                have hcz11_1 : wr.cell? ⟨gb270, 1, none⟩ = some (.int .i64 a0_1) := (blk_cell BK270.out 1).trans rfl
                have hcz11_2 : wr.cell? ⟨gb270, 2, none⟩ = some (.slice A0_2 l0_2.length c0_2) := (blk_cell BK270.out 2).trans rfl
                have hcz11_3 : wr.cell? ⟨gb270, 3, none⟩ = some (.int .i64 a0_3) := (blk_cell BK270.out 3).trans rfl
                have hcz11_4 : wr.cell? ⟨gb270, 4, none⟩ = some (.slice A0_4 l0_4.length c0_4) := (blk_cell BK270.out 4).trans rfl
                have hfz11_0 := blk_frozen BK270.out 0
                have hfz11_1 := blk_frozen BK270.out 1
                have hfz11_2 := blk_frozen BK270.out 2
                have hfz11_3 := blk_frozen BK270.out 3
                have hfz11_4 := blk_frozen BK270.out 4
                have p271 : 0 ≤ (x5_1 : Int) := of_decide_eq_true (by first | (with_reducible assumption) | assumption)
                have q271 : x5_1 < (l0_0.length : Int) := of_decide_eq_true (by first | (with_reducible assumption) | assumption)
                obtain ⟨ad271, A271_0, c271_0, e271, hx271_0, hx271_1, hx271_2, hx271_3, hl271_0, hi271_0⟩ := at_T50 HR0_0.out x5_1 p271 q271
                (try rw [← Nbq7.out] at hx271_1)
                (try rw [← Nbq9.out] at hx271_1)
                cases e271
                replace hx271_0 := (HB.out.cell (World.block_lt_of_cell? w _ hx271_0)).trans hx271_0
                replace hx271_1 := (HB.out.cell (World.block_lt_of_cell? w _ hx271_1)).trans hx271_1
                replace hx271_2 := (HB.out.cell (World.block_lt_of_cell? w _ hx271_2)).trans hx271_2
                replace hx271_3 := (HB.out.cell (World.block_lt_of_cell? w _ hx271_3)).trans hx271_3
                have HR271_0 := Aside0.mk hi271_0
                have HC271_0 := Aside0.mk hl271_0
                clear hi271_0 hl271_0
                replace p271 := eq_true p271
                replace q271 := eq_true q271
                have p272 : 0 ≤ (x5_1 : Int) := of_decide_eq_true (by first | (with_reducible assumption) | assumption)
                have q272 : x5_1 < (l1.length : Int) := of_decide_eq_true (by first | (with_reducible assumption) | assumption)
                obtain ⟨ad272, e272, hx272_0⟩ := Kd.at_bool HR1.out x5_1 p272 q272
                (try rw [← Nbq7.out] at hx272_0)
                (try rw [← Nbq9.out] at hx272_0)
                cases e272
                replace hx272_0 := (HB.out.cell (World.block_lt_of_cell? w _ hx272_0)).trans hx272_0
                replace p272 := eq_true p272
                replace q272 := eq_true q272
                go_wp2
                go_roundg k1
                case measure => have := HK1.out; omega
                case rel => exact ⟨(wrap64 (x5_1 + 1)), (by first | rfl | (simp; done) | (simp [*]; done)), H', ⟨by have := HK1.out; omega⟩, ⟨by (with_reducible repeat (first | refine blk_drewN ?_ _ | refine blk_drew ?_ | refine blk_alloc ?_ _)); exact BK270.out⟩, ⟨by repeat (first | (with_reducible first | exact HB.out | apply below_alloc | apply pw_below_drewN | apply below_drew1 | refine below_set ?_ GE270.out) | exact HB.out)⟩⟩
              · replace c10 := Bool.eq_false_iff.mpr c10
                subst c10
                have H1 : (some false) = some r := by rw [if_neg (show ¬ (false = true) by decide)] at H; exact H
                clear H
                have H := H1
                clear H1
                obtain rfl := Option.some.inj H
                have hcz12_0 : wr.cell? ⟨gb270, 0, none⟩ = some (.slice A0_0 l0_0.length c0_0) := (blk_cell BK270.out 0).trans rfl
                have hcz12_1 : wr.cell? ⟨gb270, 1, none⟩ = some (.int .i64 a0_1) := (blk_cell BK270.out 1).trans rfl
                have hcz12_2 : wr.cell? ⟨gb270, 2, none⟩ = some (.slice A0_2 l0_2.length c0_2) := (blk_cell BK270.out 2).trans rfl
                have hcz12_3 : wr.cell? ⟨gb270, 3, none⟩ = some (.int .i64 a0_3) := (blk_cell BK270.out 3).trans rfl
                have hcz12_4 : wr.cell? ⟨gb270, 4, none⟩ = some (.slice A0_4 l0_4.length c0_4) := (blk_cell BK270.out 4).trans rfl
                have hfz12_0 := blk_frozen BK270.out 0
                have hfz12_1 := blk_frozen BK270.out 1
                have hfz12_2 := blk_frozen BK270.out 2
                have hfz12_3 := blk_frozen BK270.out 3
                have hfz12_4 := blk_frozen BK270.out 4
                have p271 : 0 ≤ (x5_1 : Int) := of_decide_eq_true (by first | (with_reducible assumption) | assumption)
                have q271 : x5_1 < (l0_0.length : Int) := of_decide_eq_true (by first | (with_reducible assumption) | assumption)
                obtain ⟨ad271, A271_0, c271_0, e271, hx271_0, hx271_1, hx271_2, hx271_3, hl271_0, hi271_0⟩ := at_T50 HR0_0.out x5_1 p271 q271
                (try rw [← Nbq7.out] at hx271_1)
                (try rw [← Nbq9.out] at hx271_1)
                cases e271
                replace hx271_0 := (HB.out.cell (World.block_lt_of_cell? w _ hx271_0)).trans hx271_0
                replace hx271_1 := (HB.out.cell (World.block_lt_of_cell? w _ hx271_1)).trans hx271_1
                replace hx271_2 := (HB.out.cell (World.block_lt_of_cell? w _ hx271_2)).trans hx271_2
                replace hx271_3 := (HB.out.cell (World.block_lt_of_cell? w _ hx271_3)).trans hx271_3
                have HR271_0 := Aside0.mk hi271_0
                have HC271_0 := Aside0.mk hl271_0
                clear hi271_0 hl271_0
                replace p271 := eq_true p271
                replace q271 := eq_true q271
                have p272 : 0 ≤ (x5_1 : Int) := of_decide_eq_true (by first | (with_reducible assumption) | assumption)
                have q272 : x5_1 < (l1.length : Int) := of_decide_eq_true (by first | (with_reducible assumption) | assumption)
                obtain ⟨ad272, e272, hx272_0⟩ := Kd.at_bool HR1.out x5_1 p272 q272
                (try rw [← Nbq7.out] at hx272_0)
                (try rw [← Nbq9.out] at hx272_0)
                cases e272
                replace hx272_0 := (HB.out.cell (World.block_lt_of_cell? w _ hx272_0)).trans hx272_0
                replace p272 := eq_true p272
                replace q272 := eq_true q272
                go_wp2
                go_ret
                exact ⟨by first | rfl | (simp [errW_none, errW_some] <;> rfl) | (simp [*, errW_none, errW_some] <;> rfl), by repeat (first | (with_reducible first | exact HB.out | apply below_alloc | apply pw_below_drewN | apply below_drew1 | refine below_set ?_ GE270.out) | exact HB.out)⟩
            · replace c8 := Bool.eq_false_iff.mpr c8
              subst c8
              have H1 : (swarfref04_IsClean.l0 k1 l1 (wrap64 (x5_1 + 1)) l0_0 a0_1 l0_2 a0_3 l0_4) = some r := by rw [if_neg (show ¬ (false = true) by decide)] at H; exact H
              clear H
              have H := H1
              clear H1
              have H' := Aside0.mk H
              clear H
              have hcz13_0 : wr.cell? ⟨gb270, 0, none⟩ = some (.slice A0_0 l0_0.length c0_0) := (blk_cell BK270.out 0).trans rfl
              have hcz13_1 : wr.cell? ⟨gb270, 1, none⟩ = some (.int .i64 a0_1) := (blk_cell BK270.out 1).trans rfl
              have hcz13_2 : wr.cell? ⟨gb270, 2, none⟩ = some (.slice A0_2 l0_2.length c0_2) := (blk_cell BK270.out 2).trans rfl
              have hcz13_3 : wr.cell? ⟨gb270, 3, none⟩ = some (.int .i64 a0_3) := (blk_cell BK270.out 3).trans rfl
              have hcz13_4 : wr.cell? ⟨gb270, 4, none⟩ = some (.slice A0_4 l0_4.length c0_4) := (blk_cell BK270.out 4).trans rfl
              have hfz13_0 := blk_frozen BK270.out 0
              have hfz13_1 := blk_frozen BK270.out 1
              have hfz13_2 := blk_frozen BK270.out 2
              have hfz13_3 := blk_frozen BK270.out 3
              have hfz13_4 := blk_frozen BK270.out 4
              have p271 : 0 ≤ (x5_1 : Int) := of_decide_eq_true (by first | (with_reducible assumption) | assumption)
              have q271 : x5_1 < (l0_0.length : Int) := of_decide_eq_true (by first | (with_reducible assumption) | assumption)
              obtain ⟨ad271, A271_0, c271_0, e271, hx271_0, hx271_1, hx271_2, hx271_3, hl271_0, hi271_0⟩ := at_T50 HR0_0.out x5_1 p271 q271
              (try rw [← Nbq7.out] at hx271_1)
              cases e271
              replace hx271_0 := (HB.out.cell (World.block_lt_of_cell? w _ hx271_0)).trans hx271_0
              replace hx271_1 := (HB.out.cell (World.block_lt_of_cell? w _ hx271_1)).trans hx271_1
              replace hx271_2 := (HB.out.cell (World.block_lt_of_cell? w _ hx271_2)).trans hx271_2
              replace hx271_3 := (HB.out.cell (World.block_lt_of_cell? w _ hx271_3)).trans hx271_3
              have HR271_0 := Aside0.mk hi271_0
              have HC271_0 := Aside0.mk hl271_0
              clear hi271_0 hl271_0
              replace p271 := eq_true p271
              replace q271 := eq_true q271
              go_wp2
              go_roundg k1
              case measure => have := HK1.out; omega
              case rel => exact ⟨(wrap64 (x5_1 + 1)), (by first | rfl | (simp; done) | (simp [*]; done)), H', ⟨by have := HK1.out; omega⟩, ⟨by (with_reducible repeat (first | refine blk_drewN ?_ _ | refine blk_drew ?_ | refine blk_alloc ?_ _)); exact BK270.out⟩, ⟨by repeat (first | (with_reducible first | exact HB.out | apply below_alloc | apply pw_below_drewN | apply below_drew1 | refine below_set ?_ GE270.out) | exact HB.out)⟩⟩
          · rw [if_neg c6] at H
            exact absurd H (by simp)
        · rw [if_neg c5] at H
          exact absurd H (by simp)
      · rw [if_neg c4] at H
        have c4b0 : decide (x5_1 < (l1.length : Int)) = false := decide_eq_false c4
        clear c4
        obtain rfl := Option.some.inj H
        go_wp2
        go_ret
        exact ⟨by first | rfl | (simp [errW_none, errW_some] <;> rfl) | (simp [*, errW_none, errW_some] <;> rfl), by repeat (first | (with_reducible first | exact HB.out | apply below_alloc | apply pw_below_drewN | apply below_drew1 | refine below_set ?_ GE270.out) | exact HB.out)⟩
end Go.Proofs.Ytkkmfcdikkiodaa.PC4
namespace Go.Proofs.Ytkkmfcdikkiodaa.PC4
open Go.RowKit Go.Proofs.YtkkmfcdikkiodaaW.PrintWords Go.Proofs.YtkkmfcdikkiodaaW.PrintLast Go.Proofs.YtkkmfcdikkiodaaW.PrintMore
attribute [local go_sem] max2_int min2_int max_two min_two max_three min_three max_four min_four
set_option linter.unusedVariables false
set_option linter.unusedSimpArgs false
def swarflaw04_said.f (a0 : Int) (a1 : Int) : Option (Int) := if a0 = a1 then (some 1) else (if a0 = 0 then (some 2) else (some 3))
set_option maxHeartbeats 8000000 in
set_option maxRecDepth 100000 in
theorem swarflaw04_said.calls (a0 : Int) (a1 : Int) (r : Int) (w : World) (h : swarflaw04_said.f a0 a1 = some r) :
    Calls Try.prog 30 #[.int .i64 a0, .int .i64 a1] w fun e w' => e = .returned (.int .i64 r) ∧ Drawn0 w w' := by
  have H : (if a0 = a1 then (some 1) else (if a0 = 0 then (some 2) else (some 3))) = some r := h
  clear h
  by_cases c3 : a0 = a1
  · rw [if_pos c3] at H
    have c3b0 : (a0 == a1) = true := beq_iff_eq.mpr c3
    have c3b1 : (a0 != a1) = false := bne_eq_false_iff_eq.mpr c3
    clear c3
    obtain rfl := Option.some.inj H
    go_enter Try.func30, Try.ntmps30
    go_wp2
    go_ret
    exact ⟨by first | rfl | (simp; done) | (simp [*]; done), by repeat (first | exact Drawn0.refl _ | apply Drawn0.step)⟩
  · rw [if_neg c3] at H
    have c3b0 : (a0 == a1) = false := beq_eq_false_iff_ne.mpr c3
    have c3b1 : (a0 != a1) = true := bne_iff_ne.mpr c3
    by_cases c4 : a0 = 0
    · rw [if_pos c4] at H
      have c4b0 : (a0 == 0) = true := beq_iff_eq.mpr c4
      have c4b1 : (a0 != 0) = false := bne_eq_false_iff_eq.mpr c4
      clear c4
      obtain rfl := Option.some.inj H
      go_enter Try.func30, Try.ntmps30
      go_wp2
      go_ret
      exact ⟨by first | rfl | (simp; done) | (simp [*]; done), by repeat (first | exact Drawn0.refl _ | apply Drawn0.step)⟩
    · rw [if_neg c4] at H
      have c4b0 : (a0 == 0) = false := beq_eq_false_iff_ne.mpr c4
      have c4b1 : (a0 != 0) = true := bne_iff_ne.mpr c4
      obtain rfl := Option.some.inj H
      go_enter Try.func30, Try.ntmps30
      go_wp2
      go_ret
      exact ⟨by first | rfl | (simp; done) | (simp [*]; done), by repeat (first | exact Drawn0.refl _ | apply Drawn0.step)⟩
end Go.Proofs.Ytkkmfcdikkiodaa.PC4
