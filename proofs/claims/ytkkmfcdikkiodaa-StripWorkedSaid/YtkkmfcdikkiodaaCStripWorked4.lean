/- Lemmas on the way to this: The order of Work keeps all rules, has all that is left to do and nothing else, and no order is quicker, nor as quick and comes before: for every list of numbers of the size that Go can hold. -/
import Derived.Test.YtkkmfcdikkiodaaCStripWorked3
import Derived.Test.YtkkmfcdikkiodaaCStripWorked2
import Derived.Test.YtkkmfcdikkiodaaCStripWorked1
namespace Go.Proofs.Ytkkmfcdikkiodaa.PC4
set_option linter.unusedVariables false
open Go.RowKit Go.Proofs.YtkkmfcdikkiodaaW.PrintWords Go.Proofs.YtkkmfcdikkiodaaW.PrintLast Go.Proofs.YtkkmfcdikkiodaaW.PrintMore
def Res {α : Type} (g : Nat → Option α) (P : α → Prop) : Prop := ∃ r, Ev g r ∧ P r
theorem Res.step {α : Type} {g f : Nat → Option α} {P : α → Prop} (h : ∀ k, g (k + 1) = f k) (k : Res f P) : Res g P := by
  obtain ⟨r, h1, h2⟩ := k
  exact ⟨r, Ev.step h h1, h2⟩
theorem Res.bind {α β : Type} {g : Nat → Option α} {f : Nat → α → Option β} {P : β → Prop} {a : α} (h : Ev g a) (k : Res (fun n => f n a) P) : Res (fun n => (g n).bind (f n)) P := by
  obtain ⟨r, h1, h2⟩ := k
  exact ⟨r, Ev.bind h h1, h2⟩
theorem inB_of {n low high : Int} (h : low ≤ n ∧ n ≤ high) : inB n low high = true := inB_true.2 h
theorem rise_snoc (most beyond x : Int) : ∀ (l : List Int) (p : Option Int), rise most beyond p l = 0 → (∀ y, y ∈ l → y < x) → (∀ q, p = some q → q < x) → 0 ≤ x → x ≤ most → rise most beyond p (l ++ [x]) = 0 := by
  intro l
  induction l with
  | nil =>
    intro p _ _ hp h0 h1
    show rise most beyond p [x] = 0
    rw [rise_cons, if_pos (inB_of ⟨h0, h1⟩)]
    cases p with
    | none => simp [rise]
    | some q =>
      have := hp q rfl
      rw [if_neg (by simpa using this)]
      simp [rise]
  | cons y l ih =>
    intro p h hl hp h0 h1
    rw [List.cons_append, rise_cons]
    rw [rise_cons] at h
    have hy := hl y List.mem_cons_self
    by_cases hb : inB y 0 most = true
    · rw [if_pos hb] at h ⊢
      have hn := fun h => ih (some y) h (fun z hz => hl z (List.mem_cons_of_mem _ hz)) (fun q e => by injection e with e; omega) h0 h1
      cases p with
      | none =>
        rw [if_neg (by simp)] at h ⊢
        exact hn h
      | some q =>
        by_cases hq : y ≤ q
        · rw [if_pos (by simpa using hq)] at h
          cases h
        · rw [if_neg (by simpa using hq)] at h ⊢
          exact hn h
    · rw [if_neg hb] at h ⊢
      exact h
theorem riseE_snoc {most beyond x : Int} {l : List Int} (h : riseE most beyond l = 0) (hl : ∀ y, y ∈ l → y < x) (h0 : 0 ≤ x) (h1 : x ≤ most) : riseE most beyond (l ++ [x]) = 0 :=
  rise_snoc most beyond x l none h hl (fun q e => by cases e) h0 h1
structure PartOK (i : Nat) (p : S50) : Prop where
  ris : riseE ((i : Int) - 1) 3 p.f0 = 0
  lt : ∀ x, x ∈ p.f0 → 0 ≤ x ∧ x < i
  len : p.f0.length ≤ i
  tool : 1 ≤ p.f2 ∧ p.f2 ≤ 3
  min : 0 ≤ p.f3 ∧ p.f3 ≤ 1000
structure PartsOK (parts : List S50) (st : List Bool) : Prop where
  len : st.length = parts.length
  ok : ∀ i, i < parts.length → PartOK i (parts.getD i z50)
  st : ∀ i, i < parts.length → st.getD i false = true → ∀ x, x ∈ (parts.getD i z50).f0 → st.getD x.toNat false = true
theorem getD_snoc_lt {α : Type} (l : List α) (x d : α) {i : Nat} (h : i < l.length) : (l ++ [x]).getD i d = l.getD i d := by
  rw [List.getD, List.getD, List.getElem?_append_left h]
theorem getD_snoc_eq {α : Type} (l : List α) (x d : α) : (l ++ [x]).getD l.length d = x := by
  rw [List.getD, List.getElem?_append_right (Nat.le_refl _)]; simp
theorem PartsOK.snoc {parts : List S50} {st : List Bool} (h : PartsOK parts st) {p : S50} {b : Bool} (hp : PartOK parts.length p) (hb : b = true → ∀ x, x ∈ p.f0 → st.getD x.toNat false = true) : PartsOK (parts ++ [p]) (st ++ [b]) := by
  refine ⟨by simp [h.len], fun i hi => ?_, fun i hi hs x hx => ?_⟩
  · rw [List.length_append, List.length_singleton] at hi
    by_cases e : i = parts.length
    · subst e; rw [getD_snoc_eq]; exact hp
    · rw [getD_snoc_lt _ _ _ (by omega)]; exact h.ok i (by omega)
  · rw [List.length_append, List.length_singleton] at hi
    by_cases e : i = parts.length
    · subst e
      rw [getD_snoc_eq] at hx
      rw [← h.len, getD_snoc_eq] at hs
      have hlt := hp.lt x hx
      rw [getD_snoc_lt _ _ _ (by rw [h.len]; omega)]
      exact hb hs x hx
    · rw [getD_snoc_lt _ _ _ (by omega)] at hx
      rw [getD_snoc_lt _ _ _ (by rw [h.len]; omega)] at hs
      have hlt := (h.ok i (by omega)).lt x hx
      rw [getD_snoc_lt _ _ _ (by rw [h.len]; omega)]
      exact h.st i (by omega) hs x hx
def wrongB (st : List Bool) : List S61 → Nat
  | [] => 0
  | l :: t => (if st.getD l.f0.toNat false != l.f1 then 1 else 0) + wrongB st t
theorem wrongB_le (st : List Bool) (l : List S61) : wrongB st l ≤ l.length := by
  induction l with
  | nil => simp [wrongB]
  | cons y l ih => simp only [wrongB, List.length_cons]; split <;> omega
theorem wrongs_l0 (parts : List S50) (swap : Int) (looks : List S61) (wrong : Int) (needs : List Int) (st : List Bool) (hl : looks.length ≤ 1000) (h : ∀ l, l ∈ looks → 0 ≤ l.f0 ∧ l.f0 < st.length) (d : Nat) :
    ∀ (i n : Nat), i + d = looks.length → n ≤ i → Ev (fun K => swarfref04_Wrongs.l0 K st (n : Int) (i : Int) parts swap looks wrong needs) ((n + wrongB st (looks.drop i) : Nat) : Int) := by
  induction d with
  | zero =>
    intro i n hi hn
    refine Ev.step (f := fun _ => some (n : Int)) (fun K => ?_) ?_
    · simp only [swarfref04_Wrongs.l0]
      rw [if_neg (by omega)]
    · rw [List.drop_of_length_le (by omega)]
      exact Ev.now _
  | succ d ih =>
    intro i n hi hn
    have hlt : i < looks.length := by omega
    have hrd : rd_T61 looks (i : Int) = looks.getD i z61 := by simp [rd_T61]
    have hm : looks.getD i z61 ∈ looks := by rw [List.getD, List.getElem?_eq_getElem hlt]; exact List.getElem_mem hlt
    have hb := h _ hm
    have hw : wrap64 ((i : Int) + 1) = ((i + 1 : Nat) : Int) := by rw [wrap64_id (by omega) (by omega)]; omega
    have hw2 : wrap64 ((n : Int) + 1) = ((n + 1 : Nat) : Int) := by rw [wrap64_id (by omega) (by omega)]; omega
    rw [drop_cons_rd looks i hlt z61]
    generalize looks.getD i z61 = x at *
    have hx : rdOf false st x.f0 = st.getD x.f0.toNat false := rfl
    refine Ev.step (f := fun K => if (st.getD x.f0.toNat false != x.f1) = true then swarfref04_Wrongs.l0 K st ((n + 1 : Nat) : Int) ((i + 1 : Nat) : Int) parts swap looks wrong needs else swarfref04_Wrongs.l0 K st (n : Int) ((i + 1 : Nat) : Int) parts swap looks wrong needs) (fun K => ?_) ?_
    · simp only [swarfref04_Wrongs.l0]
      rw [if_pos (by omega), if_pos (by omega), hrd, if_pos (by omega), if_pos (by omega), hw, hw2, hx]
    · simp only [wrongB]
      by_cases hc : (st.getD x.f0.toNat false != x.f1) = true
      · simp only [hc, if_true]
        have := ih (i + 1) (n + 1) (by omega) (by omega)
        rwa [Nat.add_assoc] at this
      · simp only [hc, Bool.false_eq_true, if_false, Nat.zero_add]
        exact ih (i + 1) n (by omega) (by omega)
theorem wrongs_ev (parts : List S50) (swap : Int) (looks : List S61) (wrong : Int) (needs : List Int) (st : List Bool) (hl : looks.length ≤ 1000) (h : ∀ l, l ∈ looks → 0 ≤ l.f0 ∧ l.f0 < st.length) :
    Ev (fun K => swarfref04_Wrongs.f K parts swap looks wrong needs st) ((wrongB st looks : Nat) : Int) := by
  have := wrongs_l0 parts swap looks wrong needs st hl h looks.length 0 0 (by omega) (by omega)
  simpa [swarfref04_Wrongs.f] using this
structure CarGood (a1 a2 : Int) (parts : List S50) (swap : Int) (looks : List S61) (wrong : Int) (needs : List Int) (st : List Bool) : Prop where
  p : PartsOK parts st
  one : 1 ≤ parts.length
  few : (parts.length : Int) ≤ a1
  sw : 0 ≤ swap ∧ swap ≤ 8
  lk : ∀ l, l ∈ looks → 0 ≤ l.f0 ∧ l.f0 < parts.length
  ll : (looks.length : Int) ≤ a2
  wr : 0 ≤ wrong ∧ wrong ≤ 12 ∧ (wrongB st looks : Int) ≤ wrong
  nd : riseE 8 1 needs = 0
  nl : needs.length ≤ 3
abbrev CarT := List S50 × Int × List S61 × Int × List Int × List Bool × Int
def CarGoodT (a1 a2 : Int) (r : CarT) : Prop := CarGood a1 a2 r.1 r.2.1 r.2.2.1 r.2.2.2.1 r.2.2.2.2.1 r.2.2.2.2.2.1
theorem carOf_l3 {a1 a2 : Int} {parts : List S50} {swap : Int} {looks : List S61} {wrong : Int} {st : List Bool} (hg : CarGood a1 a2 parts swap looks wrong [] st) (d : Nat) :
    ∀ (i : Nat) (s : Int) (needs : List Int), i + d = 9 → riseE 8 1 needs = 0 → (∀ x, x ∈ needs → x < i) → needs.length ≤ 3 → Res (fun K => swarfkit_CarOf.l3 K st (i : Int) s parts swap looks wrong needs) (CarGoodT a1 a2) := by
  induction d with
  | zero =>
    intro i s needs hi hr hlt hlen
    refine Res.step (f := fun K => swarfkit_CarOf.j4 K st (i : Int) false s parts swap looks wrong needs) (fun K => ?_) ?_
    · simp only [swarfkit_CarOf.l3]
      rw [if_neg (by omega)]
    · refine Res.step (f := fun K => some (parts, swap, looks, wrong, needs, st, s)) (fun K => ?_) ?_
      · simp only [swarfkit_CarOf.j4]
        rw [if_neg (by decide)]
      · exact ⟨_, Ev.now _, ⟨hg.p, hg.one, hg.few, hg.sw, hg.lk, hg.ll, hg.wr, hr, hlen⟩⟩
  | succ d ih =>
    intro i s needs hi hr hlt hlen
    refine Res.step (f := fun K => swarfkit_CarOf.j4 K st (i : Int) (decide ((needs.length : Int) < 3)) s parts swap looks wrong needs) (fun K => ?_) ?_
    · simp only [swarfkit_CarOf.l3]
      rw [if_pos (by omega)]
    by_cases h3 : (needs.length : Int) < 3
    · obtain ⟨b, s', hb⟩ := often_ok s 1 5 (by decide) (by decide)
      have hw : wrap64 ((i : Int) + 1) = ((i + 1 : Nat) : Int) := by rw [wrap64_id (by omega) (by omega)]; omega
      refine Res.step (f := fun K => if b = true then swarfkit_CarOf.l3 K st ((i + 1 : Nat) : Int) s' parts swap looks wrong (needs ++ [(i : Int)]) else swarfkit_CarOf.l3 K st ((i + 1 : Nat) : Int) s' parts swap looks wrong needs) (fun K => ?_) ?_
      · have hl2 : needs.length < 17592186044416 := by omega
        simp only [swarfkit_CarOf.j4, decide_eq_true h3, if_true, hb, Option.bind_some, hl2, hw]
      · cases b with
        | true =>
          simp only [if_true]
          refine ih (i + 1) s' _ (by omega) (riseE_snoc hr hlt (by omega) (by omega)) (fun x hx => ?_) (by simp; omega)
          rcases List.mem_append.1 hx with hx | hx
          · have := hlt x hx; omega
          · have := List.mem_singleton.1 hx; omega
        | false =>
          simp only [Bool.false_eq_true, if_false]
          exact ih (i + 1) s' _ (by omega) hr (fun x hx => by have := hlt x hx; omega) hlen
    · refine Res.step (f := fun K => some (parts, swap, looks, wrong, needs, st, s)) (fun K => ?_) ?_
      · simp only [swarfkit_CarOf.j4]
        rw [if_neg (by simpa using h3)]
      · exact ⟨_, Ev.now _, ⟨hg.p, hg.one, hg.few, hg.sw, hg.lk, hg.ll, hg.wr, hr, hlen⟩⟩
end Go.Proofs.Ytkkmfcdikkiodaa.PC4
namespace Go.Proofs.Ytkkmfcdikkiodaa.PC4
set_option linter.unusedVariables false
open Go.RowKit Go.Proofs.YtkkmfcdikkiodaaW.PrintWords Go.Proofs.YtkkmfcdikkiodaaW.PrintLast Go.Proofs.YtkkmfcdikkiodaaW.PrintMore
theorem carOf_l2 {a1 a2 : Int} {parts : List S50} {swap : Int} {st : List Bool} (hp : PartsOK parts st) (h1 : 1 ≤ parts.length) (h2 : (parts.length : Int) ≤ a1) (h9 : a1 ≤ 9) (hsw : 0 ≤ swap ∧ swap ≤ 8) (h12 : a2 ≤ 12) (d : Nat) :
    ∀ (s : Int) (looks : List S61), (looks.length : Int) + d ≤ a2 → (∀ l, l ∈ looks → 0 ≤ l.f0 ∧ l.f0 < parts.length) → Res (fun K => swarfkit_CarOf.l2 K st (d : Int) s parts swap looks 0) (CarGoodT a1 a2) := by
  induction d with
  | zero =>
    intro s looks hd hl
    have hlen := hp.len
    have hle := wrongB_le st looks
    have hw := wrongs_ev parts swap looks 0 [] st (by omega) (fun l h => by have := hl l h; rw [hlen]; exact this)
    obtain ⟨r, s', he, hr⟩ := either_ok s [0, 0, 1] (by simp) (by simp)
    have hr01 : 0 ≤ r ∧ r ≤ 1 := by simp at hr; omega
    refine Res.step (f := fun K => (swarfref04_Wrongs.f K parts swap looks 0 ([] : List Int) st).bind fun t259 => swarfkit_CarOf.l3 K st ((0 : Nat) : Int) s' parts swap looks (mn 12 (wrap64 (t259 + r))) ([] : List Int)) (fun K => ?_) ?_
    · simp only [swarfkit_CarOf.l2]
      rw [if_neg (by omega), he]
      rfl
    · refine Res.bind hw ?_
      rw [wrap64_id (by omega) (by omega)]
      have hm : 0 ≤ mn 12 ((wrongB st looks : Int) + r) ∧ mn 12 ((wrongB st looks : Int) + r) ≤ 12 ∧ (wrongB st looks : Int) ≤ mn 12 ((wrongB st looks : Int) + r) := by
        unfold mn
        split <;> omega
      exact carOf_l3 (a1 := a1) (a2 := a2) ⟨hp, h1, h2, hsw, hl, by omega, hm, rfl, by simp⟩ 9 0 s' [] rfl rfl (fun x hx => by cases hx) (by simp)
  | succ d ih =>
    intro s looks hd hl
    have hlen := hp.len
    obtain ⟨q, s1, hb, hq0, hq1⟩ := below_ok s parts.length (by omega) (by omega)
    obtain ⟨b, s2, ho⟩ := often_ok s1 1 6 (by decide) (by decide)
    have hw : wrap64 (((d + 1 : Nat) : Int) - 1) = (d : Int) := by rw [wrap64_id (by omega) (by omega)]; omega
    refine Res.step (f := fun K => swarfkit_CarOf.l2 K st (d : Int) s2 parts swap (looks ++ [(⟨q, (rdOf false st q) != b⟩ : S61)]) 0) (fun K => ?_) ?_
    · simp only [swarfkit_CarOf.l2]
      rw [if_pos (by omega), hb]
      simp only [Option.bind_some]
      rw [if_pos hq0, if_pos (by omega), ho]
      simp only [Option.bind_some]
      rw [if_pos (by omega), hw]
    · refine ih s2 _ (by simp; omega) (fun l h => ?_)
      rcases List.mem_append.1 h with h | h
      · exact hl l h
      · rw [List.mem_singleton.1 h]
        exact ⟨hq0, hq1⟩
theorem bind_of {α β : Type} {o : Option α} {a : α} {f : α → Option β} {r : Option β} (h : o = some a) (h2 : f a = r) : o.bind f = r := by rw [h]; exact h2
theorem carOf_l1 {a1 a2 : Int} {parts : List S50} {st : List Bool} (hp : PartsOK parts st) (h9 : parts.length < 9) (x10 : Int) (bad : Bool) (tool min : Int) (ht : 1 ≤ tool ∧ tool ≤ 3) (hm : 0 ≤ min ∧ min ≤ 1000)
    (hT : ∀ (p : S50) (b : Bool) (s : Int), PartOK parts.length p → (b = true → ∀ x, x ∈ p.f0 → st.getD x.toNat false = true) → Res (fun K => swarfkit_CarOf.l0 K a2 (st ++ [b]) (wrap64 (x10 - 1)) s (parts ++ [p]) 0 0) (CarGoodT a1 a2)) (d : Nat) :
    ∀ (k : Nat) (s : Int) (may : Bool) (bef : List Int), k + d = parts.length → riseE ((parts.length : Int) - 1) 3 bef = 0 → (∀ x, x ∈ bef → 0 ≤ x ∧ x < k) → bef.length ≤ k → (may = true → ∀ x, x ∈ bef → st.getD x.toNat false = true) →
      Res (fun K => swarfkit_CarOf.l1 K a2 st x10 (parts.length : Int) may (k : Int) s parts 0 0 bef bad tool min) (CarGoodT a1 a2) := by
  induction d with
  | zero =>
    intro k s may bef hk hr hlt hlen hmay
    have hsl := hp.len
    have hP : PartOK parts.length ⟨bef, bad, tool, min⟩ := ⟨hr, fun x hx => by have := hlt x hx; omega, by show bef.length ≤ _; omega, ht, hm⟩
    have hl1 : parts.length < 2932031007402 := by omega
    have hl2 : st.length < 140737488355328 := by omega
    cases may with
    | true =>
      obtain ⟨b, s1, ho⟩ := often_ok s 3 5 (by decide) (by decide)
      refine Res.step (f := fun K => swarfkit_CarOf.l0 K a2 (st ++ [b]) (wrap64 (x10 - 1)) s1 (parts ++ [(⟨bef, bad, tool, min⟩ : S50)]) 0 0) (fun K => ?_) (hT _ b s1 hP (fun _ => hmay rfl))
      simp only [swarfkit_CarOf.l1]
      rw [if_neg (by omega)]
      simp only [hl1, hl2, if_true, Option.bind_some, ho]
    | false =>
      refine Res.step (f := fun K => swarfkit_CarOf.l0 K a2 (st ++ [false]) (wrap64 (x10 - 1)) s (parts ++ [(⟨bef, bad, tool, min⟩ : S50)]) 0 0) (fun K => ?_) (hT _ false s hP (fun h => by cases h))
      simp only [swarfkit_CarOf.l1]
      rw [if_neg (by omega)]
      simp only [hl1, hl2, if_true, Option.bind_some, Bool.false_eq_true, if_false]
  | succ d ih =>
    intro k s may bef hk hr hlt hlen hmay
    have hsl := hp.len
    obtain ⟨b, s1, ho⟩ := often_ok s 1 4 (by decide) (by decide)
    have hw : wrap64 ((k : Int) + 1) = ((k + 1 : Nat) : Int) := by rw [wrap64_id (by omega) (by omega)]; omega
    have hlt2 : (k : Int) < (parts.length : Int) := by omega
    have hlt3 : (k : Int) < (st.length : Int) := by omega
    have hk0 : 0 ≤ (k : Int) := by omega
    have hbl : bef.length < 17592186044416 := by omega
    have hlt4 : ∀ x, x ∈ bef → 0 ≤ x ∧ x < ((k + 1 : Nat) : Int) := fun x hx => by have := hlt x hx; omega
    have hlt5 : ∀ x, x ∈ bef ++ [(k : Int)] → 0 ≤ x ∧ x < ((k + 1 : Nat) : Int) := fun x hx => by
      rcases List.mem_append.1 hx with hx | hx
      · exact hlt4 x hx
      · rw [List.mem_singleton.1 hx]; omega
    have hr5 : riseE ((parts.length : Int) - 1) 3 (bef ++ [(k : Int)]) = 0 := riseE_snoc hr (fun y hy => (hlt y hy).2) hk0 (by omega)
    cases b with
    | false =>
      refine Res.step (f := fun K => swarfkit_CarOf.l1 K a2 st x10 (parts.length : Int) may ((k + 1 : Nat) : Int) s1 parts 0 0 bef bad tool min) (fun K => ?_) (ih (k + 1) s1 may bef (by omega) hr hlt4 (by omega) hmay)
      simp only [swarfkit_CarOf.l1, hlt2, if_true, ho, Option.bind_some, Bool.false_eq_true, if_false, hw]
    | true =>
      cases may with
      | false =>
        refine Res.step (f := fun K => swarfkit_CarOf.l1 K a2 st x10 (parts.length : Int) false ((k + 1 : Nat) : Int) s1 parts 0 0 (bef ++ [(k : Int)]) bad tool min) (fun K => ?_) (ih (k + 1) s1 false _ (by omega) hr5 hlt5 (by simp; omega) (fun h => by cases h))
        simp only [swarfkit_CarOf.l1, hlt2, if_true, ho, Option.bind_some, Bool.false_eq_true, if_false, hw, hbl]
      | true =>
        refine Res.step (f := fun K => swarfkit_CarOf.l1 K a2 st x10 (parts.length : Int) (rdOf false st (k : Int)) ((k + 1 : Nat) : Int) s1 parts 0 0 (bef ++ [(k : Int)]) bad tool min) (fun K => ?_) (ih (k + 1) s1 _ _ (by omega) hr5 hlt5 (by simp; omega) (fun h x hx => ?_))
        · simp only [swarfkit_CarOf.l1, hlt2, hlt3, hk0, if_true, ho, Option.bind_some, hw, hbl]
        · rcases List.mem_append.1 hx with hx | hx
          · exact hmay rfl x hx
          · rw [List.mem_singleton.1 hx]
            exact h
theorem carOf_l0 {a1 a2 : Int} (h9 : a1 ≤ 9) (h12 : a2 ≤ 12) (h0 : 0 ≤ a2) (d : Nat) :
    ∀ (parts : List S50) (st : List Bool) (s : Int), PartsOK parts st → (parts.length : Int) + d ≤ a1 → 1 ≤ parts.length + d → Res (fun K => swarfkit_CarOf.l0 K a2 st (d : Int) s parts 0 0) (CarGoodT a1 a2) := by
  induction d with
  | zero =>
    intro parts st s hp hd h1
    obtain ⟨r1, s1, hb1, hr1, hr1'⟩ := below_ok s 9 (by decide) (by decide)
    obtain ⟨r2, s2, hb2, hr2⟩ := either_ok s1 [0, r1] (by simp) (by simp)
    obtain ⟨r3, s3, hb3, hr3, hr3'⟩ := below_ok s2 (a2 + 1) (by omega) (by omega)
    have hsw : 0 ≤ r2 ∧ r2 ≤ 8 := by simp at hr2; omega
    have hw : wrap64 (a2 + 1) = a2 + 1 := wrap64_id (by omega) (by omega)
    obtain ⟨n, rfl⟩ : ∃ n : Nat, r3 = n := ⟨r3.toNat, by omega⟩
    refine Res.step (f := fun K => swarfkit_CarOf.l2 K st (n : Int) s3 parts r2 ([] : List S61) 0) (fun K => ?_) (carOf_l2 hp (by omega) (by omega) h9 hsw h12 n s3 [] (by simp; omega) (fun l h => by cases h))
    have hgt : ¬ (((0 : Nat) : Int) > 0) := by omega
    rw [swarfkit_CarOf.l0, if_neg hgt]
    refine bind_of hb1 ?_
    refine bind_of hb2 ?_
    refine bind_of (a := (((n : Nat) : Int), s3)) ?_ rfl
    rw [hw]
    exact hb3
  | succ d ih =>
    intro parts st s hp hd h1
    obtain ⟨b, s1, ho⟩ := often_ok s 1 2 (by decide) (by decide)
    obtain ⟨tool, s2, hbt, ht0, ht1⟩ := between_ok s1 1 3 (by decide) (by decide) (by decide)
    obtain ⟨m1, s3, hm1, hm10, hm11⟩ := below_ok s2 30 (by decide) (by decide)
    obtain ⟨m2, s4, hm2, hm20, hm21⟩ := below_ok s3 30 (by decide) (by decide)
    obtain ⟨m, s5, he, hm⟩ := either_ok s4 [0, m1, m2] (by simp) (by simp)
    have hmm : 0 ≤ m ∧ m ≤ 1000 := by simp at hm; omega
    have hw : wrap64 (((d + 1 : Nat) : Int) - 1) = (d : Int) := by rw [wrap64_id (by omega) (by omega)]; omega
    refine Res.step (f := fun K => swarfkit_CarOf.l1 K a2 st ((d + 1 : Nat) : Int) (parts.length : Int) true ((0 : Nat) : Int) s5 parts 0 0 ([] : List Int) b tool m) (fun K => ?_)
      (carOf_l1 hp (by omega) _ b tool m ⟨ht0, ht1⟩ hmm (fun p b s hP hst => ?_) parts.length 0 s5 true [] (by omega) (by simp [riseE, rise]) (fun x h => by cases h) (Nat.le_refl _) (fun _ x h => by cases h))
    · have hz : ((0 : Nat) : Int) = 0 := rfl
      have hgt : ((d + 1 : Nat) : Int) > 0 := by omega
      rw [swarfkit_CarOf.l0, if_pos hgt, hz]
      refine bind_of ho ?_
      refine bind_of hbt ?_
      refine bind_of hm1 ?_
      refine bind_of hm2 ?_
      exact bind_of he rfl
    · rw [hw]
      exact ih _ _ s (hp.snoc hP hst) (by simp; omega) (by rw [List.length_append, List.length_singleton]; omega)
theorem carOf_ev (s a1 a2 : Int) (h1 : 1 ≤ a1) (h9 : a1 ≤ 9) (h0 : 0 ≤ a2) (h12 : a2 ≤ 12) : Res (fun K => swarfkit_CarOf.f K s a1 a2) (CarGoodT a1 a2) := by
  obtain ⟨n, s1, hb, hn0, hn1⟩ := between_ok s 1 a1 h1 (by decide) (by omega)
  obtain ⟨m, rfl⟩ : ∃ m : Nat, n = m := ⟨n.toNat, by omega⟩
  have h := carOf_l0 (a1 := a1) h9 h12 h0 m [] [] s1 ⟨rfl, fun i h => by simp at h, fun i h => by simp at h⟩ (by simp; omega) (by simp; omega)
  obtain ⟨r, h2, h3⟩ := h
  refine ⟨r, ?_, h3⟩
  obtain ⟨K, h2⟩ := h2
  refine ⟨K, fun k hk => ?_⟩
  unfold swarfkit_CarOf.f
  rw [hb]
  exact h2 k hk
end Go.Proofs.Ytkkmfcdikkiodaa.PC4
namespace Go.Proofs.Ytkkmfcdikkiodaa.PC4
set_option linter.unusedVariables false
open Go.RowKit Go.Proofs.YtkkmfcdikkiodaaW.PrintWords Go.Proofs.YtkkmfcdikkiodaaW.PrintLast Go.Proofs.YtkkmfcdikkiodaaW.PrintMore
theorem okGo_iff (s : Nat) (l : List S50) : ∀ i, okGo s i l = true ↔ ∀ k (h : k < l.length), s.testBit (i + k) = true → subM (maskOf (l[k]).f0) s = true := by
  induction l with
  | nil => intro i; simp [okGo]
  | cons p l ih =>
    intro i
    rw [okGo_cons]
    by_cases hc : (s.testBit i && !subM (maskOf p.f0) s) = true
    · rw [if_pos hc]
      rw [Bool.and_eq_true, Bool.not_eq_true'] at hc
      refine ⟨fun h => (by cases h), fun h => ?_⟩
      have := h 0 (by simp) (by simpa using hc.1)
      rw [List.getElem_cons_zero, hc.2] at this
      cases this
    · rw [if_neg hc, ih]
      constructor
      · intro h k hk hb
        cases k with
        | zero =>
          rw [List.getElem_cons_zero]
          cases hs : subM (maskOf p.f0) s with
          | true => rfl
          | false => exact absurd (by rw [hs]; simpa using hb) hc
        | succ k =>
          rw [List.getElem_cons_succ]
          exact h k (by simpa using hk) (by rwa [show i + 1 + k = i + (k + 1) by omega])
      · intro h k hk hb
        have := h (k + 1) (by simpa using hk) (by rwa [show i + (k + 1) = i + 1 + k by omega])
        rwa [List.getElem_cons_succ] at this
theorem okM_iff {parts : List S50} (h : ∀ i, i < parts.length → PartOK i (parts.getD i z50)) (s : Nat) : okM parts s = true ↔ ∀ i, i < parts.length → s.testBit i = true → ∀ x, x ∈ (parts.getD i z50).f0 → s.testBit x.toNat = true := by
  unfold okM
  rw [okGo_iff]
  have hg : ∀ i (hi : i < parts.length), parts.getD i z50 = parts[i] := fun i hi => by rw [List.getD, List.getElem?_eq_getElem hi]; rfl
  constructor
  · intro h1 i hi hb x hx
    have h2 := h1 i hi (by rwa [Nat.zero_add])
    have hp := h i hi
    rw [hg i hi] at hx hp
    refine (subM_iff _ _).1 h2 _ ?_
    exact (maskOf_bit _ (fun y hy => (hp.lt y hy).1) _).2 (by have := (hp.lt x hx).1; rwa [Int.toNat_of_nonneg this])
  · intro h1 i hi hb
    rw [Nat.zero_add] at hb
    have hp := h i hi
    have h2 := h1 i hi hb
    rw [hg i hi] at h2 hp
    refine (subM_iff _ _).2 (fun k hk => ?_)
    have := h2 (k : Int) ((maskOf_bit _ (fun y hy => (hp.lt y hy).1) _).1 hk)
    rwa [Int.toNat_natCast] at this
theorem mem_truths {parts : List S50} {looks : List S61} {wrong : Int} (s : Nat) : s ∈ truthsL parts looks wrong ↔ s < 2 ^ parts.length ∧ okM parts s = true ∧ (wrongM s looks : Int) ≤ wrong := by
  unfold truthsL truthsOf statesL statesTo
  simp only [List.mem_map, List.mem_filter, List.mem_range, decide_eq_true_eq]
  constructor
  · rintro ⟨x, ⟨⟨t, ⟨h1, h2⟩, rfl⟩, h3⟩, rfl⟩
    exact ⟨h1, h2, h3⟩
  · rintro ⟨h1, h2, h3⟩
    exact ⟨(s, wrongM s looks), ⟨⟨s, ⟨h1, h2⟩, rfl⟩, h3⟩, rfl⟩
def stM : List Bool → Nat
  | [] => 0
  | b :: l => (if b then 1 else 0) + 2 * stM l
theorem stM_lt (l : List Bool) : stM l < 2 ^ l.length := by
  induction l with
  | nil => simp [stM]
  | cons b l ih => simp only [stM, List.length_cons, Nat.pow_succ]; split <;> omega
theorem stM_bit (l : List Bool) : ∀ i, (stM l).testBit i = l.getD i false := by
  induction l with
  | nil => intro i; simp [stM]
  | cons b l ih =>
    intro i
    cases i with
    | zero =>
      rw [Nat.testBit_zero]
      cases b <;> simp [stM] <;> omega
    | succ i =>
      rw [Nat.testBit_succ]
      have : stM (b :: l) / 2 = stM l := by simp only [stM]; split <;> omega
      rw [this, ih]
      simp
theorem wrongM_st (st : List Bool) (looks : List S61) : wrongM (stM st) looks = wrongB st looks := by
  induction looks with
  | nil => rfl
  | cons l t ih => simp only [wrongM, wrongB, stM_bit, ih]
theorem CarGood.truth {a1 a2 : Int} {parts : List S50} {swap : Int} {looks : List S61} {wrong : Int} {needs : List Int} {st : List Bool} (h : CarGood a1 a2 parts swap looks wrong needs st) : stM st ∈ truthsL parts looks wrong := by
  refine (mem_truths _).2 ⟨?_, (okM_iff h.p.ok _).2 (fun i hi hb x hx => ?_), by rw [wrongM_st]; exact h.wr.2.2⟩
  · rw [← h.p.len]; exact stM_lt st
  · rw [stM_bit] at hb ⊢
    exact h.p.st i hi hb x hx
theorem partsE_of (l : List S50) : ∀ i : Int, (∀ k (h : k < l.length), riseE (i + k - 1) 3 (l[k]).f0 = 0 ∧ inB (l[k]).f2 1 4 = true ∧ inB (l[k]).f3 0 1000 = true) → partsE i l = 0 := by
  induction l with
  | nil => intro i _; rfl
  | cons p l ih =>
    intro i h
    obtain ⟨h1, h2, h3⟩ := h 0 (by simp)
    rw [List.getElem_cons_zero] at h1 h2 h3
    rw [partsE_cons, if_pos (by simpa using h1), if_pos (by rw [h2, h3]; rfl)]
    refine ih (i + 1) (fun k hk => ?_)
    have := h (k + 1) (by simpa using hk)
    rw [List.getElem_cons_succ] at this
    rw [show i + 1 + (k : Int) - 1 = i + ((k + 1 : Nat) : Int) - 1 by omega]
    exact this
theorem CarGood.check {a1 a2 : Int} {parts : List S50} {swap : Int} {looks : List S61} {wrong : Int} {needs : List Int} {st : List Bool} (h : CarGood a1 a2 parts swap looks wrong needs st) (h9 : a1 ≤ 9) (h12 : a2 ≤ 12) : checkE parts swap looks wrong needs = 0 := by
  have hp := h.one
  have hf := h.few
  have hl := h.ll
  unfold checkE
  rw [if_neg (by omega), if_neg (by omega), if_pos ?_]
  · unfold checkT
    rw [if_pos (inB_of (by have := h.sw; omega)), if_neg (by omega), if_neg ?_, if_pos (inB_of ⟨h.wr.1, h.wr.2.1⟩), if_neg (by have := h.nl; omega), h.nd]
    intro e
    obtain ⟨l, hl, hb⟩ := List.any_eq_true.1 e
    have := h.lk l hl
    unfold lookBad at hb
    simp only [Bool.not_eq_true', Bool.and_eq_false_iff, decide_eq_false_iff_not] at hb
    omega
  · refine partsE_of _ _ (fun k hk => ?_)
    have hk2 := h.p.ok k hk
    have hg : parts.getD k z50 = parts[k] := by rw [List.getD, List.getElem?_eq_getElem hk]; rfl
    rw [hg] at hk2
    exact ⟨by rw [Int.zero_add]; exact hk2.ris, inB_of (by have := hk2.tool; omega), inB_of hk2.min⟩
theorem CarGood.fits {a1 a2 : Int} {parts : List S50} {swap : Int} {looks : List S61} {wrong : Int} {needs : List Int} {st : List Bool} (h : CarGood a1 a2 parts swap looks wrong needs st) (h9 : a1 ≤ 9) (h12 : a2 ≤ 12) : carFits parts looks needs := by
  have hf := h.few
  have hl := h.ll
  have hn := h.nl
  refine ⟨by omega, by omega, by omega, fun p hp => ?_⟩
  obtain ⟨i, hi, rfl⟩ := List.getElem_of_mem hp
  have hk2 := h.p.ok i hi
  rw [List.getD, List.getElem?_eq_getElem hi] at hk2
  have : (parts[i]).f0.length ≤ i := hk2.len
  omega
end Go.Proofs.Ytkkmfcdikkiodaa.PC4
namespace Go.Proofs.Ytkkmfcdikkiodaa.PC4
set_option linter.unusedVariables false
open Go.RowKit Go.Proofs.YtkkmfcdikkiodaaW.PrintWords Go.Proofs.YtkkmfcdikkiodaaW.PrintLast Go.Proofs.YtkkmfcdikkiodaaW.PrintMore
def carP : List S50 := [⟨[], true, 1, 10⟩, ⟨[0], true, 2, 20⟩, ⟨[1], true, 1, 15⟩, ⟨[], false, 3, 30⟩, ⟨[0, 3], true, 3, 5⟩]
def carL : List S61 := [⟨0, true⟩, ⟨1, true⟩, ⟨2, false⟩, ⟨4, false⟩]
set_option maxRecDepth 100000 in
theorem car_fits : carFits carP carL [2, 5] := by decide
theorem car_out : outE carP 2 carL 1 [2, 5] = ([1, 3, 3, 3, 3], 0) := by decide +kernel
theorem car_clean : cleanE carP 2 carL 1 [2, 5] = (2, 0) := by decide +kernel
theorem car_work : workE carP 2 carL 1 [2, 5] = ([1, 2, 3, 4], 74, 0) := by decide +kernel
theorem awake_eq (k : Nat) : swarflaw04_awake.f k = ((swarfkit_EqualInts.f k [1, 3, 3, 3, 3] [1, 3, 3, 3, 3]).bind fun t189 => (if t189 = true then ((swarfkit_EqualInts.f k [1, 2, 3, 4] [1, 2, 3, 4]).bind fun t193 => (some t193)) else (some false))) := by
  have hcar : swarflaw04_car.f = some (carP, 2, carL, 1, [2, 5]) := rfl
  have h1 : strip_Out.f carP 2 carL 1 [2, 5] = some ([1, 3, 3, 3, 3], 0) := by unfold strip_Out.f; rw [if_pos car_fits, car_out]
  have h2 : strip_Clean.f carP 2 carL 1 [2, 5] = some (2, 0) := by unfold strip_Clean.f; rw [if_pos car_fits, car_clean]
  have h3 : strip_Work.f carP 2 carL 1 [2, 5] = some ([1, 2, 3, 4], 74, 0) := by unfold strip_Work.f; rw [if_pos car_fits, car_work]
  unfold swarflaw04_awake.f
  refine bind_of hcar ?_
  refine bind_of h1 ?_
  refine bind_of hcar ?_
  refine bind_of h2 ?_
  refine bind_of hcar ?_
  exact bind_of h3 rfl
theorem equal_l0 (a b : List Int) (hl : a.length = b.length) (hs : a.length ≤ 1000000000) (d : Nat) : ∀ i : Nat, i + d = a.length → Ev (fun K => swarfkit_EqualInts.l0 K a b true (i : Int)) (decide (a.drop i = b.drop i)) := by
  induction d with
  | zero =>
    intro i hi
    have hc : ¬ (i : Int) < (a.length : Int) := by omega
    refine Ev.step (f := fun _ => some true) (fun K => ?_) ?_
    · simp only [swarfkit_EqualInts.l0, hc, if_true, if_false]
    · rw [List.drop_of_length_le (by omega), List.drop_of_length_le (by omega)]
      exact Ev.now _
  | succ d ih =>
    intro i hi
    have hc : (i : Int) < (a.length : Int) := by omega
    have hc2 : (i : Int) < (b.length : Int) := by omega
    have hc0 : 0 ≤ (i : Int) := by omega
    have hw : wrap64 ((i : Int) + 1) = ((i + 1 : Nat) : Int) := by rw [wrap64_id (by omega) (by omega)]; omega
    refine Ev.step (f := fun K => swarfkit_EqualInts.l0 K a b (a.getD i 0 == b.getD i 0) ((i + 1 : Nat) : Int)) (fun K => ?_) ?_
    · simp only [swarfkit_EqualInts.l0, hc, hc2, hc0, if_true, hw, rd_getD]
    · rw [drop_cons_rd a i (by omega) 0, drop_cons_rd b i (by omega) 0]
      by_cases he : a.getD i 0 = b.getD i 0
      · rw [he, beq_self_eq_true]
        have := ih (i + 1) (by omega)
        simpa using this
      · rw [beq_eq_false_iff_ne.2 he]
        refine Ev.step (f := fun _ => some false) (fun K => ?_) ?_
        · simp only [swarfkit_EqualInts.l0, Bool.false_eq_true, if_false]
        · have : decide (a.getD i 0 :: a.drop (i + 1) = b.getD i 0 :: b.drop (i + 1)) = false := decide_eq_false (fun e => he (by injection e))
          rw [this]
          exact Ev.now _
theorem equal_ev (a b : List Int) (hs : a.length ≤ 1000000000) (hs2 : b.length ≤ 1000000000) : Ev (fun K => swarfkit_EqualInts.f K a b) (decide (a = b)) := by
  unfold swarfkit_EqualInts.f
  by_cases hl : a.length = b.length
  · have : ((a.length : Int) == (b.length : Int)) = true := beq_iff_eq.2 (by omega)
    rw [this]
    have := equal_l0 a b hl hs a.length 0 (by omega)
    simpa using this
  · have h1 : ((a.length : Int) == (b.length : Int)) = false := beq_eq_false_iff_ne.2 (by omega)
    rw [h1, decide_eq_false (fun e => hl (by rw [e]))]
    refine Ev.step (f := fun _ => some false) (fun K => ?_) (Ev.now _)
    simp only [swarfkit_EqualInts.l0, Bool.false_eq_true, if_false]
theorem awake_ev : Ev (fun K => swarflaw04_awake.f K) true := by
  refine Ev.congr awake_eq ?_
  refine Ev.bind (equal_ev _ _ (by decide) (by decide)) ?_
  simp only [decide_true, if_true]
  refine Ev.bind (equal_ev _ _ (by decide) (by decide)) ?_
  simp only [decide_true]
  exact Ev.now _
theorem awake_true {k : Nat} {r : Bool} (h : swarflaw04_awake.f k = some r) : r = true := by
  obtain ⟨K, hK⟩ := awake_ev
  have h1 := at_rounds (g := fun k => swarflaw04_awake.f k) swarflaw04_awake.mono (Nat.le_max_left k K) h
  have h2 := hK (max k K) (Nat.le_max_right k K)
  exact Option.some.inj (h1.symm.trans h2)
end Go.Proofs.Ytkkmfcdikkiodaa.PC4
namespace Go.Proofs.Ytkkmfcdikkiodaa.PC4
open Go.RowKit Go.Proofs.YtkkmfcdikkiodaaW.PrintWords Go.Proofs.YtkkmfcdikkiodaaW.PrintLast Go.Proofs.YtkkmfcdikkiodaaW.PrintMore
attribute [local go_sem] max2_int min2_int max_two min_two max_three min_three max_four min_four
set_option linter.unusedVariables false
set_option linter.unusedSimpArgs false
set_option maxHeartbeats 8000000 in
set_option maxRecDepth 100000 in
theorem swarflaw04_awake.calls (k : Nat)  (r : Bool) (w : World) (h : swarflaw04_awake.f k  = some r) :
  Calls Try.prog 16 #[] w fun e w' => e = .returned (.bool r) ∧ Below w.heap.size w w' := by
 have hrt := Aside0.mk (awake_true h)
 have HB := Aside0.mk (Below.refl w.heap.size w)
 have H : ((swarflaw04_car.f).bind fun bt142 => ((strip_Out.f bt142.1 bt142.2.1 bt142.2.2.1 bt142.2.2.2.1 bt142.2.2.2.2).bind fun bt153 => ((swarflaw04_car.f).bind fun bt157 => ((strip_Clean.f bt157.1 bt157.2.1 bt157.2.2.1 bt157.2.2.2.1 bt157.2.2.2.2).bind fun bt168 => ((swarflaw04_car.f).bind fun bt170 => ((strip_Work.f bt170.1 bt170.2.1 bt170.2.2.1 bt170.2.2.2.1 bt170.2.2.2.2).bind fun bt181 => (if bt153.2 = 0 then (if bt168.2 = 0 then (if bt181.2.2 = 0 then (if bt168.1 = 2 then (if bt181.2.1 = 74 then ((swarfkit_EqualInts.f k bt153.1 (([1, 3, 3, 3, 3] : List Int))).bind fun t189 => (if t189 = true then ((swarfkit_EqualInts.f k bt181.1 (([1, 2, 3, 4] : List Int))).bind fun t193 => (some t193)) else (some false))) else (some false)) else (some false)) else (some false)) else (some false)) else (some false)))))))) = some r := h
 clear h
 replace H := Option.bind_eq_some_iff.mp H
 obtain ⟨⟨t142, t145, t146, t149, t150⟩, A10, H⟩ := H
 replace H : ((strip_Out.f t142 t145 t146 t149 t150).bind fun bt153 => ((swarflaw04_car.f).bind fun bt157 => ((strip_Clean.f bt157.1 bt157.2.1 bt157.2.2.1 bt157.2.2.2.1 bt157.2.2.2.2).bind fun bt168 => ((swarflaw04_car.f).bind fun bt170 => ((strip_Work.f bt170.1 bt170.2.1 bt170.2.2.1 bt170.2.2.2.1 bt170.2.2.2.2).bind fun bt181 => (if bt153.2 = 0 then (if bt168.2 = 0 then (if bt181.2.2 = 0 then (if bt168.1 = 2 then (if bt181.2.1 = 74 then ((swarfkit_EqualInts.f k bt153.1 (([1, 3, 3, 3, 3] : List Int))).bind fun t189 => (if t189 = true then ((swarfkit_EqualInts.f k bt181.1 (([1, 2, 3, 4] : List Int))).bind fun t193 => (some t193)) else (some false))) else (some false)) else (some false)) else (some false)) else (some false)) else (some false))))))) = some r := H
 have A1 := Aside0.mk A10
 clear A10
 replace H := Option.bind_eq_some_iff.mp H
 obtain ⟨⟨t153, t156⟩, A20, H⟩ := H
 replace H : ((swarflaw04_car.f).bind fun bt157 => ((strip_Clean.f bt157.1 bt157.2.1 bt157.2.2.1 bt157.2.2.2.1 bt157.2.2.2.2).bind fun bt168 => ((swarflaw04_car.f).bind fun bt170 => ((strip_Work.f bt170.1 bt170.2.1 bt170.2.2.1 bt170.2.2.2.1 bt170.2.2.2.2).bind fun bt181 => (if t156 = 0 then (if bt168.2 = 0 then (if bt181.2.2 = 0 then (if bt168.1 = 2 then (if bt181.2.1 = 74 then ((swarfkit_EqualInts.f k t153 (([1, 3, 3, 3, 3] : List Int))).bind fun t189 => (if t189 = true then ((swarfkit_EqualInts.f k bt181.1 (([1, 2, 3, 4] : List Int))).bind fun t193 => (some t193)) else (some false))) else (some false)) else (some false)) else (some false)) else (some false)) else (some false)))))) = some r := H
 have A2 := Aside0.mk A20
 clear A20
 replace H := Option.bind_eq_some_iff.mp H
 obtain ⟨⟨t157, t160, t161, t164, t165⟩, A30, H⟩ := H
 replace H : ((strip_Clean.f t157 t160 t161 t164 t165).bind fun bt168 => ((swarflaw04_car.f).bind fun bt170 => ((strip_Work.f bt170.1 bt170.2.1 bt170.2.2.1 bt170.2.2.2.1 bt170.2.2.2.2).bind fun bt181 => (if t156 = 0 then (if bt168.2 = 0 then (if bt181.2.2 = 0 then (if bt168.1 = 2 then (if bt181.2.1 = 74 then ((swarfkit_EqualInts.f k t153 (([1, 3, 3, 3, 3] : List Int))).bind fun t189 => (if t189 = true then ((swarfkit_EqualInts.f k bt181.1 (([1, 2, 3, 4] : List Int))).bind fun t193 => (some t193)) else (some false))) else (some false)) else (some false)) else (some false)) else (some false)) else (some false))))) = some r := H
 have A3 := Aside0.mk A30
 clear A30
 replace H := Option.bind_eq_some_iff.mp H
 obtain ⟨⟨t168, t169⟩, A40, H⟩ := H
 replace H : ((swarflaw04_car.f).bind fun bt170 => ((strip_Work.f bt170.1 bt170.2.1 bt170.2.2.1 bt170.2.2.2.1 bt170.2.2.2.2).bind fun bt181 => (if t156 = 0 then (if t169 = 0 then (if bt181.2.2 = 0 then (if t168 = 2 then (if bt181.2.1 = 74 then ((swarfkit_EqualInts.f k t153 (([1, 3, 3, 3, 3] : List Int))).bind fun t189 => (if t189 = true then ((swarfkit_EqualInts.f k bt181.1 (([1, 2, 3, 4] : List Int))).bind fun t193 => (some t193)) else (some false))) else (some false)) else (some false)) else (some false)) else (some false)) else (some false)))) = some r := H
 have A4 := Aside0.mk A40
 clear A40
 replace H := Option.bind_eq_some_iff.mp H
 obtain ⟨⟨t170, t173, t174, t177, t178⟩, A50, H⟩ := H
 replace H : ((strip_Work.f t170 t173 t174 t177 t178).bind fun bt181 => (if t156 = 0 then (if t169 = 0 then (if bt181.2.2 = 0 then (if t168 = 2 then (if bt181.2.1 = 74 then ((swarfkit_EqualInts.f k t153 (([1, 3, 3, 3, 3] : List Int))).bind fun t189 => (if t189 = true then ((swarfkit_EqualInts.f k bt181.1 (([1, 2, 3, 4] : List Int))).bind fun t193 => (some t193)) else (some false))) else (some false)) else (some false)) else (some false)) else (some false)) else (some false))) = some r := H
 have A5 := Aside0.mk A50
 clear A50
 replace H := Option.bind_eq_some_iff.mp H
 obtain ⟨⟨t181, t184, t185⟩, A60, H⟩ := H
 replace H : (if t156 = 0 then (if t169 = 0 then (if t185 = 0 then (if t168 = 2 then (if t184 = 74 then ((swarfkit_EqualInts.f k t153 (([1, 3, 3, 3, 3] : List Int))).bind fun t189 => (if t189 = true then ((swarfkit_EqualInts.f k t181 (([1, 2, 3, 4] : List Int))).bind fun t193 => (some t193)) else (some false))) else (some false)) else (some false)) else (some false)) else (some false)) else (some false)) = some r := H
 have A6 := Aside0.mk A60
 clear A60
 by_cases c7 : t156 = 0
 ·
  rw [if_pos c7] at H
  have c7b0 : (t156 == 0) = true := beq_iff_eq.mpr c7
  have c7b1 : (t156 != 0) = false := bne_eq_false_iff_eq.mpr c7
  clear c7
  by_cases c8 : t169 = 0
  ·
   rw [if_pos c8] at H
   have c8b0 : (t169 == 0) = true := beq_iff_eq.mpr c8
   have c8b1 : (t169 != 0) = false := bne_eq_false_iff_eq.mpr c8
   clear c8
   by_cases c9 : t185 = 0
   ·
    rw [if_pos c9] at H
    have c9b0 : (t185 == 0) = true := beq_iff_eq.mpr c9
    have c9b1 : (t185 != 0) = false := bne_eq_false_iff_eq.mpr c9
    clear c9
    by_cases c10 : t168 = 2
    ·
     rw [if_pos c10] at H
     have c10b0 : (t168 == 2) = true := beq_iff_eq.mpr c10
     have c10b1 : (t168 != 2) = false := bne_eq_false_iff_eq.mpr c10
     clear c10
     by_cases c11 : t184 = 74
     ·
      rw [if_pos c11] at H
      have c11b0 : (t184 == 74) = true := beq_iff_eq.mpr c11
      have c11b1 : (t184 != 74) = false := bne_eq_false_iff_eq.mpr c11
      clear c11
      obtain ⟨y186, hy186⟩ : ∃ y_ : List Int, y_ = (([1, 3, 3, 3, 3] : List Int)) := ⟨_, rfl⟩
      replace H : ((swarfkit_EqualInts.f k t153 y186).bind fun t189 => (if t189 = true then ((swarfkit_EqualInts.f k t181 (([1, 2, 3, 4] : List Int))).bind fun t193 => (some t193)) else (some false))) = some r := by first | (rw [hy186]; with_reducible exact H) | (have H2_ := (Option.bind_some _ _).symm.trans H; rw [hy186]; with_reducible exact H2_) | (have H2_ := (Option.bind_some _ _).symm.trans H; with_reducible exact H2_) | with_reducible exact H | (rw [hy186]; exact H) | exact H
      have Ny186 := Aside0.mk hy186
      clear hy186
      replace H := Option.bind_eq_some_iff.mp H
      obtain ⟨t189, A120, H⟩ := H
      replace H : (if t189 = true then ((swarfkit_EqualInts.f k t181 (([1, 2, 3, 4] : List Int))).bind fun t193 => (some t193)) else (some false)) = some r := H
      have A12 := Aside0.mk A120
      clear A120
      by_cases c13 : t189 = true
      ·
       subst c13
       have H1 : ((swarfkit_EqualInts.f k t181 (([1, 2, 3, 4] : List Int))).bind fun t193 => (some t193)) = some r := by rw [if_pos rfl] at H; exact H
       clear H
       have H := H1
       clear H1
       obtain ⟨y190, hy190⟩ : ∃ y_ : List Int, y_ = (([1, 2, 3, 4] : List Int)) := ⟨_, rfl⟩
       replace H : ((swarfkit_EqualInts.f k t181 y190).bind fun t193 => (some t193)) = some r := by first | (rw [hy190]; with_reducible exact H) | (have H2_ := (Option.bind_some _ _).symm.trans H; rw [hy190]; with_reducible exact H2_) | (have H2_ := (Option.bind_some _ _).symm.trans H; with_reducible exact H2_) | with_reducible exact H | (rw [hy190]; exact H) | exact H
       have Ny190 := Aside0.mk hy190
       clear hy190
       replace H := Option.bind_eq_some_iff.mp H
       obtain ⟨t193, A140, H⟩ := H
       replace H : (some t193) = some r := H
       have A14 := Aside0.mk A140
       clear A140
       obtain rfl := Option.some.inj H
       go_enter Try.func16, Try.ntmps16
       go_wp2_with (first | ((with_reducible refine gate_callee (f := 55) rfl ?_); refine goesL_ (some 10) rfl rfl Try.func55 (by kernel_rfl) rfl #[] rfl (by (try simp only [List.map_toArray, List.map_cons, List.map_nil]); first | done | rfl | (simp only [List.length_drop, List.length_take]; rfl)) ?_; (with_reducible refine (swarflaw04_car.calls  t142 t145 t146 t149 t150 _ A1.out).mono ?_); rintro e w15 ⟨v143, v147, v151, rfl, ho0, ho1, ho2, hb⟩; refine ⟨_, rfl, ?_⟩; have n0_ := Aside0.mk (Kd.N_lower (Kd.N_mono (ok' := fun k_ => some k_ ≠ (v147 : Value).ownBlock ∧ some k_ ≠ (v151 : Value).ownBlock) ho0 (fun k_ hk_ => ⟨hk_.2.1, hk_.2.2⟩)) (below_size (below_x HB.out))); have n1_ := Aside0.mk (Kd.R_lower (Kd.R_mono (ok' := fun k_ => True) ho1 (fun _ hk_ => trivial)) (below_size (below_x HB.out))); have n2_ := Aside0.mk (Kd.R_lower (Kd.R_mono (ok' := fun k_ => True) ho2 (fun _ hk_ => trivial)) (below_size (below_x HB.out))); have n3_ := Aside0.mk (below_step (below_x HB.out) hb); clear HB; have HO144 := n0_; have HO148 := n1_; have HO152 := n2_; have HB := n3_; clear n0_ n1_ n2_ n3_; (try clear hb); (try clear hb2); (try clear hk); (try clear hi); (try clear ho0); (try clear ho1); (try clear ho2); obtain ⟨Ao16, co16, eo16⟩ := Kd.N_slice HO144.out; subst eo16; obtain ⟨Ao17, co17, eo17⟩ := Kd.R_slice HO148.out; subst eo17; obtain ⟨Ao18, co18, eo18⟩ := Kd.R_slice HO152.out; subst eo18) | ((with_reducible refine gate_callee (f := 26) rfl ?_); refine goesL_ (some 11) rfl rfl Try.func26 (by kernel_rfl) rfl #[.agg #[.slice Ao16 t142.length co16, .int .i64 t145, .slice Ao17 t146.length co17, .int .i64 t149, .slice Ao18 t150.length co18]] rfl (by (try simp only [List.map_toArray, List.map_cons, List.map_nil]); first | done | rfl | (simp only [List.length_drop, List.length_take]; rfl)) ?_; (with_reducible refine (strip_Out.calls _ _ t142 t145 _ _ t146 t149 _ _ t150 t153 t156 _ ?side1 ?side2 ?side3 ?side4 ?side5 ?side6 A2.out).mono ?_); (case side1 => repeat (first | exact (Kd.N_reads' HO144.out).2.2 | (with_reducible refine Kd.C_alloc ?_ _) | (with_reducible refine Kd.C_drewN ?_ _) | (with_reducible refine Kd.C_drew ?_))); (case side2 => exact (Kd.N_reads' HO144.out).2.1); (case side3 => repeat (first | exact (Kd.R_reads' HO148.out).2.2 | (with_reducible refine Kd.C_alloc ?_ _) | (with_reducible refine Kd.C_drewN ?_ _) | (with_reducible refine Kd.C_drew ?_))); (case side4 => exact (Kd.R_reads' HO148.out).2.1); (case side5 => repeat (first | exact (Kd.R_reads' HO152.out).2.2 | (with_reducible refine Kd.C_alloc ?_ _) | (with_reducible refine Kd.C_drewN ?_ _) | (with_reducible refine Kd.C_drew ?_))); (case side6 => exact (Kd.R_reads' HO152.out).2.1); rintro e w19 ⟨v154, rfl, ho0, hb⟩; refine ⟨_, rfl, ?_⟩; have n0_ := Aside0.mk (Kd.N_elder' (Kd.N_x HO144.out) (Kd.R_base ho0) hb); have n1_ := Aside0.mk (Kd.R_below (Kd.R_x HO148.out) hb); have n2_ := Aside0.mk (Kd.R_elder' (Kd.R_x HO152.out) (Kd.R_base ho0) hb); have n3_ := Aside0.mk (Kd.R_lower (Kd.R_new' ho0 (Kd.R_lt (Kd.R_x HO152.out))) (below_size (below_x HB.out))); have n4_ := Aside0.mk (below_step (below_x HB.out) hb); clear HO144; clear HO148; clear HO152; clear HB; have HO144 := n0_; have HO148 := n1_; have HO152 := n2_; have HO155 := n3_; have HB := n4_; clear n0_ n1_ n2_ n3_ n4_; (try clear hb); (try clear hb2); (try clear hk); (try clear hi); (try clear ho0)) | ((with_reducible refine gate_callee (f := 55) rfl ?_); refine goesL_ (some 15) rfl rfl Try.func55 (by kernel_rfl) rfl #[] rfl (by (try simp only [List.map_toArray, List.map_cons, List.map_nil]); first | done | rfl | (simp only [List.length_drop, List.length_take]; rfl)) ?_; (with_reducible refine (swarflaw04_car.calls  t157 t160 t161 t164 t165 _ A3.out).mono ?_); rintro e w20 ⟨v158, v162, v166, rfl, ho0, ho1, ho2, hb⟩; refine ⟨_, rfl, ?_⟩; have n0_ := Aside0.mk (Kd.N_mono (Kd.N_told (Kd.N_told (Kd.N_told (Kd.N_old (Kd.N_x HO144.out) hb) (Kd.N_base ho0)) (Kd.R_base ho1)) (Kd.R_base ho2)) (fun _ h_ => h_.1)); have n1_ := Aside0.mk (Kd.R_elder' (Kd.R_x HO148.out) (Kd.R_base ho1) hb); have n2_ := Aside0.mk (Kd.R_elder' (Kd.R_x HO152.out) (Kd.R_base ho2) hb); have n3_ := Aside0.mk (Kd.R_elder' (Kd.R_x HO155.out) (Kd.R_base ho2) hb); have n4_ := Aside0.mk (Kd.N_lower (Kd.N_mono (ok' := fun k_ => some k_ ≠ (v162 : Value).ownBlock ∧ some k_ ≠ (v166 : Value).ownBlock ∧ some k_ ≠ (.slice Ao16 t142.length co16 : Value).ownBlock ∧ some k_ ≠ (.slice Ao17 t146.length co17 : Value).ownBlock ∧ some k_ ≠ (.slice Ao18 t150.length co18 : Value).ownBlock ∧ some k_ ≠ (v154 : Value).ownBlock) ho0 (fun k_ hk_ => ⟨hk_.2.1, hk_.2.2, (Kd.fresh' (Kd.N_lt (Kd.N_x HO144.out)) k_ hk_.1), (Kd.fresh' (Kd.R_lt (Kd.R_x HO148.out)) k_ hk_.1), (Kd.fresh' (Kd.R_lt (Kd.R_x HO152.out)) k_ hk_.1), (Kd.fresh' (Kd.R_lt (Kd.R_x HO155.out)) k_ hk_.1)⟩)) (below_size (below_x HB.out))); have n5_ := Aside0.mk (Kd.R_lower (Kd.R_new' (Kd.R_mono (ok' := fun k_ => True) ho1 (fun _ hk_ => trivial)) (Kd.R_lt (Kd.R_x HO148.out))) (below_size (below_x HB.out))); have n6_ := Aside0.mk (Kd.R_lower (Kd.R_new' (Kd.R_new' (Kd.R_mono (ok' := fun k_ => True) ho2 (fun _ hk_ => trivial)) (Kd.R_lt (Kd.R_x HO152.out))) (Kd.R_lt (Kd.R_x HO155.out))) (below_size (below_x HB.out))); have n7_ := Aside0.mk (below_step (below_x HB.out) hb); clear HO144; clear HO148; clear HO152; clear HO155; clear HB; have HO144 := n0_; have HO148 := n1_; have HO152 := n2_; have HO155 := n3_; have HO159 := n4_; have HO163 := n5_; have HO167 := n6_; have HB := n7_; clear n0_ n1_ n2_ n3_ n4_ n5_ n6_ n7_; (try clear hb); (try clear hb2); (try clear hk); (try clear hi); (try clear ho0); (try clear ho1); (try clear ho2); obtain ⟨Ao21, co21, eo21⟩ := Kd.N_slice HO159.out; subst eo21; obtain ⟨Ao22, co22, eo22⟩ := Kd.R_slice HO163.out; subst eo22; obtain ⟨Ao23, co23, eo23⟩ := Kd.R_slice HO167.out; subst eo23) | ((with_reducible refine gate_callee (f := 27) rfl ?_); refine goesL_ (some 16) rfl rfl Try.func27 (by kernel_rfl) rfl #[.agg #[.slice Ao21 t157.length co21, .int .i64 t160, .slice Ao22 t161.length co22, .int .i64 t164, .slice Ao23 t165.length co23]] rfl (by (try simp only [List.map_toArray, List.map_cons, List.map_nil]); first | done | rfl | (simp only [List.length_drop, List.length_take]; rfl)) ?_; (with_reducible refine (strip_Clean.calls _ _ t157 t160 _ _ t161 t164 _ _ t165 t168 t169 _ ?side1 ?side2 ?side3 ?side4 ?side5 ?side6 A4.out).mono ?_); (case side1 => repeat (first | exact (Kd.N_reads' HO159.out).2.2 | (with_reducible refine Kd.C_alloc ?_ _) | (with_reducible refine Kd.C_drewN ?_ _) | (with_reducible refine Kd.C_drew ?_))); (case side2 => exact (Kd.N_reads' HO159.out).2.1); (case side3 => repeat (first | exact (Kd.R_reads' HO163.out).2.2 | (with_reducible refine Kd.C_alloc ?_ _) | (with_reducible refine Kd.C_drewN ?_ _) | (with_reducible refine Kd.C_drew ?_))); (case side4 => exact (Kd.R_reads' HO163.out).2.1); (case side5 => repeat (first | exact (Kd.R_reads' HO167.out).2.2 | (with_reducible refine Kd.C_alloc ?_ _) | (with_reducible refine Kd.C_drewN ?_ _) | (with_reducible refine Kd.C_drew ?_))); (case side6 => exact (Kd.R_reads' HO167.out).2.1); rintro e w24 ⟨rfl, hb⟩; refine ⟨_, rfl, ?_⟩; have n0_ := Aside0.mk (Kd.N_below (Kd.N_x HO144.out) hb); have n1_ := Aside0.mk (Kd.R_below (Kd.R_x HO148.out) hb); have n2_ := Aside0.mk (Kd.R_below (Kd.R_x HO152.out) hb); have n3_ := Aside0.mk (Kd.R_below (Kd.R_x HO155.out) hb); have n4_ := Aside0.mk (Kd.N_below (Kd.N_x HO159.out) hb); have n5_ := Aside0.mk (Kd.R_below (Kd.R_x HO163.out) hb); have n6_ := Aside0.mk (Kd.R_below (Kd.R_x HO167.out) hb); have n7_ := Aside0.mk (below_step (below_x HB.out) hb); clear HO144; clear HO148; clear HO152; clear HO155; clear HO159; clear HO163; clear HO167; clear HB; have HO144 := n0_; have HO148 := n1_; have HO152 := n2_; have HO155 := n3_; have HO159 := n4_; have HO163 := n5_; have HO167 := n6_; have HB := n7_; clear n0_ n1_ n2_ n3_ n4_ n5_ n6_ n7_; (try clear hb); (try clear hb2); (try clear hk); (try clear hi)) | ((with_reducible refine gate_callee (f := 55) rfl ?_); refine goesL_ (some 20) rfl rfl Try.func55 (by kernel_rfl) rfl #[] rfl (by (try simp only [List.map_toArray, List.map_cons, List.map_nil]); first | done | rfl | (simp only [List.length_drop, List.length_take]; rfl)) ?_; (with_reducible refine (swarflaw04_car.calls  t170 t173 t174 t177 t178 _ A5.out).mono ?_); rintro e w25 ⟨v171, v175, v179, rfl, ho0, ho1, ho2, hb⟩; refine ⟨_, rfl, ?_⟩; have n0_ := Aside0.mk (Kd.N_mono (Kd.N_told (Kd.N_told (Kd.N_told (Kd.N_old (Kd.N_x HO144.out) hb) (Kd.N_base ho0)) (Kd.R_base ho1)) (Kd.R_base ho2)) (fun _ h_ => h_.1)); have n1_ := Aside0.mk (Kd.R_elder' (Kd.R_x HO148.out) (Kd.R_base ho1) hb); have n2_ := Aside0.mk (Kd.R_elder' (Kd.R_x HO152.out) (Kd.R_base ho2) hb); have n3_ := Aside0.mk (Kd.R_elder' (Kd.R_x HO155.out) (Kd.R_base ho2) hb); have n4_ := Aside0.mk (Kd.N_mono (Kd.N_told (Kd.N_told (Kd.N_told (Kd.N_old (Kd.N_x HO159.out) hb) (Kd.N_base ho0)) (Kd.R_base ho1)) (Kd.R_base ho2)) (fun _ h_ => h_.1)); have n5_ := Aside0.mk (Kd.R_elder' (Kd.R_x HO163.out) (Kd.R_base ho1) hb); have n6_ := Aside0.mk (Kd.R_elder' (Kd.R_x HO167.out) (Kd.R_base ho2) hb); have n7_ := Aside0.mk (Kd.N_lower (Kd.N_mono (ok' := fun k_ => some k_ ≠ (v175 : Value).ownBlock ∧ some k_ ≠ (v179 : Value).ownBlock ∧ some k_ ≠ (.slice Ao16 t142.length co16 : Value).ownBlock ∧ some k_ ≠ (.slice Ao17 t146.length co17 : Value).ownBlock ∧ some k_ ≠ (.slice Ao18 t150.length co18 : Value).ownBlock ∧ some k_ ≠ (v154 : Value).ownBlock ∧ some k_ ≠ (.slice Ao21 t157.length co21 : Value).ownBlock ∧ some k_ ≠ (.slice Ao22 t161.length co22 : Value).ownBlock ∧ some k_ ≠ (.slice Ao23 t165.length co23 : Value).ownBlock) ho0 (fun k_ hk_ => ⟨hk_.2.1, hk_.2.2, (Kd.fresh' (Kd.N_lt (Kd.N_x HO144.out)) k_ hk_.1), (Kd.fresh' (Kd.R_lt (Kd.R_x HO148.out)) k_ hk_.1), (Kd.fresh' (Kd.R_lt (Kd.R_x HO152.out)) k_ hk_.1), (Kd.fresh' (Kd.R_lt (Kd.R_x HO155.out)) k_ hk_.1), (Kd.fresh' (Kd.N_lt (Kd.N_x HO159.out)) k_ hk_.1), (Kd.fresh' (Kd.R_lt (Kd.R_x HO163.out)) k_ hk_.1), (Kd.fresh' (Kd.R_lt (Kd.R_x HO167.out)) k_ hk_.1)⟩)) (below_size (below_x HB.out))); have n8_ := Aside0.mk (Kd.R_lower (Kd.R_new' (Kd.R_new' (Kd.R_mono (ok' := fun k_ => True) ho1 (fun _ hk_ => trivial)) (Kd.R_lt (Kd.R_x HO148.out))) (Kd.R_lt (Kd.R_x HO163.out))) (below_size (below_x HB.out))); have n9_ := Aside0.mk (Kd.R_lower (Kd.R_new' (Kd.R_new' (Kd.R_new' (Kd.R_mono (ok' := fun k_ => True) ho2 (fun _ hk_ => trivial)) (Kd.R_lt (Kd.R_x HO152.out))) (Kd.R_lt (Kd.R_x HO155.out))) (Kd.R_lt (Kd.R_x HO167.out))) (below_size (below_x HB.out))); have n10_ := Aside0.mk (below_step (below_x HB.out) hb); clear HO144; clear HO148; clear HO152; clear HO155; clear HO159; clear HO163; clear HO167; clear HB; have HO144 := n0_; have HO148 := n1_; have HO152 := n2_; have HO155 := n3_; have HO159 := n4_; have HO163 := n5_; have HO167 := n6_; have HO172 := n7_; have HO176 := n8_; have HO180 := n9_; have HB := n10_; clear n0_ n1_ n2_ n3_ n4_ n5_ n6_ n7_ n8_ n9_ n10_; (try clear hb); (try clear hb2); (try clear hk); (try clear hi); (try clear ho0); (try clear ho1); (try clear ho2); obtain ⟨Ao26, co26, eo26⟩ := Kd.N_slice HO172.out; subst eo26; obtain ⟨Ao27, co27, eo27⟩ := Kd.R_slice HO176.out; subst eo27; obtain ⟨Ao28, co28, eo28⟩ := Kd.R_slice HO180.out; subst eo28) | ((with_reducible refine gate_callee (f := 20) rfl ?_); refine goesL_ (some 21) rfl rfl Try.func20 (by kernel_rfl) rfl #[.agg #[.slice Ao26 t170.length co26, .int .i64 t173, .slice Ao27 t174.length co27, .int .i64 t177, .slice Ao28 t178.length co28]] rfl (by (try simp only [List.map_toArray, List.map_cons, List.map_nil]); first | done | rfl | (simp only [List.length_drop, List.length_take]; rfl)) ?_; (with_reducible refine (strip_Work.calls _ _ t170 t173 _ _ t174 t177 _ _ t178 t181 t184 t185 _ ?side1 ?side2 ?side3 ?side4 ?side5 ?side6 A6.out).mono ?_); (case side1 => repeat (first | exact (Kd.N_reads' HO172.out).2.2 | (with_reducible refine Kd.C_alloc ?_ _) | (with_reducible refine Kd.C_drewN ?_ _) | (with_reducible refine Kd.C_drew ?_))); (case side2 => exact (Kd.N_reads' HO172.out).2.1); (case side3 => repeat (first | exact (Kd.R_reads' HO176.out).2.2 | (with_reducible refine Kd.C_alloc ?_ _) | (with_reducible refine Kd.C_drewN ?_ _) | (with_reducible refine Kd.C_drew ?_))); (case side4 => exact (Kd.R_reads' HO176.out).2.1); (case side5 => repeat (first | exact (Kd.R_reads' HO180.out).2.2 | (with_reducible refine Kd.C_alloc ?_ _) | (with_reducible refine Kd.C_drewN ?_ _) | (with_reducible refine Kd.C_drew ?_))); (case side6 => exact (Kd.R_reads' HO180.out).2.1); rintro e w29 ⟨v182, rfl, ho0, hb⟩; refine ⟨_, rfl, ?_⟩; have n0_ := Aside0.mk (Kd.N_elder' (Kd.N_x HO144.out) (Kd.R_base ho0) hb); have n1_ := Aside0.mk (Kd.R_below (Kd.R_x HO148.out) hb); have n2_ := Aside0.mk (Kd.R_elder' (Kd.R_x HO152.out) (Kd.R_base ho0) hb); have n3_ := Aside0.mk (Kd.R_elder' (Kd.R_x HO155.out) (Kd.R_base ho0) hb); have n4_ := Aside0.mk (Kd.N_elder' (Kd.N_x HO159.out) (Kd.R_base ho0) hb); have n5_ := Aside0.mk (Kd.R_below (Kd.R_x HO163.out) hb); have n6_ := Aside0.mk (Kd.R_elder' (Kd.R_x HO167.out) (Kd.R_base ho0) hb); have n7_ := Aside0.mk (Kd.N_elder' (Kd.N_x HO172.out) (Kd.R_base ho0) hb); have n8_ := Aside0.mk (Kd.R_below (Kd.R_x HO176.out) hb); have n9_ := Aside0.mk (Kd.R_elder' (Kd.R_x HO180.out) (Kd.R_base ho0) hb); have n10_ := Aside0.mk (Kd.R_lower (Kd.R_new' (Kd.R_new' (Kd.R_new' (Kd.R_new' ho0 (Kd.R_lt (Kd.R_x HO152.out))) (Kd.R_lt (Kd.R_x HO155.out))) (Kd.R_lt (Kd.R_x HO167.out))) (Kd.R_lt (Kd.R_x HO180.out))) (below_size (below_x HB.out))); have n11_ := Aside0.mk (below_step (below_x HB.out) hb); clear HO144; clear HO148; clear HO152; clear HO155; clear HO159; clear HO163; clear HO167; clear HO172; clear HO176; clear HO180; clear HB; have HO144 := n0_; have HO148 := n1_; have HO152 := n2_; have HO155 := n3_; have HO159 := n4_; have HO163 := n5_; have HO167 := n6_; have HO172 := n7_; have HO176 := n8_; have HO180 := n9_; have HO183 := n10_; have HB := n11_; clear n0_ n1_ n2_ n3_ n4_ n5_ n6_ n7_ n8_ n9_ n10_ n11_; (try clear hb); (try clear hb2); (try clear hk); (try clear hi); (try clear ho0)) | ((with_reducible refine gate_dst (N := 49) rfl ?_); (try (refine gate_guard (by rfl) ?_; dsimp only)); refine Kd.R_lit (Kd.int .i64) _ 3 ?hg (N := 49) ?hd (xs := ([1, 3, 3, 3, 3] : List Int)) (inner := [.int .i64 1, .int .i64 3, .int .i64 3, .int .i64 3, .int .i64 3]) (ok := fun _ => True) (okp := fun _ => True) ?hr ?hp (fun _ hk => hk) trivial (Below.refl _ _) (Nat.le_refl _) (by simp) ?_; (case hd => rfl); (case hg => rfl); (case hr => first | (go_simp; done) | (go_simp; rfl)); (case hp => exact (Reps.one (show Kd.M (Kd.int .i64) _ _ _ 1 [.int .i64 1] from rfl) (Reps.one (show Kd.M (Kd.int .i64) _ _ _ 3 [.int .i64 3] from rfl) (Reps.one (show Kd.M (Kd.int .i64) _ _ _ 3 [.int .i64 3] from rfl) (Reps.one (show Kd.M (Kd.int .i64) _ _ _ 3 [.int .i64 3] from rfl) (Reps.one (show Kd.M (Kd.int .i64) _ _ _ 3 [.int .i64 3] from rfl) (Reps.none _ _))))))); intro v187 w30 ho31 hb hg_ hnew_; clear hg_ hnew_; (first | rw [← Ny186.out] at ho31 | (simp only [Int.reduceToNat] at ho31; rw [← Ny186.out] at ho31)); have n0_ := Aside0.mk (Kd.N_elder' (Kd.N_x HO144.out) (Kd.R_base ho31) hb); have n1_ := Aside0.mk (Kd.R_below (Kd.R_x HO148.out) hb); have n2_ := Aside0.mk (Kd.R_elder' (Kd.R_x HO152.out) (Kd.R_base ho31) hb); have n3_ := Aside0.mk (Kd.R_elder' (Kd.R_x HO155.out) (Kd.R_base ho31) hb); have n4_ := Aside0.mk (Kd.N_elder' (Kd.N_x HO159.out) (Kd.R_base ho31) hb); have n5_ := Aside0.mk (Kd.R_below (Kd.R_x HO163.out) hb); have n6_ := Aside0.mk (Kd.R_elder' (Kd.R_x HO167.out) (Kd.R_base ho31) hb); have n7_ := Aside0.mk (Kd.N_elder' (Kd.N_x HO172.out) (Kd.R_base ho31) hb); have n8_ := Aside0.mk (Kd.R_below (Kd.R_x HO176.out) hb); have n9_ := Aside0.mk (Kd.R_elder' (Kd.R_x HO180.out) (Kd.R_base ho31) hb); have n10_ := Aside0.mk (Kd.R_elder' (Kd.R_x HO183.out) (Kd.R_base ho31) hb); have n11_ := Aside0.mk (Kd.R_lower (Kd.R_new' (Kd.R_new' (Kd.R_new' (Kd.R_new' (Kd.R_new' ho31 (Kd.R_lt (Kd.R_x HO152.out))) (Kd.R_lt (Kd.R_x HO155.out))) (Kd.R_lt (Kd.R_x HO167.out))) (Kd.R_lt (Kd.R_x HO180.out))) (Kd.R_lt (Kd.R_x HO183.out))) (below_size (below_x HB.out))); have n12_ := Aside0.mk (below_step (below_x HB.out) hb); clear HO144; clear HO148; clear HO152; clear HO155; clear HO159; clear HO163; clear HO167; clear HO172; clear HO176; clear HO180; clear HO183; clear HB; have HO144 := n0_; have HO148 := n1_; have HO152 := n2_; have HO155 := n3_; have HO159 := n4_; have HO163 := n5_; have HO167 := n6_; have HO172 := n7_; have HO176 := n8_; have HO180 := n9_; have HO183 := n10_; have HO188 := n11_; have HB := n12_; clear n0_ n1_ n2_ n3_ n4_ n5_ n6_ n7_ n8_ n9_ n10_ n11_ n12_; clear hb ho31; obtain ⟨Ao32, co32, eo32⟩ := Kd.R_slice HO155.out; subst eo32; obtain ⟨Ao33, co33, eo33⟩ := Kd.R_slice HO188.out; subst eo33) | (go_at_call 22; (with_reducible refine (swarfkit_EqualInts.calls k _ _ t153 _ _ y186 true _ ?side1 ?side2 ?side3 ?side4 A12.out).mono ?_); (case side1 => repeat (first | exact (Kd.R_reads' HO155.out).2.2 | (with_reducible refine Kd.C_alloc ?_ _) | (with_reducible refine Kd.C_drewN ?_ _) | (with_reducible refine Kd.C_drew ?_))); (case side2 => exact (Kd.R_reads' HO155.out).2.1); (case side3 => repeat (first | exact (Kd.R_reads' HO188.out).2.2 | (with_reducible refine Kd.C_alloc ?_ _) | (with_reducible refine Kd.C_drewN ?_ _) | (with_reducible refine Kd.C_drew ?_))); (case side4 => exact (Kd.R_reads' HO188.out).2.1); rintro e w' ⟨rfl, ⟨nd, rfl⟩⟩) | ((with_reducible refine gate_dst (N := 54) rfl ?_); (try (refine gate_guard (by rfl) ?_; dsimp only)); refine Kd.R_lit (Kd.int .i64) _ 3 ?hg (N := 54) ?hd (xs := ([1, 2, 3, 4] : List Int)) (inner := [.int .i64 1, .int .i64 2, .int .i64 3, .int .i64 4]) (ok := fun _ => True) (okp := fun _ => True) ?hr ?hp (fun _ hk => hk) trivial (Below.refl _ _) (Nat.le_refl _) (by simp) ?_; (case hd => rfl); (case hg => rfl); (case hr => first | (go_simp; done) | (go_simp; rfl)); (case hp => exact (Reps.one (show Kd.M (Kd.int .i64) _ _ _ 1 [.int .i64 1] from rfl) (Reps.one (show Kd.M (Kd.int .i64) _ _ _ 2 [.int .i64 2] from rfl) (Reps.one (show Kd.M (Kd.int .i64) _ _ _ 3 [.int .i64 3] from rfl) (Reps.one (show Kd.M (Kd.int .i64) _ _ _ 4 [.int .i64 4] from rfl) (Reps.none _ _)))))); intro v191 w34 ho35 hb hg_ hnew_; clear hg_ hnew_; (first | rw [← Ny190.out] at ho35 | (simp only [Int.reduceToNat] at ho35; rw [← Ny190.out] at ho35)); have n0_ := Aside0.mk (Kd.N_elder' (Kd.N_x HO144.out) (Kd.R_base ho35) hb); have n1_ := Aside0.mk (Kd.R_below (Kd.R_x HO148.out) hb); have n2_ := Aside0.mk (Kd.R_elder' (Kd.R_x HO152.out) (Kd.R_base ho35) hb); have n3_ := Aside0.mk (Kd.R_elder' (Kd.R_x HO155.out) (Kd.R_base ho35) hb); have n4_ := Aside0.mk (Kd.N_elder' (Kd.N_x HO159.out) (Kd.R_base ho35) hb); have n5_ := Aside0.mk (Kd.R_below (Kd.R_x HO163.out) hb); have n6_ := Aside0.mk (Kd.R_elder' (Kd.R_x HO167.out) (Kd.R_base ho35) hb); have n7_ := Aside0.mk (Kd.N_elder' (Kd.N_x HO172.out) (Kd.R_base ho35) hb); have n8_ := Aside0.mk (Kd.R_below (Kd.R_x HO176.out) hb); have n9_ := Aside0.mk (Kd.R_elder' (Kd.R_x HO180.out) (Kd.R_base ho35) hb); have n10_ := Aside0.mk (Kd.R_elder' (Kd.R_x HO183.out) (Kd.R_base ho35) hb); have n11_ := Aside0.mk (Kd.R_elder' (Kd.R_x HO188.out) (Kd.R_base ho35) hb); have n12_ := Aside0.mk (Kd.R_lower (Kd.R_new' (Kd.R_new' (Kd.R_new' (Kd.R_new' (Kd.R_new' (Kd.R_new' ho35 (Kd.R_lt (Kd.R_x HO152.out))) (Kd.R_lt (Kd.R_x HO155.out))) (Kd.R_lt (Kd.R_x HO167.out))) (Kd.R_lt (Kd.R_x HO180.out))) (Kd.R_lt (Kd.R_x HO183.out))) (Kd.R_lt (Kd.R_x HO188.out))) (below_size (below_x HB.out))); have n13_ := Aside0.mk (below_step (below_x HB.out) hb); clear HO144; clear HO148; clear HO152; clear HO155; clear HO159; clear HO163; clear HO167; clear HO172; clear HO176; clear HO180; clear HO183; clear HO188; clear HB; have HO144 := n0_; have HO148 := n1_; have HO152 := n2_; have HO155 := n3_; have HO159 := n4_; have HO163 := n5_; have HO167 := n6_; have HO172 := n7_; have HO176 := n8_; have HO180 := n9_; have HO183 := n10_; have HO188 := n11_; have HO192 := n12_; have HB := n13_; clear n0_ n1_ n2_ n3_ n4_ n5_ n6_ n7_ n8_ n9_ n10_ n11_ n12_ n13_; clear hb ho35; obtain ⟨Ao36, co36, eo36⟩ := Kd.R_slice HO183.out; subst eo36; obtain ⟨Ao37, co37, eo37⟩ := Kd.R_slice HO192.out; subst eo37) | (go_at_call 22; (with_reducible refine (swarfkit_EqualInts.calls k _ _ t181 _ _ y190 t193 _ ?side1 ?side2 ?side3 ?side4 A14.out).mono ?_); (case side1 => repeat (first | exact (Kd.R_reads' HO183.out).2.2 | (with_reducible refine Kd.C_alloc ?_ _) | (with_reducible refine Kd.C_drewN ?_ _) | (with_reducible refine Kd.C_drew ?_))); (case side2 => exact (Kd.R_reads' HO183.out).2.1); (case side3 => repeat (first | exact (Kd.R_reads' HO192.out).2.2 | (with_reducible refine Kd.C_alloc ?_ _) | (with_reducible refine Kd.C_drewN ?_ _) | (with_reducible refine Kd.C_drew ?_))); (case side4 => exact (Kd.R_reads' HO192.out).2.1); rintro e w' ⟨rfl, ⟨nd, rfl⟩⟩))
       go_ret
       exact ⟨by first | rfl | (simp [errW_none, errW_some] <;> rfl) | (simp [*, errW_none, errW_some] <;> rfl), by repeat (first | (with_reducible first | exact HB.out | apply below_alloc | apply pw_below_drewN | apply below_drew1) | exact HB.out)⟩
      ·
       replace c13 := Bool.eq_false_iff.mpr c13
       subst c13
       have H1 : (some false) = some r := by rw [if_neg (show ¬ (false = true) by decide)] at H; exact H
       clear H
       have H := H1
       clear H1
       exact absurd ((Option.some.inj H).trans hrt.out) (by decide)
     ·
      rw [if_neg c11] at H
      have c11b0 : (t184 == 74) = false := beq_eq_false_iff_ne.mpr c11
      have c11b1 : (t184 != 74) = true := bne_iff_ne.mpr c11
      exact absurd ((Option.some.inj H).trans hrt.out) (by decide)
    ·
     rw [if_neg c10] at H
     have c10b0 : (t168 == 2) = false := beq_eq_false_iff_ne.mpr c10
     have c10b1 : (t168 != 2) = true := bne_iff_ne.mpr c10
     exact absurd ((Option.some.inj H).trans hrt.out) (by decide)
   ·
    rw [if_neg c9] at H
    have c9b0 : (t185 == 0) = false := beq_eq_false_iff_ne.mpr c9
    have c9b1 : (t185 != 0) = true := bne_iff_ne.mpr c9
    exact absurd ((Option.some.inj H).trans hrt.out) (by decide)
  ·
   rw [if_neg c8] at H
   have c8b0 : (t169 == 0) = false := beq_eq_false_iff_ne.mpr c8
   have c8b1 : (t169 != 0) = true := bne_iff_ne.mpr c8
   exact absurd ((Option.some.inj H).trans hrt.out) (by decide)
 ·
  rw [if_neg c7] at H
  have c7b0 : (t156 == 0) = false := beq_eq_false_iff_ne.mpr c7
  have c7b1 : (t156 != 0) = true := bne_iff_ne.mpr c7
  exact absurd ((Option.some.inj H).trans hrt.out) (by decide)
end Go.Proofs.Ytkkmfcdikkiodaa.PC4
namespace Go.Proofs.Ytkkmfcdikkiodaa.PC4
open Go.RowKit Go.Proofs.YtkkmfcdikkiodaaW.PrintWords Go.Proofs.YtkkmfcdikkiodaaW.PrintLast Go.Proofs.YtkkmfcdikkiodaaW.PrintMore
attribute [local go_sem] max2_int min2_int max_two min_two max_three min_three max_four min_four
set_option linter.unusedVariables false
set_option linter.unusedSimpArgs false
def swarfref04_Time.l0 : Nat → List Int → Int → Int → List (S50) → Int → List (S61) → Int → List Int → Option (Int)
 | 0, _, _, _, _, _, _, _, _ => none
 | k + 1, x1, x5, x6, x362000, x362001, x362002, x362003, x362004 => if x6 < (x1.length : Int) then (if 0 ≤ x6 then (if 0 ≤ (rd x1 x6) then (if (rd x1 x6) < (x362000.length : Int) then (if x6 > 0 then (if 0 ≤ (wrap64 (x6 - 1)) then (if (wrap64 (x6 - 1)) < (x1.length : Int) then (if 0 ≤ (rd x1 (wrap64 (x6 - 1))) then (if (rd x1 (wrap64 (x6 - 1))) < (x362000.length : Int) then (if ((rd_T50 x362000 (rd x1 x6)).f2) = ((rd_T50 x362000 (rd x1 (wrap64 (x6 - 1)))).f2) then (swarfref04_Time.l0 k x1 (wrap64 (x5 + ((rd_T50 x362000 (rd x1 x6)).f3))) (wrap64 (x6 + 1)) x362000 x362001 x362002 x362003 x362004) else (swarfref04_Time.l0 k x1 (wrap64 ((wrap64 (x5 + ((rd_T50 x362000 (rd x1 x6)).f3))) + x362001)) (wrap64 (x6 + 1)) x362000 x362001 x362002 x362003 x362004)) else (none)) else (none)) else (none)) else (none)) else (swarfref04_Time.l0 k x1 (wrap64 (x5 + ((rd_T50 x362000 (rd x1 x6)).f3))) (wrap64 (x6 + 1)) x362000 x362001 x362002 x362003 x362004)) else (none)) else (none)) else (none)) else (some x5)
def swarfref04_Time.f (k : Nat) (l0_0 : List (S50)) (a0_1 : Int) (l0_2 : List (S61)) (a0_3 : Int) (l0_4 : List Int) (l1 : List Int) : Option (Int) := swarfref04_Time.l0 k l1 0 0 l0_0 a0_1 l0_2 a0_3 l0_4
theorem swarfref04_Time.mono_l : ∀ k, (∀ y0 y1 y2 y3 y4 y5 y6 y7, LeO (swarfref04_Time.l0 k y0 y1 y2 y3 y4 y5 y6 y7) (swarfref04_Time.l0 (k + 1) y0 y1 y2 y3 y4 y5 y6 y7))
 | 0 => fun _ _ _ _ _ _ _ _ r h => by simp [swarfref04_Time.l0] at h
 | k + 1 => by
  have ih0 := swarfref04_Time.mono_l k
  ·
   intro y0 y1 y2 y3 y4 y5 y6 y7
   unfold swarfref04_Time.l0
   repeat' first
   | (with_reducible exact ih0 _ _ _ _ _ _ _ _)
   | (with_reducible exact LeO.refl _)
   | (with_reducible exact LeO.none _)
   | (with_reducible refine LeO.ite ?_ ?_)
   | (with_reducible refine LeO.bind ?_ (fun _ => ?_))
   | exact ih0 _ _ _ _ _ _ _ _
   | exact LeO.none _
   | refine LeO.ite ?_ ?_
   | refine LeO.bind ?_ (fun _ => ?_)
theorem swarfref04_Time.mono : ∀ a0 a1 a2 a3 a4 a5 k, LeO (swarfref04_Time.f k a0 a1 a2 a3 a4 a5) (swarfref04_Time.f (k + 1) a0 a1 a2 a3 a4 a5) := by
 intro a0 a1 a2 a3 a4 a5 k
 have ih0 := swarfref04_Time.mono_l k
 unfold swarfref04_Time.f
 repeat' first
   | (with_reducible exact ih0 _ _ _ _ _ _ _ _)
   | (with_reducible exact LeO.refl _)
   | (with_reducible exact LeO.none _)
   | (with_reducible refine LeO.ite ?_ ?_)
   | (with_reducible refine LeO.bind ?_ (fun _ => ?_))
   | exact ih0 _ _ _ _ _ _ _ _
   | exact LeO.none _
   | refine LeO.ite ?_ ?_
   | refine LeO.bind ?_ (fun _ => ?_)
set_option maxHeartbeats 8000000 in
set_option maxRecDepth 100000 in
theorem swarfref04_Time.calls (k : Nat) (A0_0 : Option Addr) (c0_0 : Nat) (l0_0 : List (S50)) (a0_1 : Int) (A0_2 : Option Addr) (c0_2 : Nat) (l0_2 : List (S61)) (a0_3 : Int) (A0_4 : Option Addr) (c0_4 : Nat) (l0_4 : List Int) (A1 : Option Addr) (c1 : Nat) (l1 : List Int) (r : Int) (w : World) (hr0_0 : Kd.C k50 w A0_0 l0_0.length l0_0) (hc0_0 : l0_0.length ≤ c0_0) (hr0_2 : Kd.C k61 w A0_2 l0_2.length l0_2) (hc0_2 : l0_2.length ≤ c0_2) (hr0_4 : Kd.C (Kd.int .i64) w A0_4 l0_4.length l0_4) (hc0_4 : l0_4.length ≤ c0_4) (hr1 : Kd.C (Kd.int .i64) w A1 l1.length l1) (hc1 : l1.length ≤ c1) (h : swarfref04_Time.f k l0_0 a0_1 l0_2 a0_3 l0_4 l1 = some r) :
  Calls Try.prog 31 #[.agg #[.slice A0_0 l0_0.length c0_0, .int .i64 a0_1, .slice A0_2 l0_2.length c0_2, .int .i64 a0_3, .slice A0_4 l0_4.length c0_4], .slice A1 l1.length c1] w fun e w' => e = .returned (.int .i64 r) ∧ Below w.heap.size w w' := by
 have hu26 := Try.underlying26
 have HR0_0 := Aside0.mk hr0_0
 have HC0_0 := Aside0.mk hc0_0
 clear hr0_0 hc0_0
 have HR0_2 := Aside0.mk hr0_2
 have HC0_2 := Aside0.mk hc0_2
 clear hr0_2 hc0_2
 have HR0_4 := Aside0.mk hr0_4
 have HC0_4 := Aside0.mk hc0_4
 clear hr0_4 hc0_4
 have HR1 := Aside0.mk hr1
 have HC1 := Aside0.mk hc1
 clear hr1 hc1
 have HB := Aside0.mk (Below.refl w.heap.size w)
 have H : (swarfref04_Time.l0 k l1 0 0 l0_0 a0_1 l0_2 a0_3 l0_4) = some r := h
 clear h
 have H' := Aside0.mk H
 clear H
 go_enter Try.func31, Try.ntmps31
 go_wp2_with (first | ((with_reducible refine gate_dst (N := 2) rfl ?_); refine box_event ?hg (N := 2) ?hd (cs := #[.slice A0_0 l0_0.length c0_0, .int .i64 a0_1, .slice A0_2 l0_2.length c0_2, .int .i64 a0_3, .slice A0_4 l0_4.length c0_4]) (t := 26) ?hr ?_; (case hd => rfl); (case hg => rfl); (case hr => first | (go_simp; done) | (go_simp; rfl)); intro gb361 hg w3 hbox hb; have n0_ := Aside0.mk (below_step (below_x HB.out) hb); have n1_ := Aside0.mk (hbox); have n2_ := Aside0.mk ((by rw [hg]; exact (below_size (below_x HB.out)) : w.heap.size ≤ gb361)); have n3_ := Aside0.mk ((by rw [hg]; exact (below_size (below_x HB.out)) : w.heap.size ≤ gb361)); clear HB; have HB := n0_; have BK361 := n1_; have GW361 := n2_; have GE361 := n3_; clear n0_ n1_ n2_ n3_; clear hb hbox hg))
 go_loopg [5, 6] k (fun kq v5 v6 w' => ∃ (x5_1 : Int) (x6_1 : Int), v5 = .int .i64 x5_1 ∧ v6 = .int .i64 x6_1 ∧ Aside0 (swarfref04_Time.l0 kq l1 x5_1 x6_1 l0_0 a0_1 l0_2 a0_3 l0_4 = some r) ∧ Aside0 (kq ≤ k) ∧ Aside0 (w'.heap[gb361]? = some (.cells #[(.slice A0_0 l0_0.length c0_0), .int .i64 a0_1, (.slice A0_2 l0_2.length c0_2), .int .i64 a0_3, (.slice A0_4 l0_4.length c0_4)] 26 (0, 0))) ∧ Aside0 (Below w.heap.size w w'))
 case atStart => exact ⟨(0), (0), (by first | rfl | (simp; done) | (simp [*]; done)), (by first | rfl | (simp; done) | (simp [*]; done)), H', ⟨Nat.le_refl _⟩, ⟨by (with_reducible repeat (first | refine blk_drewN ?_ _ | refine blk_drew ?_ | refine blk_alloc ?_ _)); exact BK361.out⟩, ⟨by repeat (first | (with_reducible first | exact HB.out | apply below_alloc | apply pw_below_drewN | apply below_drew1 | refine below_set ?_ GE361.out) | exact HB.out)⟩⟩
 case round =>
  clear H'
  try clear c1
  try clear p2
  try clear c3
  obtain ⟨x5_1, x6_1, rfl, rfl, HA, HK1, BK361, HB⟩ := hrel
  cases gk with
  | zero => exact absurd HA.out (by simp [swarfref04_Time.l0])
  | succ k1 =>
   have H := HA.out
   clear HA
   simp only [swarfref04_Time.l0] at H
   by_cases c4 : x6_1 < (l1.length : Int)
   ·
    rw [if_pos c4] at H
    have c4b0 : decide (x6_1 < (l1.length : Int)) = true := decide_eq_true c4
    clear c4
    by_cases c5 : 0 ≤ x6_1
    ·
     rw [if_pos c5] at H
     have c5b0 : decide (0 ≤ x6_1) = true := decide_eq_true c5
     clear c5
     by_cases c6 : 0 ≤ (rd l1 x6_1)
     ·
      rw [if_pos c6] at H
      have c6b0 : decide (0 ≤ (rd l1 x6_1)) = true := decide_eq_true c6
      clear c6
      by_cases c7 : (rd l1 x6_1) < (l0_0.length : Int)
      ·
       rw [if_pos c7] at H
       have c7b0 : decide ((rd l1 x6_1) < (l0_0.length : Int)) = true := decide_eq_true c7
       clear c7
       by_cases c8 : x6_1 > 0
       ·
        rw [if_pos c8] at H
        have c8b0 : decide (0 < x6_1) = true := decide_eq_true c8
        clear c8
        obtain ⟨ji9, hji9⟩ : ∃ j_ : Int, (wrap64 (x6_1 - 1)) = j_ := ⟨_, rfl⟩
        replace H : (if 0 ≤ (ji9) then (if (ji9) < (l1.length : Int) then (if 0 ≤ (rd l1 (ji9)) then (if (rd l1 (ji9)) < (l0_0.length : Int) then (if ((rd_T50 l0_0 (rd l1 x6_1)).f2) = ((rd_T50 l0_0 (rd l1 (ji9))).f2) then (swarfref04_Time.l0 k1 l1 (wrap64 (x5_1 + ((rd_T50 l0_0 (rd l1 x6_1)).f3))) (wrap64 (x6_1 + 1)) l0_0 a0_1 l0_2 a0_3 l0_4) else (swarfref04_Time.l0 k1 l1 (wrap64 ((wrap64 (x5_1 + ((rd_T50 l0_0 (rd l1 x6_1)).f3))) + a0_1)) (wrap64 (x6_1 + 1)) l0_0 a0_1 l0_2 a0_3 l0_4)) else (none)) else (none)) else (none)) else (none)) = some r := by first | (rw [hji9] at H; exact H) | (simp only [hji9] at H ⊢; exact H)
        have hji9w : (IntKind.i64.wrap (x6_1 - 1)) = ji9 := (i64_w _).trans hji9
        by_cases c10 : 0 ≤ (ji9)
        ·
         rw [if_pos c10] at H
         have c10b0 : decide (0 ≤ (ji9)) = true := decide_eq_true c10
         clear c10
         by_cases c11 : (ji9) < (l1.length : Int)
         ·
          rw [if_pos c11] at H
          have c11b0 : decide ((ji9) < (l1.length : Int)) = true := decide_eq_true c11
          clear c11
          by_cases c12 : 0 ≤ (rd l1 (ji9))
          ·
           rw [if_pos c12] at H
           have c12b0 : decide (0 ≤ (rd l1 (ji9))) = true := decide_eq_true c12
           clear c12
           by_cases c13 : (rd l1 (ji9)) < (l0_0.length : Int)
           ·
            rw [if_pos c13] at H
            have c13b0 : decide ((rd l1 (ji9)) < (l0_0.length : Int)) = true := decide_eq_true c13
            clear c13
            by_cases c14 : ((rd_T50 l0_0 (rd l1 x6_1)).f2) = ((rd_T50 l0_0 (rd l1 (ji9))).f2)
            ·
             rw [if_pos c14] at H
             have c14b0 : (((rd_T50 l0_0 (rd l1 x6_1)).f2) == ((rd_T50 l0_0 (rd l1 (ji9))).f2)) = true := beq_iff_eq.mpr c14
             have c14b1 : (((rd_T50 l0_0 (rd l1 x6_1)).f2) != ((rd_T50 l0_0 (rd l1 (ji9))).f2)) = false := bne_eq_false_iff_eq.mpr c14
             clear c14
             have H' := Aside0.mk H
             clear H
             have hcz15_0 : wr.cell? ⟨gb361, 0, none⟩ = some (.slice A0_0 l0_0.length c0_0) := (blk_cell BK361.out 0).trans rfl
             have hcz15_1 : wr.cell? ⟨gb361, 1, none⟩ = some (.int .i64 a0_1) := (blk_cell BK361.out 1).trans rfl
             have hcz15_2 : wr.cell? ⟨gb361, 2, none⟩ = some (.slice A0_2 l0_2.length c0_2) := (blk_cell BK361.out 2).trans rfl
             have hcz15_3 : wr.cell? ⟨gb361, 3, none⟩ = some (.int .i64 a0_3) := (blk_cell BK361.out 3).trans rfl
             have hcz15_4 : wr.cell? ⟨gb361, 4, none⟩ = some (.slice A0_4 l0_4.length c0_4) := (blk_cell BK361.out 4).trans rfl
             have hfz15_0 := blk_frozen BK361.out 0
             have hfz15_1 := blk_frozen BK361.out 1
             have hfz15_2 := blk_frozen BK361.out 2
             have hfz15_3 := blk_frozen BK361.out 3
             have hfz15_4 := blk_frozen BK361.out 4
             have p362 : 0 ≤ (x6_1 : Int) := of_decide_eq_true (by first | (with_reducible assumption) | assumption)
             have q362 : x6_1 < (l1.length : Int) := of_decide_eq_true (by first | (with_reducible assumption) | assumption)
             obtain ⟨ad362, e362, hx362_0⟩ := Kd.at_int HR1.out x6_1 p362 q362
             cases e362
             replace hx362_0 := (HB.out.cell (World.block_lt_of_cell? w _ hx362_0)).trans hx362_0
             replace p362 := eq_true p362
             replace q362 := eq_true q362
             have p363 : 0 ≤ ((rd l1 x6_1) : Int) := of_decide_eq_true (by first | (with_reducible assumption) | assumption)
             have q363 : (rd l1 x6_1) < (l0_0.length : Int) := of_decide_eq_true (by first | (with_reducible assumption) | assumption)
             obtain ⟨ad363, A363_0, c363_0, e363, hx363_0, hx363_1, hx363_2, hx363_3, hl363_0, hi363_0⟩ := at_T50 HR0_0.out (rd l1 x6_1) p363 q363
             cases e363
             replace hx363_0 := (HB.out.cell (World.block_lt_of_cell? w _ hx363_0)).trans hx363_0
             replace hx363_1 := (HB.out.cell (World.block_lt_of_cell? w _ hx363_1)).trans hx363_1
             replace hx363_2 := (HB.out.cell (World.block_lt_of_cell? w _ hx363_2)).trans hx363_2
             replace hx363_3 := (HB.out.cell (World.block_lt_of_cell? w _ hx363_3)).trans hx363_3
             have HR363_0 := Aside0.mk hi363_0
             have HC363_0 := Aside0.mk hl363_0
             clear hi363_0 hl363_0
             replace p363 := eq_true p363
             replace q363 := eq_true q363
             have p364 : 0 ≤ (x6_1 : Int) := of_decide_eq_true (by first | (with_reducible assumption) | assumption)
             have q364 : x6_1 < (l1.length : Int) := of_decide_eq_true (by first | (with_reducible assumption) | assumption)
             obtain ⟨ad364, e364, hx364_0⟩ := Kd.at_int HR1.out x6_1 p364 q364
             obtain rfl : ad362 = ad364 := (by injection e364)
             replace hx364_0 := (HB.out.cell (World.block_lt_of_cell? w _ hx364_0)).trans hx364_0
             replace p364 := eq_true p364
             replace q364 := eq_true q364
             have p365 : 0 ≤ ((rd l1 x6_1) : Int) := of_decide_eq_true (by first | (with_reducible assumption) | assumption)
             have q365 : (rd l1 x6_1) < (l0_0.length : Int) := of_decide_eq_true (by first | (with_reducible assumption) | assumption)
             obtain ⟨ad365, A365_0, c365_0, e365, hx365_0, hx365_1, hx365_2, hx365_3, hl365_0, hi365_0⟩ := at_T50 HR0_0.out (rd l1 x6_1) p365 q365
             obtain rfl : ad363 = ad365 := (by injection e365)
             replace hx365_0 := (HB.out.cell (World.block_lt_of_cell? w _ hx365_0)).trans hx365_0
             replace hx365_1 := (HB.out.cell (World.block_lt_of_cell? w _ hx365_1)).trans hx365_1
             replace hx365_2 := (HB.out.cell (World.block_lt_of_cell? w _ hx365_2)).trans hx365_2
             replace hx365_3 := (HB.out.cell (World.block_lt_of_cell? w _ hx365_3)).trans hx365_3
             have HR365_0 := Aside0.mk hi365_0
             have HC365_0 := Aside0.mk hl365_0
             clear hi365_0 hl365_0
             replace p365 := eq_true p365
             replace q365 := eq_true q365
             have ea_ := Option.some.inj (hx363_0.symm.trans hx365_0)
             injection ea_ with ea_ en_ ec_
             subst ea_
             subst ec_
             clear en_
             have p366 : 0 ≤ ((ji9) : Int) := of_decide_eq_true (by first | (with_reducible assumption) | assumption)
             have q366 : (ji9) < (l1.length : Int) := of_decide_eq_true (by first | (with_reducible assumption) | assumption)
             obtain ⟨ad366, e366, hx366_0⟩ := Kd.at_int HR1.out (ji9) p366 q366
             obtain rfl : ad362 = ad366 := (by injection e366)
             replace hx366_0 := (HB.out.cell (World.block_lt_of_cell? w _ hx366_0)).trans hx366_0
             replace p366 := eq_true p366
             replace q366 := eq_true q366
             have p367 : 0 ≤ ((rd l1 (ji9)) : Int) := of_decide_eq_true (by first | (with_reducible assumption) | assumption)
             have q367 : (rd l1 (ji9)) < (l0_0.length : Int) := of_decide_eq_true (by first | (with_reducible assumption) | assumption)
             obtain ⟨ad367, A367_0, c367_0, e367, hx367_0, hx367_1, hx367_2, hx367_3, hl367_0, hi367_0⟩ := at_T50 HR0_0.out (rd l1 (ji9)) p367 q367
             obtain rfl : ad363 = ad367 := (by injection e367)
             replace hx367_0 := (HB.out.cell (World.block_lt_of_cell? w _ hx367_0)).trans hx367_0
             replace hx367_1 := (HB.out.cell (World.block_lt_of_cell? w _ hx367_1)).trans hx367_1
             replace hx367_2 := (HB.out.cell (World.block_lt_of_cell? w _ hx367_2)).trans hx367_2
             replace hx367_3 := (HB.out.cell (World.block_lt_of_cell? w _ hx367_3)).trans hx367_3
             have HR367_0 := Aside0.mk hi367_0
             have HC367_0 := Aside0.mk hl367_0
             clear hi367_0 hl367_0
             replace p367 := eq_true p367
             replace q367 := eq_true q367
             go_wp2
             repeat (go_quiet (fail); try go_wp2)
             go_roundg k1
             case measure => have := HK1.out; omega
             case rel => exact ⟨(wrap64 (x5_1 + ((rd_T50 l0_0 (rd l1 x6_1)).f3))), (wrap64 (x6_1 + 1)), (by first | rfl | (simp; done) | (simp [*]; done)), (by first | rfl | (simp; done) | (simp [*]; done)), H', ⟨by have := HK1.out; omega⟩, ⟨by (with_reducible repeat (first | refine blk_drewN ?_ _ | refine blk_drew ?_ | refine blk_alloc ?_ _)); exact BK361.out⟩, ⟨by repeat (first | (with_reducible first | exact HB.out | apply below_alloc | apply pw_below_drewN | apply below_drew1 | refine below_set ?_ GE361.out) | exact HB.out)⟩⟩
            ·
             rw [if_neg c14] at H
             have c14b0 : (((rd_T50 l0_0 (rd l1 x6_1)).f2) == ((rd_T50 l0_0 (rd l1 (ji9))).f2)) = false := beq_eq_false_iff_ne.mpr c14
             have c14b1 : (((rd_T50 l0_0 (rd l1 x6_1)).f2) != ((rd_T50 l0_0 (rd l1 (ji9))).f2)) = true := bne_iff_ne.mpr c14
             have H' := Aside0.mk H
             clear H
             have hcz16_0 : wr.cell? ⟨gb361, 0, none⟩ = some (.slice A0_0 l0_0.length c0_0) := (blk_cell BK361.out 0).trans rfl
             have hcz16_1 : wr.cell? ⟨gb361, 1, none⟩ = some (.int .i64 a0_1) := (blk_cell BK361.out 1).trans rfl
             have hcz16_2 : wr.cell? ⟨gb361, 2, none⟩ = some (.slice A0_2 l0_2.length c0_2) := (blk_cell BK361.out 2).trans rfl
             have hcz16_3 : wr.cell? ⟨gb361, 3, none⟩ = some (.int .i64 a0_3) := (blk_cell BK361.out 3).trans rfl
             have hcz16_4 : wr.cell? ⟨gb361, 4, none⟩ = some (.slice A0_4 l0_4.length c0_4) := (blk_cell BK361.out 4).trans rfl
             have hfz16_0 := blk_frozen BK361.out 0
             have hfz16_1 := blk_frozen BK361.out 1
             have hfz16_2 := blk_frozen BK361.out 2
             have hfz16_3 := blk_frozen BK361.out 3
             have hfz16_4 := blk_frozen BK361.out 4
             have p362 : 0 ≤ (x6_1 : Int) := of_decide_eq_true (by first | (with_reducible assumption) | assumption)
             have q362 : x6_1 < (l1.length : Int) := of_decide_eq_true (by first | (with_reducible assumption) | assumption)
             obtain ⟨ad362, e362, hx362_0⟩ := Kd.at_int HR1.out x6_1 p362 q362
             cases e362
             replace hx362_0 := (HB.out.cell (World.block_lt_of_cell? w _ hx362_0)).trans hx362_0
             replace p362 := eq_true p362
             replace q362 := eq_true q362
             have p363 : 0 ≤ ((rd l1 x6_1) : Int) := of_decide_eq_true (by first | (with_reducible assumption) | assumption)
             have q363 : (rd l1 x6_1) < (l0_0.length : Int) := of_decide_eq_true (by first | (with_reducible assumption) | assumption)
             obtain ⟨ad363, A363_0, c363_0, e363, hx363_0, hx363_1, hx363_2, hx363_3, hl363_0, hi363_0⟩ := at_T50 HR0_0.out (rd l1 x6_1) p363 q363
             cases e363
             replace hx363_0 := (HB.out.cell (World.block_lt_of_cell? w _ hx363_0)).trans hx363_0
             replace hx363_1 := (HB.out.cell (World.block_lt_of_cell? w _ hx363_1)).trans hx363_1
             replace hx363_2 := (HB.out.cell (World.block_lt_of_cell? w _ hx363_2)).trans hx363_2
             replace hx363_3 := (HB.out.cell (World.block_lt_of_cell? w _ hx363_3)).trans hx363_3
             have HR363_0 := Aside0.mk hi363_0
             have HC363_0 := Aside0.mk hl363_0
             clear hi363_0 hl363_0
             replace p363 := eq_true p363
             replace q363 := eq_true q363
             have p364 : 0 ≤ (x6_1 : Int) := of_decide_eq_true (by first | (with_reducible assumption) | assumption)
             have q364 : x6_1 < (l1.length : Int) := of_decide_eq_true (by first | (with_reducible assumption) | assumption)
             obtain ⟨ad364, e364, hx364_0⟩ := Kd.at_int HR1.out x6_1 p364 q364
             obtain rfl : ad362 = ad364 := (by injection e364)
             replace hx364_0 := (HB.out.cell (World.block_lt_of_cell? w _ hx364_0)).trans hx364_0
             replace p364 := eq_true p364
             replace q364 := eq_true q364
             have p365 : 0 ≤ ((rd l1 x6_1) : Int) := of_decide_eq_true (by first | (with_reducible assumption) | assumption)
             have q365 : (rd l1 x6_1) < (l0_0.length : Int) := of_decide_eq_true (by first | (with_reducible assumption) | assumption)
             obtain ⟨ad365, A365_0, c365_0, e365, hx365_0, hx365_1, hx365_2, hx365_3, hl365_0, hi365_0⟩ := at_T50 HR0_0.out (rd l1 x6_1) p365 q365
             obtain rfl : ad363 = ad365 := (by injection e365)
             replace hx365_0 := (HB.out.cell (World.block_lt_of_cell? w _ hx365_0)).trans hx365_0
             replace hx365_1 := (HB.out.cell (World.block_lt_of_cell? w _ hx365_1)).trans hx365_1
             replace hx365_2 := (HB.out.cell (World.block_lt_of_cell? w _ hx365_2)).trans hx365_2
             replace hx365_3 := (HB.out.cell (World.block_lt_of_cell? w _ hx365_3)).trans hx365_3
             have HR365_0 := Aside0.mk hi365_0
             have HC365_0 := Aside0.mk hl365_0
             clear hi365_0 hl365_0
             replace p365 := eq_true p365
             replace q365 := eq_true q365
             have ea_ := Option.some.inj (hx363_0.symm.trans hx365_0)
             injection ea_ with ea_ en_ ec_
             subst ea_
             subst ec_
             clear en_
             have p366 : 0 ≤ ((ji9) : Int) := of_decide_eq_true (by first | (with_reducible assumption) | assumption)
             have q366 : (ji9) < (l1.length : Int) := of_decide_eq_true (by first | (with_reducible assumption) | assumption)
             obtain ⟨ad366, e366, hx366_0⟩ := Kd.at_int HR1.out (ji9) p366 q366
             obtain rfl : ad362 = ad366 := (by injection e366)
             replace hx366_0 := (HB.out.cell (World.block_lt_of_cell? w _ hx366_0)).trans hx366_0
             replace p366 := eq_true p366
             replace q366 := eq_true q366
             have p367 : 0 ≤ ((rd l1 (ji9)) : Int) := of_decide_eq_true (by first | (with_reducible assumption) | assumption)
             have q367 : (rd l1 (ji9)) < (l0_0.length : Int) := of_decide_eq_true (by first | (with_reducible assumption) | assumption)
             obtain ⟨ad367, A367_0, c367_0, e367, hx367_0, hx367_1, hx367_2, hx367_3, hl367_0, hi367_0⟩ := at_T50 HR0_0.out (rd l1 (ji9)) p367 q367
             obtain rfl : ad363 = ad367 := (by injection e367)
             replace hx367_0 := (HB.out.cell (World.block_lt_of_cell? w _ hx367_0)).trans hx367_0
             replace hx367_1 := (HB.out.cell (World.block_lt_of_cell? w _ hx367_1)).trans hx367_1
             replace hx367_2 := (HB.out.cell (World.block_lt_of_cell? w _ hx367_2)).trans hx367_2
             replace hx367_3 := (HB.out.cell (World.block_lt_of_cell? w _ hx367_3)).trans hx367_3
             have HR367_0 := Aside0.mk hi367_0
             have HC367_0 := Aside0.mk hl367_0
             clear hi367_0 hl367_0
             replace p367 := eq_true p367
             replace q367 := eq_true q367
             go_wp2
             repeat (go_quiet (fail); try go_wp2)
             go_roundg k1
             case measure => have := HK1.out; omega
             case rel => exact ⟨(wrap64 ((wrap64 (x5_1 + ((rd_T50 l0_0 (rd l1 x6_1)).f3))) + a0_1)), (wrap64 (x6_1 + 1)), (by first | rfl | (simp; done) | (simp [*]; done)), (by first | rfl | (simp; done) | (simp [*]; done)), H', ⟨by have := HK1.out; omega⟩, ⟨by (with_reducible repeat (first | refine blk_drewN ?_ _ | refine blk_drew ?_ | refine blk_alloc ?_ _)); exact BK361.out⟩, ⟨by repeat (first | (with_reducible first | exact HB.out | apply below_alloc | apply pw_below_drewN | apply below_drew1 | refine below_set ?_ GE361.out) | exact HB.out)⟩⟩
           ·
            rw [if_neg c13] at H
            exact absurd H (by simp)
          ·
           rw [if_neg c12] at H
           exact absurd H (by simp)
         ·
          rw [if_neg c11] at H
          exact absurd H (by simp)
        ·
         rw [if_neg c10] at H
         exact absurd H (by simp)
       ·
        rw [if_neg c8] at H
        have c8b0 : decide (0 < x6_1) = false := decide_eq_false c8
        clear c8
        have H' := Aside0.mk H
        clear H
        have hcz17_0 : wr.cell? ⟨gb361, 0, none⟩ = some (.slice A0_0 l0_0.length c0_0) := (blk_cell BK361.out 0).trans rfl
        have hcz17_1 : wr.cell? ⟨gb361, 1, none⟩ = some (.int .i64 a0_1) := (blk_cell BK361.out 1).trans rfl
        have hcz17_2 : wr.cell? ⟨gb361, 2, none⟩ = some (.slice A0_2 l0_2.length c0_2) := (blk_cell BK361.out 2).trans rfl
        have hcz17_3 : wr.cell? ⟨gb361, 3, none⟩ = some (.int .i64 a0_3) := (blk_cell BK361.out 3).trans rfl
        have hcz17_4 : wr.cell? ⟨gb361, 4, none⟩ = some (.slice A0_4 l0_4.length c0_4) := (blk_cell BK361.out 4).trans rfl
        have hfz17_0 := blk_frozen BK361.out 0
        have hfz17_1 := blk_frozen BK361.out 1
        have hfz17_2 := blk_frozen BK361.out 2
        have hfz17_3 := blk_frozen BK361.out 3
        have hfz17_4 := blk_frozen BK361.out 4
        have p362 : 0 ≤ (x6_1 : Int) := of_decide_eq_true (by first | (with_reducible assumption) | assumption)
        have q362 : x6_1 < (l1.length : Int) := of_decide_eq_true (by first | (with_reducible assumption) | assumption)
        obtain ⟨ad362, e362, hx362_0⟩ := Kd.at_int HR1.out x6_1 p362 q362
        cases e362
        replace hx362_0 := (HB.out.cell (World.block_lt_of_cell? w _ hx362_0)).trans hx362_0
        replace p362 := eq_true p362
        replace q362 := eq_true q362
        have p363 : 0 ≤ ((rd l1 x6_1) : Int) := of_decide_eq_true (by first | (with_reducible assumption) | assumption)
        have q363 : (rd l1 x6_1) < (l0_0.length : Int) := of_decide_eq_true (by first | (with_reducible assumption) | assumption)
        obtain ⟨ad363, A363_0, c363_0, e363, hx363_0, hx363_1, hx363_2, hx363_3, hl363_0, hi363_0⟩ := at_T50 HR0_0.out (rd l1 x6_1) p363 q363
        cases e363
        replace hx363_0 := (HB.out.cell (World.block_lt_of_cell? w _ hx363_0)).trans hx363_0
        replace hx363_1 := (HB.out.cell (World.block_lt_of_cell? w _ hx363_1)).trans hx363_1
        replace hx363_2 := (HB.out.cell (World.block_lt_of_cell? w _ hx363_2)).trans hx363_2
        replace hx363_3 := (HB.out.cell (World.block_lt_of_cell? w _ hx363_3)).trans hx363_3
        have HR363_0 := Aside0.mk hi363_0
        have HC363_0 := Aside0.mk hl363_0
        clear hi363_0 hl363_0
        replace p363 := eq_true p363
        replace q363 := eq_true q363
        go_wp2
        repeat (go_quiet (fail); try go_wp2)
        go_roundg k1
        case measure => have := HK1.out; omega
        case rel => exact ⟨(wrap64 (x5_1 + ((rd_T50 l0_0 (rd l1 x6_1)).f3))), (wrap64 (x6_1 + 1)), (by first | rfl | (simp; done) | (simp [*]; done)), (by first | rfl | (simp; done) | (simp [*]; done)), H', ⟨by have := HK1.out; omega⟩, ⟨by (with_reducible repeat (first | refine blk_drewN ?_ _ | refine blk_drew ?_ | refine blk_alloc ?_ _)); exact BK361.out⟩, ⟨by repeat (first | (with_reducible first | exact HB.out | apply below_alloc | apply pw_below_drewN | apply below_drew1 | refine below_set ?_ GE361.out) | exact HB.out)⟩⟩
      ·
       rw [if_neg c7] at H
       exact absurd H (by simp)
     ·
      rw [if_neg c6] at H
      exact absurd H (by simp)
    ·
     rw [if_neg c5] at H
     exact absurd H (by simp)
   ·
    rw [if_neg c4] at H
    have c4b0 : decide (x6_1 < (l1.length : Int)) = false := decide_eq_false c4
    clear c4
    obtain rfl := Option.some.inj H
    go_wp2
    go_ret
    exact ⟨by first | rfl | (simp [errW_none, errW_some] <;> rfl) | (simp [*, errW_none, errW_some] <;> rfl), by repeat (first | (with_reducible first | exact HB.out | apply below_alloc | apply pw_below_drewN | apply below_drew1 | refine below_set ?_ GE361.out) | exact HB.out)⟩
end Go.Proofs.Ytkkmfcdikkiodaa.PC4
namespace Go.Proofs.Ytkkmfcdikkiodaa.PC4
open Go.RowKit Go.Proofs.YtkkmfcdikkiodaaW.PrintWords Go.Proofs.YtkkmfcdikkiodaaW.PrintLast Go.Proofs.YtkkmfcdikkiodaaW.PrintMore
attribute [local go_sem] max2_int min2_int max_two min_two max_three min_three max_four min_four
set_option linter.unusedVariables false
set_option linter.unusedSimpArgs false
def swarflaw04_kept.l0 : Nat → List Int → List Int → Int → List (S50) → Int → List (S61) → Int → List Int → Option (List Int)
 | 0, _, _, _, _, _, _, _, _ => none
 | k + 1, x1, x5, x6, x369000, x369001, x369002, x369003, x369004 => if x6 < (x1.length : Int) then (if 0 ≤ x6 then (if (rd x1 x6) ≥ 0 then (if (rd x1 x6) < (x369000.length : Int) then (if x5.length < 17592186044416 then (swarflaw04_kept.l0 k x1 (x5 ++ [rd x1 x6]) (wrap64 (x6 + 1)) x369000 x369001 x369002 x369003 x369004) else (none)) else (swarflaw04_kept.l0 k x1 x5 (wrap64 (x6 + 1)) x369000 x369001 x369002 x369003 x369004)) else (swarflaw04_kept.l0 k x1 x5 (wrap64 (x6 + 1)) x369000 x369001 x369002 x369003 x369004)) else (none)) else (some x5)
def swarflaw04_kept.f (k : Nat) (l0_0 : List (S50)) (a0_1 : Int) (l0_2 : List (S61)) (a0_3 : Int) (l0_4 : List Int) (l1 : List Int) : Option (List Int) := swarflaw04_kept.l0 k l1 ([] : List Int) 0 l0_0 a0_1 l0_2 a0_3 l0_4
theorem swarflaw04_kept.mono_l : ∀ k, (∀ y0 y1 y2 y3 y4 y5 y6 y7, LeO (swarflaw04_kept.l0 k y0 y1 y2 y3 y4 y5 y6 y7) (swarflaw04_kept.l0 (k + 1) y0 y1 y2 y3 y4 y5 y6 y7))
 | 0 => fun _ _ _ _ _ _ _ _ r h => by simp [swarflaw04_kept.l0] at h
 | k + 1 => by
  have ih0 := swarflaw04_kept.mono_l k
  ·
   intro y0 y1 y2 y3 y4 y5 y6 y7
   unfold swarflaw04_kept.l0
   repeat' first
   | (with_reducible exact ih0 _ _ _ _ _ _ _ _)
   | (with_reducible exact LeO.refl _)
   | (with_reducible exact LeO.none _)
   | (with_reducible refine LeO.ite ?_ ?_)
   | (with_reducible refine LeO.bind ?_ (fun _ => ?_))
   | exact ih0 _ _ _ _ _ _ _ _
   | exact LeO.none _
   | refine LeO.ite ?_ ?_
   | refine LeO.bind ?_ (fun _ => ?_)
theorem swarflaw04_kept.mono : ∀ a0 a1 a2 a3 a4 a5 k, LeO (swarflaw04_kept.f k a0 a1 a2 a3 a4 a5) (swarflaw04_kept.f (k + 1) a0 a1 a2 a3 a4 a5) := by
 intro a0 a1 a2 a3 a4 a5 k
 have ih0 := swarflaw04_kept.mono_l k
 unfold swarflaw04_kept.f
 repeat' first
   | (with_reducible exact ih0 _ _ _ _ _ _ _ _)
   | (with_reducible exact LeO.refl _)
   | (with_reducible exact LeO.none _)
   | (with_reducible refine LeO.ite ?_ ?_)
   | (with_reducible refine LeO.bind ?_ (fun _ => ?_))
   | exact ih0 _ _ _ _ _ _ _ _
   | exact LeO.none _
   | refine LeO.ite ?_ ?_
   | refine LeO.bind ?_ (fun _ => ?_)
set_option maxHeartbeats 8000000 in
set_option maxRecDepth 100000 in
theorem swarflaw04_kept.calls (k : Nat) (A0_0 : Option Addr) (c0_0 : Nat) (l0_0 : List (S50)) (a0_1 : Int) (A0_2 : Option Addr) (c0_2 : Nat) (l0_2 : List (S61)) (a0_3 : Int) (A0_4 : Option Addr) (c0_4 : Nat) (l0_4 : List Int) (A1 : Option Addr) (c1 : Nat) (l1 : List Int) (r : List Int) (w : World) (hr0_0 : Kd.C k50 w A0_0 l0_0.length l0_0) (hc0_0 : l0_0.length ≤ c0_0) (hr0_2 : Kd.C k61 w A0_2 l0_2.length l0_2) (hc0_2 : l0_2.length ≤ c0_2) (hr0_4 : Kd.C (Kd.int .i64) w A0_4 l0_4.length l0_4) (hc0_4 : l0_4.length ≤ c0_4) (hr1 : Kd.C (Kd.int .i64) w A1 l1.length l1) (hc1 : l1.length ≤ c1) (h : swarflaw04_kept.f k l0_0 a0_1 l0_2 a0_3 l0_4 l1 = some r) :
  Calls Try.prog 32 #[.agg #[.slice A0_0 l0_0.length c0_0, .int .i64 a0_1, .slice A0_2 l0_2.length c0_2, .int .i64 a0_3, .slice A0_4 l0_4.length c0_4], .slice A1 l1.length c1] w fun e w' => ∃ v0_ : Value, e = .returned (v0_) ∧ Kd.R (Kd.int .i64) 3 w' w.heap.size (fun _ => True) v0_ r ∧ Below w.heap.size w w' := by
 have hu26 := Try.underlying26
 have HR0_0 := Aside0.mk hr0_0
 have HC0_0 := Aside0.mk hc0_0
 clear hr0_0 hc0_0
 have HR0_2 := Aside0.mk hr0_2
 have HC0_2 := Aside0.mk hc0_2
 clear hr0_2 hc0_2
 have HR0_4 := Aside0.mk hr0_4
 have HC0_4 := Aside0.mk hc0_4
 clear hr0_4 hc0_4
 have HR1 := Aside0.mk hr1
 have HC1 := Aside0.mk hc1
 clear hr1 hc1
 have HB := Aside0.mk (Below.refl w.heap.size w)
 have H : (swarflaw04_kept.l0 k l1 ([] : List Int) 0 l0_0 a0_1 l0_2 a0_3 l0_4) = some r := h
 clear h
 have H' := Aside0.mk H
 clear H
 go_enter Try.func32, Try.ntmps32
 go_wp2_with (first | ((with_reducible refine gate_dst (N := 2) rfl ?_); (try (refine gate_guard (by rfl) ?_; dsimp only)); refine box_event ?hg (N := 2) ?hd (cs := #[.slice A0_0 l0_0.length c0_0, .int .i64 a0_1, .slice A0_2 l0_2.length c0_2, .int .i64 a0_3, .slice A0_4 l0_4.length c0_4]) (t := 26) ?hr ?_; (case hd => rfl); (case hg => rfl); (case hr => first | (go_simp; done) | (go_simp; rfl)); intro gb368 hg w3 hbox hb; have n0_ := Aside0.mk (below_step (below_x HB.out) hb); have n1_ := Aside0.mk (hbox); have n2_ := Aside0.mk ((by rw [hg]; exact (below_size (below_x HB.out)) : w.heap.size ≤ gb368)); have n3_ := Aside0.mk ((by rw [hg]; exact (below_size (below_x HB.out)) : w.heap.size ≤ gb368)); clear HB; have HB := n0_; have BK368 := n1_; have GW368 := n2_; have GE368 := n3_; clear n0_ n1_ n2_ n3_; clear hb hbox hg))
 repeat (go_quiet (first | ((with_reducible refine gate_dst (N := 2) rfl ?_); (try (refine gate_guard (by rfl) ?_; dsimp only)); refine box_event ?hg (N := 2) ?hd (cs := #[.slice A0_0 l0_0.length c0_0, .int .i64 a0_1, .slice A0_2 l0_2.length c0_2, .int .i64 a0_3, .slice A0_4 l0_4.length c0_4]) (t := 26) ?hr ?_; (case hd => rfl); (case hg => rfl); (case hr => first | (go_simp; done) | (go_simp; rfl)); intro gb368 hg w3 hbox hb; have n0_ := Aside0.mk (below_step (below_x HB.out) hb); have n1_ := Aside0.mk (hbox); have n2_ := Aside0.mk ((by rw [hg]; exact (below_size (below_x HB.out)) : w.heap.size ≤ gb368)); have n3_ := Aside0.mk ((by rw [hg]; exact (below_size (below_x HB.out)) : w.heap.size ≤ gb368)); clear HB; have HB := n0_; have BK368 := n1_; have GW368 := n2_; have GE368 := n3_; clear n0_ n1_ n2_ n3_; clear hb hbox hg)); try go_wp2_with (first | ((with_reducible refine gate_dst (N := 2) rfl ?_); (try (refine gate_guard (by rfl) ?_; dsimp only)); refine box_event ?hg (N := 2) ?hd (cs := #[.slice A0_0 l0_0.length c0_0, .int .i64 a0_1, .slice A0_2 l0_2.length c0_2, .int .i64 a0_3, .slice A0_4 l0_4.length c0_4]) (t := 26) ?hr ?_; (case hd => rfl); (case hg => rfl); (case hr => first | (go_simp; done) | (go_simp; rfl)); intro gb368 hg w3 hbox hb; have n0_ := Aside0.mk (below_step (below_x HB.out) hb); have n1_ := Aside0.mk (hbox); have n2_ := Aside0.mk ((by rw [hg]; exact (below_size (below_x HB.out)) : w.heap.size ≤ gb368)); have n3_ := Aside0.mk ((by rw [hg]; exact (below_size (below_x HB.out)) : w.heap.size ≤ gb368)); clear HB; have HB := n0_; have BK368 := n1_; have GW368 := n2_; have GE368 := n3_; clear n0_ n1_ n2_ n3_; clear hb hbox hg)))
 go_loopg [5, 6] k (fun kq v5 v6 w' => ∃ (x5_1 : List Int) (x6_1 : Int), v6 = .int .i64 x6_1 ∧ Aside0 (swarflaw04_kept.l0 kq l1 x5_1 x6_1 l0_0 a0_1 l0_2 a0_3 l0_4 = some r) ∧ Aside0 (kq ≤ k) ∧ Aside0 (Kd.R (Kd.int .i64) 3 w' w.heap.size (fun _ => True) v5 x5_1) ∧ Aside0 (w'.heap[gb368]? = some (.cells #[(.slice A0_0 l0_0.length c0_0), .int .i64 a0_1, (.slice A0_2 l0_2.length c0_2), .int .i64 a0_3, (.slice A0_4 l0_4.length c0_4)] 26 (0, 0))) ∧ Aside0 (Below w.heap.size w w'))
 case atStart => exact ⟨(([] : List Int)), (0), (by first | rfl | (simp; done) | (simp [*]; done)), H', ⟨Nat.le_refl _⟩, ⟨by first | exact Kd.R_nil _ _ _ _ _ | exact Kd.N_nil _ _ _ _ _ | exact Kd.V_nil _ _ _ _ _ | exact Kd.Q_nil _ _ _ _ _ | exact Kd.S_nil _ _ _ _ _⟩, ⟨by (with_reducible repeat (first | refine blk_drewN ?_ _ | refine blk_drew ?_ | refine blk_alloc ?_ _)); exact BK368.out⟩, ⟨by repeat (first | (with_reducible first | exact HB.out | apply below_alloc | apply pw_below_drewN | apply below_drew1 | refine below_set ?_ GE368.out) | exact HB.out)⟩⟩
 case round =>
  clear H'
  try clear c1
  try clear p2
  try clear c3
  obtain ⟨x5_1, x6_1, rfl, HA, HK1, HO_5, BK368, HB⟩ := hrel
  cases gk with
  | zero => exact absurd HA.out (by simp [swarflaw04_kept.l0])
  | succ k1 =>
   have H := HA.out
   clear HA
   simp only [swarflaw04_kept.l0] at H
   by_cases c4 : x6_1 < (l1.length : Int)
   ·
    rw [if_pos c4] at H
    have c4b0 : decide (x6_1 < (l1.length : Int)) = true := decide_eq_true c4
    clear c4
    by_cases c5 : 0 ≤ x6_1
    ·
     rw [if_pos c5] at H
     have c5b0 : decide (0 ≤ x6_1) = true := decide_eq_true c5
     clear c5
     by_cases c6 : (rd l1 x6_1) ≥ 0
     ·
      rw [if_pos c6] at H
      have c6b0 : decide (0 ≤ (rd l1 x6_1)) = true := decide_eq_true c6
      clear c6
      by_cases c7 : (rd l1 x6_1) < (l0_0.length : Int)
      ·
       rw [if_pos c7] at H
       have c7b0 : decide ((rd l1 x6_1) < (l0_0.length : Int)) = true := decide_eq_true c7
       clear c7
       by_cases c8 : x5_1.length < 17592186044416
       ·
        rw [if_pos c8] at H
        have LMc8 := Aside0.mk c8
        clear c8
        obtain ⟨y372, hy372⟩ : ∃ y_ : List Int, y_ = (x5_1 ++ [rd l1 x6_1]) := ⟨_, rfl⟩
        replace H : (swarflaw04_kept.l0 k1 l1 y372 (wrap64 (x6_1 + 1)) l0_0 a0_1 l0_2 a0_3 l0_4) = some r := by first | (rw [hy372]; with_reducible exact H) | (have H2_ := (Option.bind_some _ _).symm.trans H; rw [hy372]; with_reducible exact H2_) | (have H2_ := (Option.bind_some _ _).symm.trans H; with_reducible exact H2_) | with_reducible exact H | (rw [hy372]; exact H) | exact H
        have Ny372 := Aside0.mk hy372
        clear hy372
        have H' := Aside0.mk H
        clear H
        have p369 : 0 ≤ (x6_1 : Int) := of_decide_eq_true (by first | (with_reducible assumption) | assumption)
        have q369 : x6_1 < (l1.length : Int) := of_decide_eq_true (by first | (with_reducible assumption) | assumption)
        obtain ⟨ad369, e369, hx369_0⟩ := Kd.at_int HR1.out x6_1 p369 q369
        cases e369
        replace hx369_0 := (HB.out.cell (World.block_lt_of_cell? w _ hx369_0)).trans hx369_0
        replace p369 := eq_true p369
        replace q369 := eq_true q369
        have p370 : 0 ≤ (x6_1 : Int) := of_decide_eq_true (by first | (with_reducible assumption) | assumption)
        have q370 : x6_1 < (l1.length : Int) := of_decide_eq_true (by first | (with_reducible assumption) | assumption)
        obtain ⟨ad370, e370, hx370_0⟩ := Kd.at_int HR1.out x6_1 p370 q370
        obtain rfl : ad369 = ad370 := (by injection e370)
        replace hx370_0 := (HB.out.cell (World.block_lt_of_cell? w _ hx370_0)).trans hx370_0
        replace p370 := eq_true p370
        replace q370 := eq_true q370
        have hcz9_0 : wr.cell? ⟨gb368, 0, none⟩ = some (.slice A0_0 l0_0.length c0_0) := (blk_cell BK368.out 0).trans rfl
        have hcz9_1 : wr.cell? ⟨gb368, 1, none⟩ = some (.int .i64 a0_1) := (blk_cell BK368.out 1).trans rfl
        have hcz9_2 : wr.cell? ⟨gb368, 2, none⟩ = some (.slice A0_2 l0_2.length c0_2) := (blk_cell BK368.out 2).trans rfl
        have hcz9_3 : wr.cell? ⟨gb368, 3, none⟩ = some (.int .i64 a0_3) := (blk_cell BK368.out 3).trans rfl
        have hcz9_4 : wr.cell? ⟨gb368, 4, none⟩ = some (.slice A0_4 l0_4.length c0_4) := (blk_cell BK368.out 4).trans rfl
        have hfz9_0 := blk_frozen BK368.out 0
        have hfz9_1 := blk_frozen BK368.out 1
        have hfz9_2 := blk_frozen BK368.out 2
        have hfz9_3 := blk_frozen BK368.out 3
        have hfz9_4 := blk_frozen BK368.out 4
        have p371 : 0 ≤ (x6_1 : Int) := of_decide_eq_true (by first | (with_reducible assumption) | assumption)
        have q371 : x6_1 < (l1.length : Int) := of_decide_eq_true (by first | (with_reducible assumption) | assumption)
        obtain ⟨ad371, e371, hx371_0⟩ := Kd.at_int HR1.out x6_1 p371 q371
        obtain rfl : ad369 = ad371 := (by injection e371)
        replace hx371_0 := (HB.out.cell (World.block_lt_of_cell? w _ hx371_0)).trans hx371_0
        replace p371 := eq_true p371
        replace q371 := eq_true q371
        go_wp2_with (first | ((with_reducible refine gate_builtin (b := .append) (xs := #[.tmp 28, .tmp 33]) rfl ?_); (try (refine gate_guard (by rfl) ?_; dsimp only)); at_builtin; refine Kd.R_append (Kd.int .i64) (w0 := w) w.heap.size rfl (.tmp 28) (.tmp 33) 24 3 (.int .i64 0) 8 rfl Try.underlying24 info3 rfl (by decide) (by omega) u5 x5_1 (rd l1 x6_1) [.int .i64 (rd l1 x6_1)] (fun _ => True) (fun _ => False) rfl rfl ?aP (fun _ hk => hk.elim) ?aF ?aO ?aB ?aS ?aL ?_; (case aP => exact rfl); (case aB => exact (by repeat (first | (with_reducible first | exact HB.out | apply below_alloc | apply pw_below_drewN | apply below_drew1 | refine below_set ?_ GE368.out) | exact HB.out))); (case aF => exact (fun _ _ => trivial)); (case aO => exact (Kd.R_x HO_5.out)); (case aS => exact (below_size (by repeat (first | (with_reducible first | exact HB.out | apply below_alloc | apply pw_below_drewN | apply below_drew1 | refine below_set ?_ GE368.out) | exact HB.out)))); (case aL => have := LMc8.out; omega); intro v373 w10 ho hb hg hat; rw [← Ny372.out] at ho; have n0_ := Aside0.mk (blk_grown (g := gb368) (o := .cells #[.slice A0_0 l0_0.length c0_0, .int .i64 a0_1, .slice A0_2 l0_2.length c0_2, .int .i64 a0_3, .slice A0_4 l0_4.length c0_4] 26 (0, 0)) (blk_x BK368.out) hg (Kd.R_ne HO_5.out BK368.out (by decide))); have n1_ := Aside0.mk (hb); have n2_ := Aside0.mk (ho); clear BK368; clear HB; clear HO_5; have BK368 := n0_; have HB := n1_; have HO374 := n2_; clear n0_ n1_ n2_; clear ho hb hg hat))
        repeat (go_quiet (first | ((with_reducible refine gate_builtin (b := .append) (xs := #[.tmp 28, .tmp 33]) rfl ?_); (try (refine gate_guard (by rfl) ?_; dsimp only)); at_builtin; refine Kd.R_append (Kd.int .i64) (w0 := w) w.heap.size rfl (.tmp 28) (.tmp 33) 24 3 (.int .i64 0) 8 rfl Try.underlying24 info3 rfl (by decide) (by omega) u5 x5_1 (rd l1 x6_1) [.int .i64 (rd l1 x6_1)] (fun _ => True) (fun _ => False) rfl rfl ?aP (fun _ hk => hk.elim) ?aF ?aO ?aB ?aS ?aL ?_; (case aP => exact rfl); (case aB => exact (by repeat (first | (with_reducible first | exact HB.out | apply below_alloc | apply pw_below_drewN | apply below_drew1 | refine below_set ?_ GE368.out) | exact HB.out))); (case aF => exact (fun _ _ => trivial)); (case aO => exact (Kd.R_x HO_5.out)); (case aS => exact (below_size (by repeat (first | (with_reducible first | exact HB.out | apply below_alloc | apply pw_below_drewN | apply below_drew1 | refine below_set ?_ GE368.out) | exact HB.out)))); (case aL => have := LMc8.out; omega); intro v373 w10 ho hb hg hat; rw [← Ny372.out] at ho; have n0_ := Aside0.mk (blk_grown (g := gb368) (o := .cells #[.slice A0_0 l0_0.length c0_0, .int .i64 a0_1, .slice A0_2 l0_2.length c0_2, .int .i64 a0_3, .slice A0_4 l0_4.length c0_4] 26 (0, 0)) (blk_x BK368.out) hg (Kd.R_ne HO_5.out BK368.out (by decide))); have n1_ := Aside0.mk (hb); have n2_ := Aside0.mk (ho); clear BK368; clear HB; clear HO_5; have BK368 := n0_; have HB := n1_; have HO374 := n2_; clear n0_ n1_ n2_; clear ho hb hg hat)); try go_wp2_with (first | ((with_reducible refine gate_builtin (b := .append) (xs := #[.tmp 28, .tmp 33]) rfl ?_); (try (refine gate_guard (by rfl) ?_; dsimp only)); at_builtin; refine Kd.R_append (Kd.int .i64) (w0 := w) w.heap.size rfl (.tmp 28) (.tmp 33) 24 3 (.int .i64 0) 8 rfl Try.underlying24 info3 rfl (by decide) (by omega) u5 x5_1 (rd l1 x6_1) [.int .i64 (rd l1 x6_1)] (fun _ => True) (fun _ => False) rfl rfl ?aP (fun _ hk => hk.elim) ?aF ?aO ?aB ?aS ?aL ?_; (case aP => exact rfl); (case aB => exact (by repeat (first | (with_reducible first | exact HB.out | apply below_alloc | apply pw_below_drewN | apply below_drew1 | refine below_set ?_ GE368.out) | exact HB.out))); (case aF => exact (fun _ _ => trivial)); (case aO => exact (Kd.R_x HO_5.out)); (case aS => exact (below_size (by repeat (first | (with_reducible first | exact HB.out | apply below_alloc | apply pw_below_drewN | apply below_drew1 | refine below_set ?_ GE368.out) | exact HB.out)))); (case aL => have := LMc8.out; omega); intro v373 w10 ho hb hg hat; rw [← Ny372.out] at ho; have n0_ := Aside0.mk (blk_grown (g := gb368) (o := .cells #[.slice A0_0 l0_0.length c0_0, .int .i64 a0_1, .slice A0_2 l0_2.length c0_2, .int .i64 a0_3, .slice A0_4 l0_4.length c0_4] 26 (0, 0)) (blk_x BK368.out) hg (Kd.R_ne HO_5.out BK368.out (by decide))); have n1_ := Aside0.mk (hb); have n2_ := Aside0.mk (ho); clear BK368; clear HB; clear HO_5; have BK368 := n0_; have HB := n1_; have HO374 := n2_; clear n0_ n1_ n2_; clear ho hb hg hat)))
        go_roundg k1
        case measure => have := HK1.out; omega
        case rel => exact ⟨(y372), (wrap64 (x6_1 + 1)), (by first | rfl | (simp; done) | (simp [*]; done)), H', ⟨by have := HK1.out; omega⟩, ⟨by (with_reducible repeat (first | apply Kd.R_alloc | apply Kd.R_drewN | apply Kd.R_drew)); exact HO374.out⟩, ⟨by (with_reducible repeat (first | refine blk_drewN ?_ _ | refine blk_drew ?_ | refine blk_alloc ?_ _)); exact BK368.out⟩, ⟨by repeat (first | (with_reducible first | exact HB.out | apply below_alloc | apply pw_below_drewN | apply below_drew1 | refine below_set ?_ GE368.out) | exact HB.out)⟩⟩
       ·
        rw [if_neg c8] at H
        exact absurd H (by simp)
      ·
       rw [if_neg c7] at H
       have c7b0 : decide ((rd l1 x6_1) < (l0_0.length : Int)) = false := decide_eq_false c7
       clear c7
       have H' := Aside0.mk H
       clear H
       have p369 : 0 ≤ (x6_1 : Int) := of_decide_eq_true (by first | (with_reducible assumption) | assumption)
       have q369 : x6_1 < (l1.length : Int) := of_decide_eq_true (by first | (with_reducible assumption) | assumption)
       obtain ⟨ad369, e369, hx369_0⟩ := Kd.at_int HR1.out x6_1 p369 q369
       cases e369
       replace hx369_0 := (HB.out.cell (World.block_lt_of_cell? w _ hx369_0)).trans hx369_0
       replace p369 := eq_true p369
       replace q369 := eq_true q369
       have p370 : 0 ≤ (x6_1 : Int) := of_decide_eq_true (by first | (with_reducible assumption) | assumption)
       have q370 : x6_1 < (l1.length : Int) := of_decide_eq_true (by first | (with_reducible assumption) | assumption)
       obtain ⟨ad370, e370, hx370_0⟩ := Kd.at_int HR1.out x6_1 p370 q370
       obtain rfl : ad369 = ad370 := (by injection e370)
       replace hx370_0 := (HB.out.cell (World.block_lt_of_cell? w _ hx370_0)).trans hx370_0
       replace p370 := eq_true p370
       replace q370 := eq_true q370
       have hcz11_0 : wr.cell? ⟨gb368, 0, none⟩ = some (.slice A0_0 l0_0.length c0_0) := (blk_cell BK368.out 0).trans rfl
       have hcz11_1 : wr.cell? ⟨gb368, 1, none⟩ = some (.int .i64 a0_1) := (blk_cell BK368.out 1).trans rfl
       have hcz11_2 : wr.cell? ⟨gb368, 2, none⟩ = some (.slice A0_2 l0_2.length c0_2) := (blk_cell BK368.out 2).trans rfl
       have hcz11_3 : wr.cell? ⟨gb368, 3, none⟩ = some (.int .i64 a0_3) := (blk_cell BK368.out 3).trans rfl
       have hcz11_4 : wr.cell? ⟨gb368, 4, none⟩ = some (.slice A0_4 l0_4.length c0_4) := (blk_cell BK368.out 4).trans rfl
       have hfz11_0 := blk_frozen BK368.out 0
       have hfz11_1 := blk_frozen BK368.out 1
       have hfz11_2 := blk_frozen BK368.out 2
       have hfz11_3 := blk_frozen BK368.out 3
       have hfz11_4 := blk_frozen BK368.out 4
       go_wp2
       repeat (go_quiet (fail); try go_wp2)
       go_roundg k1
       case measure => have := HK1.out; omega
       case rel => exact ⟨(x5_1), (wrap64 (x6_1 + 1)), (by first | rfl | (simp; done) | (simp [*]; done)), H', ⟨by have := HK1.out; omega⟩, ⟨by (with_reducible repeat (first | apply Kd.R_alloc | apply Kd.R_drewN | apply Kd.R_drew)); exact HO_5.out⟩, ⟨by (with_reducible repeat (first | refine blk_drewN ?_ _ | refine blk_drew ?_ | refine blk_alloc ?_ _)); exact BK368.out⟩, ⟨by repeat (first | (with_reducible first | exact HB.out | apply below_alloc | apply pw_below_drewN | apply below_drew1 | refine below_set ?_ GE368.out) | exact HB.out)⟩⟩
     ·
      rw [if_neg c6] at H
      have c6b0 : decide (0 ≤ (rd l1 x6_1)) = false := decide_eq_false c6
      clear c6
      have H' := Aside0.mk H
      clear H
      have p369 : 0 ≤ (x6_1 : Int) := of_decide_eq_true (by first | (with_reducible assumption) | assumption)
      have q369 : x6_1 < (l1.length : Int) := of_decide_eq_true (by first | (with_reducible assumption) | assumption)
      obtain ⟨ad369, e369, hx369_0⟩ := Kd.at_int HR1.out x6_1 p369 q369
      cases e369
      replace hx369_0 := (HB.out.cell (World.block_lt_of_cell? w _ hx369_0)).trans hx369_0
      replace p369 := eq_true p369
      replace q369 := eq_true q369
      go_wp2
      repeat (go_quiet (fail); try go_wp2)
      go_roundg k1
      case measure => have := HK1.out; omega
      case rel => exact ⟨(x5_1), (wrap64 (x6_1 + 1)), (by first | rfl | (simp; done) | (simp [*]; done)), H', ⟨by have := HK1.out; omega⟩, ⟨by (with_reducible repeat (first | apply Kd.R_alloc | apply Kd.R_drewN | apply Kd.R_drew)); exact HO_5.out⟩, ⟨by (with_reducible repeat (first | refine blk_drewN ?_ _ | refine blk_drew ?_ | refine blk_alloc ?_ _)); exact BK368.out⟩, ⟨by repeat (first | (with_reducible first | exact HB.out | apply below_alloc | apply pw_below_drewN | apply below_drew1 | refine below_set ?_ GE368.out) | exact HB.out)⟩⟩
    ·
     rw [if_neg c5] at H
     exact absurd H (by simp)
   ·
    rw [if_neg c4] at H
    have c4b0 : decide (x6_1 < (l1.length : Int)) = false := decide_eq_false c4
    clear c4
    obtain rfl := Option.some.inj H
    go_wp2
    repeat (go_quiet (fail); try go_wp2)
    go_ret
    exact ⟨_, by first | rfl | (simp [errW_none, errW_some] <;> rfl) | (simp [*, errW_none, errW_some] <;> rfl), by (with_reducible repeat (first | apply Kd.R_alloc | apply Kd.R_drewN | apply Kd.R_drew)); exact HO_5.out, by repeat (first | (with_reducible first | exact HB.out | apply below_alloc | apply pw_below_drewN | apply below_drew1 | refine below_set ?_ GE368.out) | exact HB.out)⟩
end Go.Proofs.Ytkkmfcdikkiodaa.PC4
namespace Go.Proofs.Ytkkmfcdikkiodaa.PC4
open Go.RowKit Go.Proofs.YtkkmfcdikkiodaaW.PrintWords Go.Proofs.YtkkmfcdikkiodaaW.PrintLast Go.Proofs.YtkkmfcdikkiodaaW.PrintMore
attribute [local go_sem] max2_int min2_int max_two min_two max_three min_three max_four min_four
set_option linter.unusedVariables false
set_option linter.unusedSimpArgs false
def swarfref04_has.l0 : Nat → List Int → Int → Int → Option (Bool)
 | 0, _, _, _ => none
 | k + 1, x0, x1, x5 => if x5 < (x0.length : Int) then (if 0 ≤ x5 then (if (rd x0 x5) = x1 then (some true) else (swarfref04_has.l0 k x0 x1 (wrap64 (x5 + 1)))) else (none)) else (some false)
def swarfref04_has.f (k : Nat) (l0 : List Int) (a1 : Int) : Option (Bool) := swarfref04_has.l0 k l0 a1 0
theorem swarfref04_has.mono_l : ∀ k, (∀ y0 y1 y2, LeO (swarfref04_has.l0 k y0 y1 y2) (swarfref04_has.l0 (k + 1) y0 y1 y2))
 | 0 => fun _ _ _ r h => by simp [swarfref04_has.l0] at h
 | k + 1 => by
  have ih0 := swarfref04_has.mono_l k
  ·
   intro y0 y1 y2
   unfold swarfref04_has.l0
   repeat' first
   | (with_reducible exact ih0 _ _ _)
   | (with_reducible exact LeO.refl _)
   | (with_reducible exact LeO.none _)
   | (with_reducible refine LeO.ite ?_ ?_)
   | (with_reducible refine LeO.bind ?_ (fun _ => ?_))
   | exact ih0 _ _ _
   | exact LeO.none _
   | refine LeO.ite ?_ ?_
   | refine LeO.bind ?_ (fun _ => ?_)
theorem swarfref04_has.mono : ∀ a0 a1 k, LeO (swarfref04_has.f k a0 a1) (swarfref04_has.f (k + 1) a0 a1) := by
 intro a0 a1 k
 have ih0 := swarfref04_has.mono_l k
 unfold swarfref04_has.f
 repeat' first
   | (with_reducible exact ih0 _ _ _)
   | (with_reducible exact LeO.refl _)
   | (with_reducible exact LeO.none _)
   | (with_reducible refine LeO.ite ?_ ?_)
   | (with_reducible refine LeO.bind ?_ (fun _ => ?_))
   | exact ih0 _ _ _
   | exact LeO.none _
   | refine LeO.ite ?_ ?_
   | refine LeO.bind ?_ (fun _ => ?_)
set_option maxHeartbeats 8000000 in
set_option maxRecDepth 100000 in
theorem swarfref04_has.calls (k : Nat) (A0 : Option Addr) (c0 : Nat) (l0 : List Int) (a1 : Int) (r : Bool) (w : World) (hr0 : Kd.C (Kd.int .i64) w A0 l0.length l0) (hc0 : l0.length ≤ c0) (h : swarfref04_has.f k l0 a1 = some r) :
  Calls Try.prog 67 #[.slice A0 l0.length c0, .int .i64 a1] w fun e w' => e = .returned (.bool r) ∧ Drawn0 w w' := by
 have HR0 := Aside0.mk hr0
 have HC0 := Aside0.mk hc0
 clear hr0 hc0
 have H : (swarfref04_has.l0 k l0 a1 0) = some r := h
 clear h
 have H' := Aside0.mk H
 clear H
 go_enter Try.func67, Try.ntmps67
 go_wp2
 go_loopg [5] k (fun kq v5 w' => ∃ (x5_1 : Int), v5 = .int .i64 x5_1 ∧ Aside0 (swarfref04_has.l0 kq l0 a1 x5_1 = some r) ∧ Aside0 (kq ≤ k) ∧ Drawn0 w w')
 case atStart => exact ⟨(0), (by first | rfl | (simp; done) | (simp [*]; done)), H', ⟨Nat.le_refl _⟩, by repeat (first | exact Drawn0.refl _ | apply Drawn0.step)⟩
 case round =>
  clear H'
  try clear p2
  obtain ⟨x5_1, rfl, HA, HK1, ⟨m1, rfl⟩⟩ := hrel
  cases gk with
  | zero => exact absurd HA.out (by simp [swarfref04_has.l0])
  | succ k1 =>
   have H := HA.out
   clear HA
   simp only [swarfref04_has.l0] at H
   by_cases c3 : x5_1 < (l0.length : Int)
   ·
    rw [if_pos c3] at H
    have c3b0 : decide (x5_1 < (l0.length : Int)) = true := decide_eq_true c3
    clear c3
    by_cases c4 : 0 ≤ x5_1
    ·
     rw [if_pos c4] at H
     have c4b0 : decide (0 ≤ x5_1) = true := decide_eq_true c4
     clear c4
     by_cases c5 : (rd l0 x5_1) = a1
     ·
      rw [if_pos c5] at H
      have c5b0 : ((rd l0 x5_1) == a1) = true := beq_iff_eq.mpr c5
      have c5b1 : ((rd l0 x5_1) != a1) = false := bne_eq_false_iff_eq.mpr c5
      clear c5
      obtain rfl := Option.some.inj H
      have p375 : 0 ≤ (x5_1 : Int) := of_decide_eq_true (by first | (with_reducible assumption) | assumption)
      have q375 : x5_1 < (l0.length : Int) := of_decide_eq_true (by first | (with_reducible assumption) | assumption)
      obtain ⟨ad375, e375, hx375_0⟩ := Kd.at_int HR0.out x5_1 p375 q375
      cases e375
      replace p375 := eq_true p375
      replace q375 := eq_true q375
      go_wp2
      go_ret
      exact ⟨by first | rfl | (simp; done) | (simp [*]; done), by repeat (first | exact Drawn0.refl _ | apply Drawn0.step)⟩
     ·
      rw [if_neg c5] at H
      have c5b0 : ((rd l0 x5_1) == a1) = false := beq_eq_false_iff_ne.mpr c5
      have c5b1 : ((rd l0 x5_1) != a1) = true := bne_iff_ne.mpr c5
      have H' := Aside0.mk H
      clear H
      have p375 : 0 ≤ (x5_1 : Int) := of_decide_eq_true (by first | (with_reducible assumption) | assumption)
      have q375 : x5_1 < (l0.length : Int) := of_decide_eq_true (by first | (with_reducible assumption) | assumption)
      obtain ⟨ad375, e375, hx375_0⟩ := Kd.at_int HR0.out x5_1 p375 q375
      cases e375
      replace p375 := eq_true p375
      replace q375 := eq_true q375
      go_wp2
      go_roundg k1
      case measure => have := HK1.out; omega
      case rel => exact ⟨(wrap64 (x5_1 + 1)), (by first | rfl | (simp; done) | (simp [*]; done)), H', ⟨by have := HK1.out; omega⟩, by repeat (first | exact Drawn0.refl _ | apply Drawn0.step)⟩
    ·
     rw [if_neg c4] at H
     exact absurd H (by simp)
   ·
    rw [if_neg c3] at H
    have c3b0 : decide (x5_1 < (l0.length : Int)) = false := decide_eq_false c3
    clear c3
    obtain rfl := Option.some.inj H
    go_wp2
    go_ret
    exact ⟨by first | rfl | (simp; done) | (simp [*]; done), by repeat (first | exact Drawn0.refl _ | apply Drawn0.step)⟩
end Go.Proofs.Ytkkmfcdikkiodaa.PC4
namespace Go.Proofs.Ytkkmfcdikkiodaa.PC4
open Go.RowKit Go.Proofs.YtkkmfcdikkiodaaW.PrintWords Go.Proofs.YtkkmfcdikkiodaaW.PrintLast Go.Proofs.YtkkmfcdikkiodaaW.PrintMore
attribute [local go_sem] max2_int min2_int max_two min_two max_three min_three max_four min_four
set_option linter.unusedVariables false
set_option linter.unusedSimpArgs false
mutual
def swarfref04_Orders.l0 : Nat → List Bool → List Int → List (List Int) → Bool → Int → List (S50) → Int → List (S61) → Int → List Int → Option ((List (List Int)))
 | 0, _, _, _, _, _, _, _, _, _, _ => none
 | k + 1, x1, x2, x7, x8, x9, x377000, x377001, x377002, x377003, x377004 => if x9 < (x1.length : Int) then (if 0 ≤ x9 then (if rdOf false x1 x9 = true then ((swarfref04_has.f k x2 x9).bind fun t381 => (swarfref04_Orders.j1 k x1 x2 x7 x8 x9 t381 x377000 x377001 x377002 x377003 x377004)) else (swarfref04_Orders.j1 k x1 x2 x7 x8 x9 true x377000 x377001 x377002 x377003 x377004)) else (none)) else (if x8 = true then (some (([x2] : List (List Int)))) else (some x7))
def swarfref04_Orders.j1 : Nat → List Bool → List Int → List (List Int) → Bool → Int → Bool → List (S50) → Int → List (S61) → Int → List Int → Option ((List (List Int)))
 | 0, _, _, _, _, _, _, _, _, _, _, _ => none
 | k + 1, x1, x2, x7, x8, x9, x28, x377000, x377001, x377002, x377003, x377004 => if x28 = true then (swarfref04_Orders.l0 k x1 x2 x7 x8 (wrap64 (x9 + 1)) x377000 x377001 x377002 x377003 x377004) else (swarfref04_Orders.l1 k x1 x2 x7 false x9 true 0 x377000 x377001 x377002 x377003 x377004)
def swarfref04_Orders.l1 : Nat → List Bool → List Int → List (List Int) → Bool → Int → Bool → Int → List (S50) → Int → List (S61) → Int → List Int → Option ((List (List Int)))
 | 0, _, _, _, _, _, _, _, _, _, _, _, _ => none
 | k + 1, x1, x2, x7, x8, x9, x10, x11, x377000, x377001, x377002, x377003, x377004 => if 0 ≤ x9 then (if x9 < (x377000.length : Int) then (if x11 < (((rd_T50 x377000 x9).f0).length : Int) then (if 0 ≤ x11 then (if x10 = true then (if 0 ≤ (rd ((rd_T50 x377000 x9).f0) x11) then (if (rd ((rd_T50 x377000 x9).f0) x11) < (x1.length : Int) then (if (rdOf false x1 (rd ((rd_T50 x377000 x9).f0) x11) = true) then ((swarfref04_has.f k x2 (rd ((rd_T50 x377000 x9).f0) x11)).bind fun t386 => (swarfref04_Orders.l1 k x1 x2 x7 x8 x9 t386 (wrap64 (x11 + 1)) x377000 x377001 x377002 x377003 x377004)) else (swarfref04_Orders.l1 k x1 x2 x7 x8 x9 true (wrap64 (x11 + 1)) x377000 x377001 x377002 x377003 x377004)) else (none)) else (none)) else (swarfref04_Orders.l1 k x1 x2 x7 x8 x9 false (wrap64 (x11 + 1)) x377000 x377001 x377002 x377003 x377004)) else (none)) else (if x10 = true then ((some (([] : List Int) : List Int)).bind fun y387 => (if y387.length + x2.length < 17592186044416 then ((some (y387 ++ x2 : List Int)).bind fun y390 => ((some (([x9] : List Int) : List Int)).bind fun y393 => (if y390.length + y393.length < 17592186044416 then ((swarfref04_Orders.f k x377000 x377001 x377002 x377003 x377004 x1 (y390 ++ y393)).bind fun t399 => (if x7.length + t399.length < 5864062014805 then (swarfref04_Orders.l0 k x1 x2 (x7 ++ t399) x8 (wrap64 (x9 + 1)) x377000 x377001 x377002 x377003 x377004) else (none))) else (none)))) else (none))) else (swarfref04_Orders.l0 k x1 x2 x7 x8 (wrap64 (x9 + 1)) x377000 x377001 x377002 x377003 x377004))) else (none)) else (none)
def swarfref04_Orders.f : Nat → List (S50) → Int → List (S61) → Int → List Int → List Bool → List Int → Option ((List (List Int)))
 | 0, _, _, _, _, _, _, _ => none
 | k + 1, l0_0, a0_1, l0_2, a0_3, l0_4, l1, l2 => swarfref04_Orders.l0 k l1 l2 ([] : List (List Int)) true 0 l0_0 a0_1 l0_2 a0_3 l0_4
end
theorem swarfref04_Orders.mono_l : ∀ k, (∀ y0 y1 y2 y3 y4 y5 y6, LeO (swarfref04_Orders.f k y0 y1 y2 y3 y4 y5 y6) (swarfref04_Orders.f (k + 1) y0 y1 y2 y3 y4 y5 y6)) ∧ (∀ y0 y1 y2 y3 y4 y5 y6 y7 y8 y9, LeO (swarfref04_Orders.l0 k y0 y1 y2 y3 y4 y5 y6 y7 y8 y9) (swarfref04_Orders.l0 (k + 1) y0 y1 y2 y3 y4 y5 y6 y7 y8 y9)) ∧ (∀ y0 y1 y2 y3 y4 y5 y6 y7 y8 y9 y10, LeO (swarfref04_Orders.j1 k y0 y1 y2 y3 y4 y5 y6 y7 y8 y9 y10) (swarfref04_Orders.j1 (k + 1) y0 y1 y2 y3 y4 y5 y6 y7 y8 y9 y10)) ∧ (∀ y0 y1 y2 y3 y4 y5 y6 y7 y8 y9 y10 y11, LeO (swarfref04_Orders.l1 k y0 y1 y2 y3 y4 y5 y6 y7 y8 y9 y10 y11) (swarfref04_Orders.l1 (k + 1) y0 y1 y2 y3 y4 y5 y6 y7 y8 y9 y10 y11))
 | 0 => ⟨fun _ _ _ _ _ _ _ r h => by simp [swarfref04_Orders.f] at h, fun _ _ _ _ _ _ _ _ _ _ r h => by simp [swarfref04_Orders.l0] at h, fun _ _ _ _ _ _ _ _ _ _ _ r h => by simp [swarfref04_Orders.j1] at h, fun _ _ _ _ _ _ _ _ _ _ _ _ r h => by simp [swarfref04_Orders.l1] at h⟩
 | k + 1 => by
  obtain ⟨ih0, ih1, ih2, ih3⟩ := swarfref04_Orders.mono_l k
  refine ⟨?_, ?_, ?_, ?_⟩
  ·
   intro y0 y1 y2 y3 y4 y5 y6
   unfold swarfref04_Orders.f
   repeat' first
   | (with_reducible exact ih0 _ _ _ _ _ _ _)
   | (with_reducible exact ih1 _ _ _ _ _ _ _ _ _ _)
   | (with_reducible exact ih2 _ _ _ _ _ _ _ _ _ _ _)
   | (with_reducible exact ih3 _ _ _ _ _ _ _ _ _ _ _ _)
   | (with_reducible exact swarfref04_has.mono _ _ _)
   | (with_reducible exact LeO.refl _)
   | (with_reducible exact LeO.none _)
   | (with_reducible refine LeO.ite ?_ ?_)
   | (with_reducible refine LeO.bind ?_ (fun _ => ?_))
   | exact ih0 _ _ _ _ _ _ _
   | exact ih1 _ _ _ _ _ _ _ _ _ _
   | exact ih2 _ _ _ _ _ _ _ _ _ _ _
   | exact ih3 _ _ _ _ _ _ _ _ _ _ _ _
   | exact swarfref04_has.mono _ _ _
   | exact LeO.none _
   | refine LeO.ite ?_ ?_
   | refine LeO.bind ?_ (fun _ => ?_)
  ·
   intro y0 y1 y2 y3 y4 y5 y6 y7 y8 y9
   unfold swarfref04_Orders.l0
   repeat' first
   | (with_reducible exact ih0 _ _ _ _ _ _ _)
   | (with_reducible exact ih1 _ _ _ _ _ _ _ _ _ _)
   | (with_reducible exact ih2 _ _ _ _ _ _ _ _ _ _ _)
   | (with_reducible exact ih3 _ _ _ _ _ _ _ _ _ _ _ _)
   | (with_reducible exact swarfref04_has.mono _ _ _)
   | (with_reducible exact LeO.refl _)
   | (with_reducible exact LeO.none _)
   | (with_reducible refine LeO.ite ?_ ?_)
   | (with_reducible refine LeO.bind ?_ (fun _ => ?_))
   | exact ih0 _ _ _ _ _ _ _
   | exact ih1 _ _ _ _ _ _ _ _ _ _
   | exact ih2 _ _ _ _ _ _ _ _ _ _ _
   | exact ih3 _ _ _ _ _ _ _ _ _ _ _ _
   | exact swarfref04_has.mono _ _ _
   | exact LeO.none _
   | refine LeO.ite ?_ ?_
   | refine LeO.bind ?_ (fun _ => ?_)
  ·
   intro y0 y1 y2 y3 y4 y5 y6 y7 y8 y9 y10
   unfold swarfref04_Orders.j1
   repeat' first
   | (with_reducible exact ih0 _ _ _ _ _ _ _)
   | (with_reducible exact ih1 _ _ _ _ _ _ _ _ _ _)
   | (with_reducible exact ih2 _ _ _ _ _ _ _ _ _ _ _)
   | (with_reducible exact ih3 _ _ _ _ _ _ _ _ _ _ _ _)
   | (with_reducible exact swarfref04_has.mono _ _ _)
   | (with_reducible exact LeO.refl _)
   | (with_reducible exact LeO.none _)
   | (with_reducible refine LeO.ite ?_ ?_)
   | (with_reducible refine LeO.bind ?_ (fun _ => ?_))
   | exact ih0 _ _ _ _ _ _ _
   | exact ih1 _ _ _ _ _ _ _ _ _ _
   | exact ih2 _ _ _ _ _ _ _ _ _ _ _
   | exact ih3 _ _ _ _ _ _ _ _ _ _ _ _
   | exact swarfref04_has.mono _ _ _
   | exact LeO.none _
   | refine LeO.ite ?_ ?_
   | refine LeO.bind ?_ (fun _ => ?_)
  ·
   intro y0 y1 y2 y3 y4 y5 y6 y7 y8 y9 y10 y11
   unfold swarfref04_Orders.l1
   repeat' first
   | (with_reducible exact ih0 _ _ _ _ _ _ _)
   | (with_reducible exact ih1 _ _ _ _ _ _ _ _ _ _)
   | (with_reducible exact ih2 _ _ _ _ _ _ _ _ _ _ _)
   | (with_reducible exact ih3 _ _ _ _ _ _ _ _ _ _ _ _)
   | (with_reducible exact swarfref04_has.mono _ _ _)
   | (with_reducible exact LeO.refl _)
   | (with_reducible exact LeO.none _)
   | (with_reducible refine LeO.ite ?_ ?_)
   | (with_reducible refine LeO.bind ?_ (fun _ => ?_))
   | exact ih0 _ _ _ _ _ _ _
   | exact ih1 _ _ _ _ _ _ _ _ _ _
   | exact ih2 _ _ _ _ _ _ _ _ _ _ _
   | exact ih3 _ _ _ _ _ _ _ _ _ _ _ _
   | exact swarfref04_has.mono _ _ _
   | exact LeO.none _
   | refine LeO.ite ?_ ?_
   | refine LeO.bind ?_ (fun _ => ?_)
theorem swarfref04_Orders.mono : ∀ a0 a1 a2 a3 a4 a5 a6 k, LeO (swarfref04_Orders.f k a0 a1 a2 a3 a4 a5 a6) (swarfref04_Orders.f (k + 1) a0 a1 a2 a3 a4 a5 a6) := by
 intro a0 a1 a2 a3 a4 a5 a6 k
 obtain ⟨ih0, ih1, ih2, ih3⟩ := swarfref04_Orders.mono_l k
 exact ih0 a0 a1 a2 a3 a4 a5 a6
def swarfref04_Orders.T15 : Bool × List (List Nat × List Nat) := (true, [([], []), ([], []), ([], []), ([], []), ([], []), ([3, 4], [3, 4]), ([], []), ([6], [6]), ([5, 7, 5], [5, 7]), ([1, 2, 8, 8], [1, 2, 8]), ([0, 9, 9], [0, 9]), ([10, 10, 0, 1, 2, 3, 4, 5, 6, 7, 8, 9, 10], [0, 10])])
def swarfref04_Orders.B15 : List Nat := [0, 0, 0, 0, 0, 24, 0, 64, 248, 510, 1023, 2047]
theorem swarfref04_Orders.tab15 : rtab .any (opsOf Try.f33 15) = swarfref04_Orders.T15 := by kernel_rfl
theorem swarfref04_Orders.bits15 : waitsOk swarfref04_Orders.T15.2 swarfref04_Orders.B15 = true := by kernel_rfl
set_option maxHeartbeats 8000000 in
set_option maxRecDepth 100000 in
theorem swarfref04_Orders.calls (k : Nat) : ∀ (A0_0 : Option Addr) (c0_0 : Nat) (l0_0 : List (S50)) (a0_1 : Int) (A0_2 : Option Addr) (c0_2 : Nat) (l0_2 : List (S61)) (a0_3 : Int) (A0_4 : Option Addr) (c0_4 : Nat) (l0_4 : List Int) (A1 : Option Addr) (c1 : Nat) (l1 : List Bool) (P2_ : Nat → Prop) (A2 : Option Addr) (c2 : Nat) (l2 : List Int) (r : List (List Int)) (w : World) (hr0_0 : Kd.C k50 w A0_0 l0_0.length l0_0) (hc0_0 : l0_0.length ≤ c0_0) (hr0_2 : Kd.C k61 w A0_2 l0_2.length l0_2) (hc0_2 : l0_2.length ≤ c0_2) (hr0_4 : Kd.C (Kd.int .i64) w A0_4 l0_4.length l0_4) (hc0_4 : l0_4.length ≤ c0_4) (hr1 : Kd.C Kd.bool w A1 l1.length l1) (hc1 : l1.length ≤ c1) (hs2 : Kd.V (Kd.int .i64) 3 w w.heap.size (fun k_ => P2_ k_) (.slice A2 l2.length c2) l2) (h : swarfref04_Orders.f k l0_0 a0_1 l0_2 a0_3 l0_4 l1 l2 = some r),
  Calls Try.prog 33 #[.agg #[.slice A0_0 l0_0.length c0_0, .int .i64 a0_1, .slice A0_2 l0_2.length c0_2, .int .i64 a0_3, .slice A0_4 l0_4.length c0_4], .slice A1 l1.length c1, .slice A2 l2.length c2] w fun e w' => ∃ v0_ : Value, e = .returned (v0_) ∧ Kd.N (Kd.slice 3 (Kd.int .i64)) 24 w' w.heap.size (fun k_ => (P2_ k_ ∨ w.heap.size ≤ k_)) v0_ r ∧ Below w.heap.size w w' := by
 induction k using Nat.strongRecOn with
 | _ k ih =>
 intro A0_0 c0_0 l0_0 a0_1 A0_2 c0_2 l0_2 a0_3 A0_4 c0_4 l0_4 A1 c1 l1 P2_ A2 c2 l2 r w hr0_0 hc0_0 hr0_2 hc0_2 hr0_4 hc0_4 hr1 hc1 hs2 h
 cases k with
 | zero => exact absurd h (by simp [swarfref04_Orders.f])
 | succ k =>
 simp only [swarfref04_Orders.f] at h
 have hu26 := Try.underlying26
 have HR0_0 := Aside0.mk hr0_0
 have HC0_0 := Aside0.mk hc0_0
 clear hr0_0 hc0_0
 have HR0_2 := Aside0.mk hr0_2
 have HC0_2 := Aside0.mk hc0_2
 clear hr0_2 hc0_2
 have HR0_4 := Aside0.mk hr0_4
 have HC0_4 := Aside0.mk hc0_4
 clear hr0_4 hc0_4
 have HR1 := Aside0.mk hr1
 have HC1 := Aside0.mk hc1
 clear hr1 hc1
 have HO2 := Aside0.mk (show Kd.V (Kd.int .i64) 3 w w.heap.size (fun k_ => (P2_ k_ ∨ w.heap.size ≤ k_)) (.slice A2 l2.length c2) l2 from Kd.V_mono hs2 (fun k_ hk => .inl hk))
 have HB := Aside0.mk (Below.refl w.heap.size w)
 have H : (swarfref04_Orders.l0 k l1 l2 ([] : List (List Int)) true 0 l0_0 a0_1 l0_2 a0_3 l0_4) = some r := h
 clear h
 have H' := Aside0.mk H
 clear H
 go_enter Try.func33, Try.ntmps33
 go_wp2_with (first | ((with_reducible refine gate_dst (N := 3) rfl ?_); refine box_event ?hg (N := 3) ?hd (cs := #[.slice A0_0 l0_0.length c0_0, .int .i64 a0_1, .slice A0_2 l0_2.length c0_2, .int .i64 a0_3, .slice A0_4 l0_4.length c0_4]) (t := 26) ?hr ?_; (case hd => rfl); (case hg => rfl); (case hr => first | (go_simp; done) | (go_simp; rfl)); intro gb376 hg w4 hbox hb; have n0_ := Aside0.mk (Kd.V_below (Kd.V_elderB (Kd.V_x HO2.out) gb376 (Nat.le_of_eq hg.symm)) hb); have n1_ := Aside0.mk (below_step (below_x HB.out) hb); have n2_ := Aside0.mk (hbox); have n3_ := Aside0.mk ((by rw [hg]; exact (below_size (below_x HB.out)) : w.heap.size ≤ gb376)); have n4_ := Aside0.mk ((by rw [hg]; exact (below_size (below_x HB.out)) : w.heap.size ≤ gb376)); clear HO2; clear HB; have HO2 := n0_; have HB := n1_; have BK376 := n2_; have GW376 := n3_; have GE376 := n4_; clear n0_ n1_ n2_ n3_ n4_; clear hb hbox hg))
 go_loopg [7, 8, 9] k (fun kq v7 v8 v9 w' => ∃ (x7_1 : List (List Int)) (x8_1 : Bool) (x9_1 : Int), v8 = .bool x8_1 ∧ v9 = .int .i64 x9_1 ∧ Aside0 (swarfref04_Orders.l0 kq l1 l2 x7_1 x8_1 x9_1 l0_0 a0_1 l0_2 a0_3 l0_4 = some r) ∧ Aside0 (kq ≤ k) ∧ Aside0 (Kd.V (Kd.int .i64) 3 w' w.heap.size (fun k_ => (P2_ k_ ∨ w.heap.size ≤ k_) ∧ some k_ ≠ (v7 : Value).ownBlock ∧ k_ ≠ gb376) (.slice A2 l2.length c2) l2) ∧ Aside0 (Kd.N (Kd.slice 3 (Kd.int .i64)) 24 w' w.heap.size (fun k_ => (P2_ k_ ∨ w.heap.size ≤ k_) ∧ k_ ≠ gb376) v7 x7_1) ∧ Aside0 (w'.heap[gb376]? = some (.cells #[(.slice A0_0 l0_0.length c0_0), .int .i64 a0_1, (.slice A0_2 l0_2.length c0_2), .int .i64 a0_3, (.slice A0_4 l0_4.length c0_4)] 26 (0, 0))) ∧ Aside0 (Below w.heap.size w w'))
 case atStart => exact ⟨(([] : List (List Int))), (true), (0), (by first | rfl | (simp; done) | (simp [*]; done)), (by first | rfl | (simp; done) | (simp [*]; done)), H', ⟨Nat.le_refl _⟩, ⟨by (with_reducible repeat (first | apply Kd.V_alloc | apply Kd.V_drewN | apply Kd.V_drew)); exact Kd.V_mono HO2.out (fun _ hk => ⟨hk.1, ⟨(by simp [Value.ownBlock]), hk.2⟩⟩)⟩, ⟨by first | exact Kd.S_nil _ _ _ _ _ | exact Kd.N_nil _ _ _ _ _ | exact Kd.V_nil _ _ _ _ _ | exact Kd.Q_nil _ _ _ _ _ | exact Kd.R_nil _ _ _ _ _⟩, ⟨by (with_reducible repeat (first | refine blk_drewN ?_ _ | refine blk_drew ?_ | refine blk_alloc ?_ _)); exact BK376.out⟩, ⟨by repeat (first | (with_reducible first | exact HB.out | apply below_alloc | apply pw_below_drewN | apply below_drew1 | refine below_set ?_ GE376.out) | exact HB.out)⟩⟩
 case round =>
  clear H'
  try clear c1
  try clear c2
  try clear p2
  try clear c3
  obtain ⟨x7_1, x8_1, x9_1, rfl, rfl, HA, HK1, HO_2, HO_7, BK376, HB⟩ := hrel
  cases gk with
  | zero => exact absurd HA.out (by simp [swarfref04_Orders.l0])
  | succ k1 =>
   have H := HA.out
   clear HA
   simp only [swarfref04_Orders.l0] at H
   by_cases c5 : x9_1 < (l1.length : Int)
   ·
    rw [if_pos c5] at H
    have c5b0 : decide (x9_1 < (l1.length : Int)) = true := decide_eq_true c5
    clear c5
    have HC6 := Aside0.mk H
    clear H
    go_upto_region 6 with (fail)
    go_cut [28] (fun v28 wc => ∃ (kq : Nat) (x28_5 : Bool), v28 = .bool x28_5 ∧ Aside0 (swarfref04_Orders.j1 kq l1 l2 x7_1 x8_1 x9_1 x28_5 l0_0 a0_1 l0_2 a0_3 l0_4 = some r) ∧ Aside0 (kq ≤ k1) ∧ Aside0 (Kd.V (Kd.int .i64) 3 wc w.heap.size (fun k_ => (P2_ k_ ∨ w.heap.size ≤ k_) ∧ some k_ ≠ (u7 : Value).ownBlock ∧ k_ ≠ gb376) (.slice A2 l2.length c2) l2) ∧ Aside0 (Kd.N (Kd.slice 3 (Kd.int .i64)) 24 wc w.heap.size (fun k_ => (P2_ k_ ∨ w.heap.size ≤ k_) ∧ k_ ≠ gb376) u7 x7_1) ∧ Aside0 (wc.heap[gb376]? = some (.cells #[(.slice A0_0 l0_0.length c0_0), .int .i64 a0_1, (.slice A0_2 l0_2.length c0_2), .int .i64 a0_3, (.slice A0_4 l0_4.length c0_4)] 26 (0, 0))) ∧ Aside0 (Below w.heap.size w wc))
    case first =>
     have H := HC6.out
     clear HC6
     by_cases c7 : 0 ≤ x9_1
     ·
      rw [if_pos c7] at H
      have c7b0 : decide (0 ≤ x9_1) = true := decide_eq_true c7
      clear c7
      (first | rw [c7b0] | (simp only [i64_w, i32_w]; rw [c7b0]) | skip)
      obtain ⟨bq8, hbq8⟩ : ∃ b_ : Bool, b_ = (rdOf false l1 x9_1) := ⟨_, rfl⟩
      replace H : (if bq8 = true then ((swarfref04_has.f k1 l2 x9_1).bind fun t381 => (swarfref04_Orders.j1 k1 l1 l2 x7_1 x8_1 x9_1 t381 l0_0 a0_1 l0_2 a0_3 l0_4)) else (swarfref04_Orders.j1 k1 l1 l2 x7_1 x8_1 x9_1 true l0_0 a0_1 l0_2 a0_3 l0_4)) = some r := by rw [← hbq8] at H; exact H
      have Nbq8 := Aside0.mk hbq8
      clear hbq8
      by_cases c9 : bq8 = true
      ·
       subst c9
       have H1 : ((swarfref04_has.f k1 l2 x9_1).bind fun t381 => (swarfref04_Orders.j1 k1 l1 l2 x7_1 x8_1 x9_1 t381 l0_0 a0_1 l0_2 a0_3 l0_4)) = some r := by rw [if_pos rfl] at H; exact H
       clear H
       have H := H1
       clear H1
       replace H := Option.bind_eq_some_iff.mp H
       obtain ⟨t381, A100, H⟩ := H
       replace H : (swarfref04_Orders.j1 k1 l1 l2 x7_1 x8_1 x9_1 t381 l0_0 a0_1 l0_2 a0_3 l0_4) = some r := H
       have A10 := Aside0.mk A100
       clear A100
       have H' := Aside0.mk H
       clear H
       have p380 : 0 ≤ (x9_1 : Int) := of_decide_eq_true (by first | (with_reducible assumption) | assumption)
       have q380 : x9_1 < (l1.length : Int) := of_decide_eq_true (by first | (with_reducible assumption) | assumption)
       obtain ⟨ad380, e380, hx380_0⟩ := Kd.at_bool HR1.out x9_1 p380 q380
       (try rw [← Nbq8.out] at hx380_0)
       cases e380
       replace hx380_0 := (HB.out.cell (World.block_lt_of_cell? w _ hx380_0)).trans hx380_0
       replace p380 := eq_true p380
       replace q380 := eq_true q380
       go_wp2_with (first | (go_at_call 67; (with_reducible refine (swarfref04_has.calls k1 _ _ l2 x9_1 t381 _ ?side1 ?side2 A10.out).mono ?_); (case side1 => repeat (first | exact (Kd.V_reads' HO_2.out).2.2 | (with_reducible refine Kd.C_alloc ?_ _) | (with_reducible refine Kd.C_drewN ?_ _) | (with_reducible refine Kd.C_drew ?_))); (case side2 => exact (Kd.V_reads' HO_2.out).2.1); rintro e w' ⟨rfl, ⟨nd, rfl⟩⟩))
       go_meet
       case rel => exact ⟨_, (t381), (by first | rfl | (simp; done) | (simp [*]; done)), H', ⟨by have := HK1.out; first | omega | exact Nat.le_refl _⟩, ⟨by (with_reducible repeat (first | apply Kd.V_alloc | apply Kd.V_drewN | apply Kd.V_drew)); exact HO_2.out⟩, ⟨by (with_reducible repeat (first | apply Kd.N_alloc | apply Kd.N_drewN | apply Kd.N_drew)); exact HO_7.out⟩, ⟨by (with_reducible repeat (first | refine blk_drewN ?_ _ | refine blk_drew ?_ | refine blk_alloc ?_ _)); exact BK376.out⟩, ⟨by repeat (first | (with_reducible first | exact HB.out | apply below_alloc | apply pw_below_drewN | apply below_drew1 | refine below_set ?_ GE376.out) | exact HB.out)⟩⟩
      ·
       replace c9 := Bool.eq_false_iff.mpr c9
       subst c9
       have H1 : (swarfref04_Orders.j1 k1 l1 l2 x7_1 x8_1 x9_1 true l0_0 a0_1 l0_2 a0_3 l0_4) = some r := by rw [if_neg (show ¬ (false = true) by decide)] at H; exact H
       clear H
       have H := H1
       clear H1
       have H' := Aside0.mk H
       clear H
       have p380 : 0 ≤ (x9_1 : Int) := of_decide_eq_true (by first | (with_reducible assumption) | assumption)
       have q380 : x9_1 < (l1.length : Int) := of_decide_eq_true (by first | (with_reducible assumption) | assumption)
       obtain ⟨ad380, e380, hx380_0⟩ := Kd.at_bool HR1.out x9_1 p380 q380
       (try rw [← Nbq8.out] at hx380_0)
       cases e380
       replace hx380_0 := (HB.out.cell (World.block_lt_of_cell? w _ hx380_0)).trans hx380_0
       replace p380 := eq_true p380
       replace q380 := eq_true q380
       go_wp2
       go_meet
       case rel => exact ⟨_, (true), (by first | rfl | (simp; done) | (simp [*]; done)), H', ⟨by have := HK1.out; first | omega | exact Nat.le_refl _⟩, ⟨by (with_reducible repeat (first | apply Kd.V_alloc | apply Kd.V_drewN | apply Kd.V_drew)); exact HO_2.out⟩, ⟨by (with_reducible repeat (first | apply Kd.N_alloc | apply Kd.N_drewN | apply Kd.N_drew)); exact HO_7.out⟩, ⟨by (with_reducible repeat (first | refine blk_drewN ?_ _ | refine blk_drew ?_ | refine blk_alloc ?_ _)); exact BK376.out⟩, ⟨by repeat (first | (with_reducible first | exact HB.out | apply below_alloc | apply pw_below_drewN | apply below_drew1 | refine below_set ?_ GE376.out) | exact HB.out)⟩⟩
     ·
      rw [if_neg c7] at H
      exact absurd H (by simp)
    case rest =>
     clear HC6
     try clear c1
     try clear c2
     try clear p2
     try clear c3
     try clear p3
     try clear q3
     try clear hx3
     try clear c5
     try clear c5b0
     try clear c7
     try clear c7b0
     try clear q8
     try clear c9
     try clear hx380_0
     try clear p2
     try clear p380
     try clear q380
     obtain ⟨kq, x28_5, rfl, HA, HJ5, HO_2, HO_7, BK376, HB⟩ := hcut
     cases kq with
     | zero => exact absurd HA.out (by simp [swarfref04_Orders.j1])
     | succ kj5 =>
      have H := HA.out
      clear HA
      simp only [swarfref04_Orders.j1] at H
      by_cases c11 : x28_5 = true
      ·
       subst c11
       have H1 : (swarfref04_Orders.l0 kj5 l1 l2 x7_1 x8_1 (wrap64 (x9_1 + 1)) l0_0 a0_1 l0_2 a0_3 l0_4) = some r := by rw [if_pos rfl] at H; exact H
       clear H
       have H := H1
       clear H1
       have H' := Aside0.mk H
       clear H
       go_wp2
       go_roundg kj5
       case measure => have := HK1.out; have := HJ5.out; omega
       case rel => exact ⟨(x7_1), (x8_1), (wrap64 (x9_1 + 1)), (by first | rfl | (simp; done) | (simp [*]; done)), (by first | rfl | (simp; done) | (simp [*]; done)), H', ⟨by have := HK1.out; have := HJ5.out; omega⟩, ⟨by (with_reducible repeat (first | apply Kd.V_alloc | apply Kd.V_drewN | apply Kd.V_drew)); exact HO_2.out⟩, ⟨by (with_reducible repeat (first | apply Kd.N_alloc | apply Kd.N_drewN | apply Kd.N_drew)); exact HO_7.out⟩, ⟨by (with_reducible repeat (first | refine blk_drewN ?_ _ | refine blk_drew ?_ | refine blk_alloc ?_ _)); exact BK376.out⟩, ⟨by repeat (first | (with_reducible first | exact HB.out | apply below_alloc | apply pw_below_drewN | apply below_drew1 | refine below_set ?_ GE376.out) | exact HB.out)⟩⟩
      ·
       replace c11 := Bool.eq_false_iff.mpr c11
       subst c11
       have H1 : (swarfref04_Orders.l1 kj5 l1 l2 x7_1 false x9_1 true 0 l0_0 a0_1 l0_2 a0_3 l0_4) = some r := by rw [if_neg (show ¬ (false = true) by decide)] at H; exact H
       clear H
       have H := H1
       clear H1
       have H' := Aside0.mk H
       clear H
       go_wp2
       go_loopg [10, 11] kj5 (fun kq v10 v11 w' => ∃ (x10_3 : Bool) (x11_3 : Int), v10 = .bool x10_3 ∧ v11 = .int .i64 x11_3 ∧ Aside0 (swarfref04_Orders.l1 kq l1 l2 x7_1 false x9_1 x10_3 x11_3 l0_0 a0_1 l0_2 a0_3 l0_4 = some r) ∧ Aside0 (kq ≤ kj5) ∧ Aside0 (Kd.V (Kd.int .i64) 3 w' w.heap.size (fun k_ => (P2_ k_ ∨ w.heap.size ≤ k_) ∧ some k_ ≠ (u7 : Value).ownBlock ∧ k_ ≠ gb376) (.slice A2 l2.length c2) l2) ∧ Aside0 (Kd.N (Kd.slice 3 (Kd.int .i64)) 24 w' w.heap.size (fun k_ => (P2_ k_ ∨ w.heap.size ≤ k_) ∧ k_ ≠ gb376) u7 x7_1) ∧ Aside0 (w'.heap[gb376]? = some (.cells #[(.slice A0_0 l0_0.length c0_0), .int .i64 a0_1, (.slice A0_2 l0_2.length c0_2), .int .i64 a0_3, (.slice A0_4 l0_4.length c0_4)] 26 (0, 0))) ∧ Aside0 (Below w.heap.size w w'))
       case atStart => exact ⟨(true), (0), (by first | rfl | (simp; done) | (simp [*]; done)), (by first | rfl | (simp; done) | (simp [*]; done)), H', ⟨Nat.le_refl _⟩, ⟨by (with_reducible repeat (first | apply Kd.V_alloc | apply Kd.V_drewN | apply Kd.V_drew)); exact HO_2.out⟩, ⟨by (with_reducible repeat (first | apply Kd.N_alloc | apply Kd.N_drewN | apply Kd.N_drew)); exact HO_7.out⟩, ⟨by (with_reducible repeat (first | refine blk_drewN ?_ _ | refine blk_drew ?_ | refine blk_alloc ?_ _)); exact BK376.out⟩, ⟨by repeat (first | (with_reducible first | exact HB.out | apply below_alloc | apply pw_below_drewN | apply below_drew1 | refine below_set ?_ GE376.out) | exact HB.out)⟩⟩
       case round =>
        clear H'
        try clear c1
        try clear c2
        try clear p2
        try clear c3
        try clear p3
        try clear q3
        try clear hx3
        try clear c5
        try clear c5b0
        try clear p6
        try clear c7
        try clear c7b0
        try clear q8
        try clear c9
        try clear c11
        try clear hx380_0
        try clear p2
        try clear p3
        try clear p380
        try clear q3
        try clear q380
        try clear q8
        obtain ⟨x10_3, x11_3, rfl, rfl, HA, HK3, HO_2, HO_7, BK376, HB⟩ := hrel
        cases gk with
        | zero => exact absurd HA.out (by simp [swarfref04_Orders.l1])
        | succ k3 =>
         have H := HA.out
         clear HA
         simp only [swarfref04_Orders.l1] at H
         by_cases c12 : 0 ≤ x9_1
         ·
          rw [if_pos c12] at H
          have c12b0 : decide (0 ≤ x9_1) = true := decide_eq_true c12
          clear c12
          by_cases c13 : x9_1 < (l0_0.length : Int)
          ·
           rw [if_pos c13] at H
           have c13b0 : decide (x9_1 < (l0_0.length : Int)) = true := decide_eq_true c13
           clear c13
           by_cases c14 : x11_3 < (((rd_T50 l0_0 x9_1).f0).length : Int)
           ·
            rw [if_pos c14] at H
            have c14b0 : decide (x11_3 < (((rd_T50 l0_0 x9_1).f0).length : Int)) = true := decide_eq_true c14
            clear c14
            by_cases c15 : 0 ≤ x11_3
            ·
             rw [if_pos c15] at H
             have c15b0 : decide (0 ≤ x11_3) = true := decide_eq_true c15
             clear c15
             by_cases c16 : x10_3 = true
             ·
              subst c16
              have H1 : (if 0 ≤ (rd ((rd_T50 l0_0 x9_1).f0) x11_3) then (if (rd ((rd_T50 l0_0 x9_1).f0) x11_3) < (l1.length : Int) then (if (rdOf false l1 (rd ((rd_T50 l0_0 x9_1).f0) x11_3) = true) then ((swarfref04_has.f k3 l2 (rd ((rd_T50 l0_0 x9_1).f0) x11_3)).bind fun t386 => (swarfref04_Orders.l1 k3 l1 l2 x7_1 false x9_1 t386 (wrap64 (x11_3 + 1)) l0_0 a0_1 l0_2 a0_3 l0_4)) else (swarfref04_Orders.l1 k3 l1 l2 x7_1 false x9_1 true (wrap64 (x11_3 + 1)) l0_0 a0_1 l0_2 a0_3 l0_4)) else (none)) else (none)) = some r := by rw [if_pos rfl] at H; exact H
              clear H
              have H := H1
              clear H1
              by_cases c17 : 0 ≤ (rd ((rd_T50 l0_0 x9_1).f0) x11_3)
              ·
               rw [if_pos c17] at H
               have c17b0 : decide (0 ≤ (rd ((rd_T50 l0_0 x9_1).f0) x11_3)) = true := decide_eq_true c17
               clear c17
               by_cases c18 : (rd ((rd_T50 l0_0 x9_1).f0) x11_3) < (l1.length : Int)
               ·
                rw [if_pos c18] at H
                have c18b0 : decide ((rd ((rd_T50 l0_0 x9_1).f0) x11_3) < (l1.length : Int)) = true := decide_eq_true c18
                clear c18
                obtain ⟨bq19, hbq19⟩ : ∃ b_ : Bool, b_ = (rdOf false l1 (rd ((rd_T50 l0_0 x9_1).f0) x11_3)) := ⟨_, rfl⟩
                replace H : (if (bq19 = true) then ((swarfref04_has.f k3 l2 (rd ((rd_T50 l0_0 x9_1).f0) x11_3)).bind fun t386 => (swarfref04_Orders.l1 k3 l1 l2 x7_1 false x9_1 t386 (wrap64 (x11_3 + 1)) l0_0 a0_1 l0_2 a0_3 l0_4)) else (swarfref04_Orders.l1 k3 l1 l2 x7_1 false x9_1 true (wrap64 (x11_3 + 1)) l0_0 a0_1 l0_2 a0_3 l0_4)) = some r := by rw [← hbq19] at H; exact H
                have Nbq19 := Aside0.mk hbq19
                clear hbq19
                by_cases c20 : (bq19 = true)
                ·
                 subst c20
                 have H1 : ((swarfref04_has.f k3 l2 (rd ((rd_T50 l0_0 x9_1).f0) x11_3)).bind fun t386 => (swarfref04_Orders.l1 k3 l1 l2 x7_1 false x9_1 t386 (wrap64 (x11_3 + 1)) l0_0 a0_1 l0_2 a0_3 l0_4)) = some r := by rw [if_pos rfl] at H; exact H
                 clear H
                 have H := H1
                 clear H1
                 replace H := Option.bind_eq_some_iff.mp H
                 obtain ⟨t386, A210, H⟩ := H
                 replace H : (swarfref04_Orders.l1 k3 l1 l2 x7_1 false x9_1 t386 (wrap64 (x11_3 + 1)) l0_0 a0_1 l0_2 a0_3 l0_4) = some r := H
                 have A21 := Aside0.mk A210
                 clear A210
                 have H' := Aside0.mk H
                 clear H
                 have hcz22_0 : wr.cell? ⟨gb376, 0, none⟩ = some (.slice A0_0 l0_0.length c0_0) := (blk_cell BK376.out 0).trans rfl
                 have hcz22_1 : wr.cell? ⟨gb376, 1, none⟩ = some (.int .i64 a0_1) := (blk_cell BK376.out 1).trans rfl
                 have hcz22_2 : wr.cell? ⟨gb376, 2, none⟩ = some (.slice A0_2 l0_2.length c0_2) := (blk_cell BK376.out 2).trans rfl
                 have hcz22_3 : wr.cell? ⟨gb376, 3, none⟩ = some (.int .i64 a0_3) := (blk_cell BK376.out 3).trans rfl
                 have hcz22_4 : wr.cell? ⟨gb376, 4, none⟩ = some (.slice A0_4 l0_4.length c0_4) := (blk_cell BK376.out 4).trans rfl
                 have hfz22_0 := blk_frozen BK376.out 0
                 have hfz22_1 := blk_frozen BK376.out 1
                 have hfz22_2 := blk_frozen BK376.out 2
                 have hfz22_3 := blk_frozen BK376.out 3
                 have hfz22_4 := blk_frozen BK376.out 4
                 have p382 : 0 ≤ (x9_1 : Int) := of_decide_eq_true (by first | (with_reducible assumption) | assumption)
                 have q382 : x9_1 < (l0_0.length : Int) := of_decide_eq_true (by first | (with_reducible assumption) | assumption)
                 obtain ⟨ad382, A382_0, c382_0, e382, hx382_0, hx382_1, hx382_2, hx382_3, hl382_0, hi382_0⟩ := at_T50 HR0_0.out x9_1 p382 q382
                 (try rw [← Nbq19.out] at hx382_1)
                 cases e382
                 replace hx382_0 := (HB.out.cell (World.block_lt_of_cell? w _ hx382_0)).trans hx382_0
                 replace hx382_1 := (HB.out.cell (World.block_lt_of_cell? w _ hx382_1)).trans hx382_1
                 replace hx382_2 := (HB.out.cell (World.block_lt_of_cell? w _ hx382_2)).trans hx382_2
                 replace hx382_3 := (HB.out.cell (World.block_lt_of_cell? w _ hx382_3)).trans hx382_3
                 have HR382_0 := Aside0.mk hi382_0
                 have HC382_0 := Aside0.mk hl382_0
                 clear hi382_0 hl382_0
                 replace p382 := eq_true p382
                 replace q382 := eq_true q382
                 have p383 : 0 ≤ (x9_1 : Int) := of_decide_eq_true (by first | (with_reducible assumption) | assumption)
                 have q383 : x9_1 < (l0_0.length : Int) := of_decide_eq_true (by first | (with_reducible assumption) | assumption)
                 obtain ⟨ad383, A383_0, c383_0, e383, hx383_0, hx383_1, hx383_2, hx383_3, hl383_0, hi383_0⟩ := at_T50 HR0_0.out x9_1 p383 q383
                 (try rw [← Nbq19.out] at hx383_1)
                 obtain rfl : ad382 = ad383 := (by injection e383)
                 replace hx383_0 := (HB.out.cell (World.block_lt_of_cell? w _ hx383_0)).trans hx383_0
                 replace hx383_1 := (HB.out.cell (World.block_lt_of_cell? w _ hx383_1)).trans hx383_1
                 replace hx383_2 := (HB.out.cell (World.block_lt_of_cell? w _ hx383_2)).trans hx383_2
                 replace hx383_3 := (HB.out.cell (World.block_lt_of_cell? w _ hx383_3)).trans hx383_3
                 have HR383_0 := Aside0.mk hi383_0
                 have HC383_0 := Aside0.mk hl383_0
                 clear hi383_0 hl383_0
                 replace p383 := eq_true p383
                 replace q383 := eq_true q383
                 have ea_ := Option.some.inj (hx382_0.symm.trans hx383_0)
                 injection ea_ with ea_ en_ ec_
                 subst ea_
                 subst ec_
                 clear en_
                 have p384 : 0 ≤ (x11_3 : Int) := of_decide_eq_true (by first | (with_reducible assumption) | assumption)
                 have q384 : x11_3 < (((rd_T50 l0_0 x9_1).f0).length : Int) := of_decide_eq_true (by first | (with_reducible assumption) | assumption)
                 obtain ⟨ad384, e384, hx384_0⟩ := Kd.at_int HR383_0.out x11_3 p384 q384
                 cases e384
                 replace hx384_0 := (HB.out.cell (World.block_lt_of_cell? w _ hx384_0)).trans hx384_0
                 replace p384 := eq_true p384
                 replace q384 := eq_true q384
                 have p385 : 0 ≤ ((rd ((rd_T50 l0_0 x9_1).f0) x11_3) : Int) := of_decide_eq_true (by first | (with_reducible assumption) | assumption)
                 have q385 : (rd ((rd_T50 l0_0 x9_1).f0) x11_3) < (l1.length : Int) := of_decide_eq_true (by first | (with_reducible assumption) | assumption)
                 obtain ⟨ad385, e385, hx385_0⟩ := Kd.at_bool HR1.out (rd ((rd_T50 l0_0 x9_1).f0) x11_3) p385 q385
                 (try rw [← Nbq19.out] at hx385_0)
                 cases e385
                 replace hx385_0 := (HB.out.cell (World.block_lt_of_cell? w _ hx385_0)).trans hx385_0
                 replace p385 := eq_true p385
                 replace q385 := eq_true q385
                 go_wp2_with (first | (go_at_call 67; (with_reducible refine (swarfref04_has.calls k3 _ _ l2 (rd ((rd_T50 l0_0 x9_1).f0) x11_3) t386 _ ?side1 ?side2 A21.out).mono ?_); (case side1 => repeat (first | exact (Kd.V_reads' HO_2.out).2.2 | (with_reducible refine Kd.C_alloc ?_ _) | (with_reducible refine Kd.C_drewN ?_ _) | (with_reducible refine Kd.C_drew ?_))); (case side2 => exact (Kd.V_reads' HO_2.out).2.1); rintro e w' ⟨rfl, ⟨nd, rfl⟩⟩))
                 go_roundg k3
                 case measure => have := HK1.out; have := HJ5.out; have := HK3.out; omega
                 case rel => exact ⟨(t386), (wrap64 (x11_3 + 1)), (by first | rfl | (simp; done) | (simp [*]; done)), (by first | rfl | (simp; done) | (simp [*]; done)), H', ⟨by have := HK1.out; have := HJ5.out; have := HK3.out; omega⟩, ⟨by (with_reducible repeat (first | apply Kd.V_alloc | apply Kd.V_drewN | apply Kd.V_drew)); exact HO_2.out⟩, ⟨by (with_reducible repeat (first | apply Kd.N_alloc | apply Kd.N_drewN | apply Kd.N_drew)); exact HO_7.out⟩, ⟨by (with_reducible repeat (first | refine blk_drewN ?_ _ | refine blk_drew ?_ | refine blk_alloc ?_ _)); exact BK376.out⟩, ⟨by repeat (first | (with_reducible first | exact HB.out | apply below_alloc | apply pw_below_drewN | apply below_drew1 | refine below_set ?_ GE376.out) | exact HB.out)⟩⟩
                ·
                 replace c20 := Bool.eq_false_iff.mpr c20
                 subst c20
                 have H1 : (swarfref04_Orders.l1 k3 l1 l2 x7_1 false x9_1 true (wrap64 (x11_3 + 1)) l0_0 a0_1 l0_2 a0_3 l0_4) = some r := by rw [if_neg (show ¬ (false = true) by decide)] at H; exact H
                 clear H
                 have H := H1
                 clear H1
                 have H' := Aside0.mk H
                 clear H
                 have hcz23_0 : wr.cell? ⟨gb376, 0, none⟩ = some (.slice A0_0 l0_0.length c0_0) := (blk_cell BK376.out 0).trans rfl
                 have hcz23_1 : wr.cell? ⟨gb376, 1, none⟩ = some (.int .i64 a0_1) := (blk_cell BK376.out 1).trans rfl
                 have hcz23_2 : wr.cell? ⟨gb376, 2, none⟩ = some (.slice A0_2 l0_2.length c0_2) := (blk_cell BK376.out 2).trans rfl
                 have hcz23_3 : wr.cell? ⟨gb376, 3, none⟩ = some (.int .i64 a0_3) := (blk_cell BK376.out 3).trans rfl
                 have hcz23_4 : wr.cell? ⟨gb376, 4, none⟩ = some (.slice A0_4 l0_4.length c0_4) := (blk_cell BK376.out 4).trans rfl
                 have hfz23_0 := blk_frozen BK376.out 0
                 have hfz23_1 := blk_frozen BK376.out 1
                 have hfz23_2 := blk_frozen BK376.out 2
                 have hfz23_3 := blk_frozen BK376.out 3
                 have hfz23_4 := blk_frozen BK376.out 4
                 have p382 : 0 ≤ (x9_1 : Int) := of_decide_eq_true (by first | (with_reducible assumption) | assumption)
                 have q382 : x9_1 < (l0_0.length : Int) := of_decide_eq_true (by first | (with_reducible assumption) | assumption)
                 obtain ⟨ad382, A382_0, c382_0, e382, hx382_0, hx382_1, hx382_2, hx382_3, hl382_0, hi382_0⟩ := at_T50 HR0_0.out x9_1 p382 q382
                 (try rw [← Nbq19.out] at hx382_1)
                 cases e382
                 replace hx382_0 := (HB.out.cell (World.block_lt_of_cell? w _ hx382_0)).trans hx382_0
                 replace hx382_1 := (HB.out.cell (World.block_lt_of_cell? w _ hx382_1)).trans hx382_1
                 replace hx382_2 := (HB.out.cell (World.block_lt_of_cell? w _ hx382_2)).trans hx382_2
                 replace hx382_3 := (HB.out.cell (World.block_lt_of_cell? w _ hx382_3)).trans hx382_3
                 have HR382_0 := Aside0.mk hi382_0
                 have HC382_0 := Aside0.mk hl382_0
                 clear hi382_0 hl382_0
                 replace p382 := eq_true p382
                 replace q382 := eq_true q382
                 have p383 : 0 ≤ (x9_1 : Int) := of_decide_eq_true (by first | (with_reducible assumption) | assumption)
                 have q383 : x9_1 < (l0_0.length : Int) := of_decide_eq_true (by first | (with_reducible assumption) | assumption)
                 obtain ⟨ad383, A383_0, c383_0, e383, hx383_0, hx383_1, hx383_2, hx383_3, hl383_0, hi383_0⟩ := at_T50 HR0_0.out x9_1 p383 q383
                 (try rw [← Nbq19.out] at hx383_1)
                 obtain rfl : ad382 = ad383 := (by injection e383)
                 replace hx383_0 := (HB.out.cell (World.block_lt_of_cell? w _ hx383_0)).trans hx383_0
                 replace hx383_1 := (HB.out.cell (World.block_lt_of_cell? w _ hx383_1)).trans hx383_1
                 replace hx383_2 := (HB.out.cell (World.block_lt_of_cell? w _ hx383_2)).trans hx383_2
                 replace hx383_3 := (HB.out.cell (World.block_lt_of_cell? w _ hx383_3)).trans hx383_3
                 have HR383_0 := Aside0.mk hi383_0
                 have HC383_0 := Aside0.mk hl383_0
                 clear hi383_0 hl383_0
                 replace p383 := eq_true p383
                 replace q383 := eq_true q383
                 have ea_ := Option.some.inj (hx382_0.symm.trans hx383_0)
                 injection ea_ with ea_ en_ ec_
                 subst ea_
                 subst ec_
                 clear en_
                 have p384 : 0 ≤ (x11_3 : Int) := of_decide_eq_true (by first | (with_reducible assumption) | assumption)
                 have q384 : x11_3 < (((rd_T50 l0_0 x9_1).f0).length : Int) := of_decide_eq_true (by first | (with_reducible assumption) | assumption)
                 obtain ⟨ad384, e384, hx384_0⟩ := Kd.at_int HR383_0.out x11_3 p384 q384
                 cases e384
                 replace hx384_0 := (HB.out.cell (World.block_lt_of_cell? w _ hx384_0)).trans hx384_0
                 replace p384 := eq_true p384
                 replace q384 := eq_true q384
                 have p385 : 0 ≤ ((rd ((rd_T50 l0_0 x9_1).f0) x11_3) : Int) := of_decide_eq_true (by first | (with_reducible assumption) | assumption)
                 have q385 : (rd ((rd_T50 l0_0 x9_1).f0) x11_3) < (l1.length : Int) := of_decide_eq_true (by first | (with_reducible assumption) | assumption)
                 obtain ⟨ad385, e385, hx385_0⟩ := Kd.at_bool HR1.out (rd ((rd_T50 l0_0 x9_1).f0) x11_3) p385 q385
                 (try rw [← Nbq19.out] at hx385_0)
                 cases e385
                 replace hx385_0 := (HB.out.cell (World.block_lt_of_cell? w _ hx385_0)).trans hx385_0
                 replace p385 := eq_true p385
                 replace q385 := eq_true q385
                 go_wp2
                 go_roundg k3
                 case measure => have := HK1.out; have := HJ5.out; have := HK3.out; omega
                 case rel => exact ⟨(true), (wrap64 (x11_3 + 1)), (by first | rfl | (simp; done) | (simp [*]; done)), (by first | rfl | (simp; done) | (simp [*]; done)), H', ⟨by have := HK1.out; have := HJ5.out; have := HK3.out; omega⟩, ⟨by (with_reducible repeat (first | apply Kd.V_alloc | apply Kd.V_drewN | apply Kd.V_drew)); exact HO_2.out⟩, ⟨by (with_reducible repeat (first | apply Kd.N_alloc | apply Kd.N_drewN | apply Kd.N_drew)); exact HO_7.out⟩, ⟨by (with_reducible repeat (first | refine blk_drewN ?_ _ | refine blk_drew ?_ | refine blk_alloc ?_ _)); exact BK376.out⟩, ⟨by repeat (first | (with_reducible first | exact HB.out | apply below_alloc | apply pw_below_drewN | apply below_drew1 | refine below_set ?_ GE376.out) | exact HB.out)⟩⟩
               ·
                rw [if_neg c18] at H
                exact absurd H (by simp)
              ·
               rw [if_neg c17] at H
               exact absurd H (by simp)
             ·
              replace c16 := Bool.eq_false_iff.mpr c16
              subst c16
              have H1 : (swarfref04_Orders.l1 k3 l1 l2 x7_1 false x9_1 false (wrap64 (x11_3 + 1)) l0_0 a0_1 l0_2 a0_3 l0_4) = some r := by rw [if_neg (show ¬ (false = true) by decide)] at H; exact H
              clear H
              have H := H1
              clear H1
              have H' := Aside0.mk H
              clear H
              have hcz24_0 : wr.cell? ⟨gb376, 0, none⟩ = some (.slice A0_0 l0_0.length c0_0) := (blk_cell BK376.out 0).trans rfl
              have hcz24_1 : wr.cell? ⟨gb376, 1, none⟩ = some (.int .i64 a0_1) := (blk_cell BK376.out 1).trans rfl
              have hcz24_2 : wr.cell? ⟨gb376, 2, none⟩ = some (.slice A0_2 l0_2.length c0_2) := (blk_cell BK376.out 2).trans rfl
              have hcz24_3 : wr.cell? ⟨gb376, 3, none⟩ = some (.int .i64 a0_3) := (blk_cell BK376.out 3).trans rfl
              have hcz24_4 : wr.cell? ⟨gb376, 4, none⟩ = some (.slice A0_4 l0_4.length c0_4) := (blk_cell BK376.out 4).trans rfl
              have hfz24_0 := blk_frozen BK376.out 0
              have hfz24_1 := blk_frozen BK376.out 1
              have hfz24_2 := blk_frozen BK376.out 2
              have hfz24_3 := blk_frozen BK376.out 3
              have hfz24_4 := blk_frozen BK376.out 4
              have p382 : 0 ≤ (x9_1 : Int) := of_decide_eq_true (by first | (with_reducible assumption) | assumption)
              have q382 : x9_1 < (l0_0.length : Int) := of_decide_eq_true (by first | (with_reducible assumption) | assumption)
              obtain ⟨ad382, A382_0, c382_0, e382, hx382_0, hx382_1, hx382_2, hx382_3, hl382_0, hi382_0⟩ := at_T50 HR0_0.out x9_1 p382 q382
              cases e382
              replace hx382_0 := (HB.out.cell (World.block_lt_of_cell? w _ hx382_0)).trans hx382_0
              replace hx382_1 := (HB.out.cell (World.block_lt_of_cell? w _ hx382_1)).trans hx382_1
              replace hx382_2 := (HB.out.cell (World.block_lt_of_cell? w _ hx382_2)).trans hx382_2
              replace hx382_3 := (HB.out.cell (World.block_lt_of_cell? w _ hx382_3)).trans hx382_3
              have HR382_0 := Aside0.mk hi382_0
              have HC382_0 := Aside0.mk hl382_0
              clear hi382_0 hl382_0
              replace p382 := eq_true p382
              replace q382 := eq_true q382
              have p383 : 0 ≤ (x9_1 : Int) := of_decide_eq_true (by first | (with_reducible assumption) | assumption)
              have q383 : x9_1 < (l0_0.length : Int) := of_decide_eq_true (by first | (with_reducible assumption) | assumption)
              obtain ⟨ad383, A383_0, c383_0, e383, hx383_0, hx383_1, hx383_2, hx383_3, hl383_0, hi383_0⟩ := at_T50 HR0_0.out x9_1 p383 q383
              obtain rfl : ad382 = ad383 := (by injection e383)
              replace hx383_0 := (HB.out.cell (World.block_lt_of_cell? w _ hx383_0)).trans hx383_0
              replace hx383_1 := (HB.out.cell (World.block_lt_of_cell? w _ hx383_1)).trans hx383_1
              replace hx383_2 := (HB.out.cell (World.block_lt_of_cell? w _ hx383_2)).trans hx383_2
              replace hx383_3 := (HB.out.cell (World.block_lt_of_cell? w _ hx383_3)).trans hx383_3
              have HR383_0 := Aside0.mk hi383_0
              have HC383_0 := Aside0.mk hl383_0
              clear hi383_0 hl383_0
              replace p383 := eq_true p383
              replace q383 := eq_true q383
              have ea_ := Option.some.inj (hx382_0.symm.trans hx383_0)
              injection ea_ with ea_ en_ ec_
              subst ea_
              subst ec_
              clear en_
              have p384 : 0 ≤ (x11_3 : Int) := of_decide_eq_true (by first | (with_reducible assumption) | assumption)
              have q384 : x11_3 < (((rd_T50 l0_0 x9_1).f0).length : Int) := of_decide_eq_true (by first | (with_reducible assumption) | assumption)
              obtain ⟨ad384, e384, hx384_0⟩ := Kd.at_int HR383_0.out x11_3 p384 q384
              cases e384
              replace hx384_0 := (HB.out.cell (World.block_lt_of_cell? w _ hx384_0)).trans hx384_0
              replace p384 := eq_true p384
              replace q384 := eq_true q384
              go_wp2
              go_roundg k3
              case measure => have := HK1.out; have := HJ5.out; have := HK3.out; omega
              case rel => exact ⟨(false), (wrap64 (x11_3 + 1)), (by first | rfl | (simp; done) | (simp [*]; done)), (by first | rfl | (simp; done) | (simp [*]; done)), H', ⟨by have := HK1.out; have := HJ5.out; have := HK3.out; omega⟩, ⟨by (with_reducible repeat (first | apply Kd.V_alloc | apply Kd.V_drewN | apply Kd.V_drew)); exact HO_2.out⟩, ⟨by (with_reducible repeat (first | apply Kd.N_alloc | apply Kd.N_drewN | apply Kd.N_drew)); exact HO_7.out⟩, ⟨by (with_reducible repeat (first | refine blk_drewN ?_ _ | refine blk_drew ?_ | refine blk_alloc ?_ _)); exact BK376.out⟩, ⟨by repeat (first | (with_reducible first | exact HB.out | apply below_alloc | apply pw_below_drewN | apply below_drew1 | refine below_set ?_ GE376.out) | exact HB.out)⟩⟩
            ·
             rw [if_neg c15] at H
             exact absurd H (by simp)
           ·
            rw [if_neg c14] at H
            have c14b0 : decide (x11_3 < (((rd_T50 l0_0 x9_1).f0).length : Int)) = false := decide_eq_false c14
            clear c14
            by_cases c25 : x10_3 = true
            ·
             subst c25
             have H1 : ((some (([] : List Int) : List Int)).bind fun y387 => (if y387.length + l2.length < 17592186044416 then ((some (y387 ++ l2 : List Int)).bind fun y390 => ((some (([x9_1] : List Int) : List Int)).bind fun y393 => (if y390.length + y393.length < 17592186044416 then ((swarfref04_Orders.f k3 l0_0 a0_1 l0_2 a0_3 l0_4 l1 (y390 ++ y393)).bind fun t399 => (if x7_1.length + t399.length < 5864062014805 then (swarfref04_Orders.l0 k3 l1 l2 (x7_1 ++ t399) false (wrap64 (x9_1 + 1)) l0_0 a0_1 l0_2 a0_3 l0_4) else (none))) else (none)))) else (none))) = some r := by rw [if_pos rfl] at H; exact H
             clear H
             have H := H1
             clear H1
             obtain ⟨y387, hy387⟩ : ∃ y_ : List Int, y_ = (([] : List Int)) := ⟨_, rfl⟩
             replace H : (if y387.length + l2.length < 17592186044416 then ((some (y387 ++ l2 : List Int)).bind fun y390 => ((some (([x9_1] : List Int) : List Int)).bind fun y393 => (if y390.length + y393.length < 17592186044416 then ((swarfref04_Orders.f k3 l0_0 a0_1 l0_2 a0_3 l0_4 l1 (y390 ++ y393)).bind fun t399 => (if x7_1.length + t399.length < 5864062014805 then (swarfref04_Orders.l0 k3 l1 l2 (x7_1 ++ t399) false (wrap64 (x9_1 + 1)) l0_0 a0_1 l0_2 a0_3 l0_4) else (none))) else (none)))) else (none)) = some r := by first | (rw [hy387]; with_reducible exact H) | (have H2_ := (Option.bind_some _ _).symm.trans H; rw [hy387]; with_reducible exact H2_) | (have H2_ := (Option.bind_some _ _).symm.trans H; with_reducible exact H2_) | with_reducible exact H | (rw [hy387]; exact H) | exact H
             have Ny387 := Aside0.mk hy387
             clear hy387
             by_cases c26 : y387.length + l2.length < 17592186044416
             ·
              rw [if_pos c26] at H
              have LMc26 := Aside0.mk c26
              clear c26
              obtain ⟨y390, hy390⟩ : ∃ y_ : List Int, y_ = (y387 ++ l2) := ⟨_, rfl⟩
              replace H : ((some (([x9_1] : List Int) : List Int)).bind fun y393 => (if y390.length + y393.length < 17592186044416 then ((swarfref04_Orders.f k3 l0_0 a0_1 l0_2 a0_3 l0_4 l1 (y390 ++ y393)).bind fun t399 => (if x7_1.length + t399.length < 5864062014805 then (swarfref04_Orders.l0 k3 l1 l2 (x7_1 ++ t399) false (wrap64 (x9_1 + 1)) l0_0 a0_1 l0_2 a0_3 l0_4) else (none))) else (none))) = some r := by first | (rw [hy390]; with_reducible exact H) | (have H2_ := (Option.bind_some _ _).symm.trans H; rw [hy390]; with_reducible exact H2_) | (have H2_ := (Option.bind_some _ _).symm.trans H; with_reducible exact H2_) | with_reducible exact H | (rw [hy390]; exact H) | exact H
              have Ny390 := Aside0.mk hy390
              clear hy390
              obtain ⟨y393, hy393⟩ : ∃ y_ : List Int, y_ = (([x9_1] : List Int)) := ⟨_, rfl⟩
              replace H : (if y390.length + y393.length < 17592186044416 then ((swarfref04_Orders.f k3 l0_0 a0_1 l0_2 a0_3 l0_4 l1 (y390 ++ y393)).bind fun t399 => (if x7_1.length + t399.length < 5864062014805 then (swarfref04_Orders.l0 k3 l1 l2 (x7_1 ++ t399) false (wrap64 (x9_1 + 1)) l0_0 a0_1 l0_2 a0_3 l0_4) else (none))) else (none)) = some r := by first | (rw [hy393]; with_reducible exact H) | (have H2_ := (Option.bind_some _ _).symm.trans H; rw [hy393]; with_reducible exact H2_) | (have H2_ := (Option.bind_some _ _).symm.trans H; with_reducible exact H2_) | with_reducible exact H | (rw [hy393]; exact H) | exact H
              have Ny393 := Aside0.mk hy393
              clear hy393
              by_cases c27 : y390.length + y393.length < 17592186044416
              ·
               rw [if_pos c27] at H
               have LMc27 := Aside0.mk c27
               clear c27
               obtain ⟨y396, hy396⟩ : ∃ y_ : List Int, y_ = (y390 ++ y393) := ⟨_, rfl⟩
               replace H : ((swarfref04_Orders.f k3 l0_0 a0_1 l0_2 a0_3 l0_4 l1 y396).bind fun t399 => (if x7_1.length + t399.length < 5864062014805 then (swarfref04_Orders.l0 k3 l1 l2 (x7_1 ++ t399) false (wrap64 (x9_1 + 1)) l0_0 a0_1 l0_2 a0_3 l0_4) else (none))) = some r := by first | (rw [hy396]; with_reducible exact H) | (have H2_ := (Option.bind_some _ _).symm.trans H; rw [hy396]; with_reducible exact H2_) | (have H2_ := (Option.bind_some _ _).symm.trans H; with_reducible exact H2_) | with_reducible exact H | (rw [hy396]; exact H) | exact H
               have Ny396 := Aside0.mk hy396
               clear hy396
               replace H := Option.bind_eq_some_iff.mp H
               obtain ⟨t399, A280, H⟩ := H
               replace H : (if x7_1.length + t399.length < 5864062014805 then (swarfref04_Orders.l0 k3 l1 l2 (x7_1 ++ t399) false (wrap64 (x9_1 + 1)) l0_0 a0_1 l0_2 a0_3 l0_4) else (none)) = some r := H
               have A28 := Aside0.mk A280
               clear A280
               by_cases c29 : x7_1.length + t399.length < 5864062014805
               ·
                rw [if_pos c29] at H
                have LMc29 := Aside0.mk c29
                clear c29
                obtain ⟨y402, hy402⟩ : ∃ y_ : List (List Int), y_ = (x7_1 ++ t399) := ⟨_, rfl⟩
                replace H : (swarfref04_Orders.l0 k3 l1 l2 y402 false (wrap64 (x9_1 + 1)) l0_0 a0_1 l0_2 a0_3 l0_4) = some r := by first | (rw [hy402]; with_reducible exact H) | (have H2_ := (Option.bind_some _ _).symm.trans H; rw [hy402]; with_reducible exact H2_) | (have H2_ := (Option.bind_some _ _).symm.trans H; with_reducible exact H2_) | with_reducible exact H | (rw [hy402]; exact H) | exact H
                have Ny402 := Aside0.mk hy402
                clear hy402
                have H' := Aside0.mk H
                clear H
                have hcz30_0 : wr.cell? ⟨gb376, 0, none⟩ = some (.slice A0_0 l0_0.length c0_0) := (blk_cell BK376.out 0).trans rfl
                have hcz30_1 : wr.cell? ⟨gb376, 1, none⟩ = some (.int .i64 a0_1) := (blk_cell BK376.out 1).trans rfl
                have hcz30_2 : wr.cell? ⟨gb376, 2, none⟩ = some (.slice A0_2 l0_2.length c0_2) := (blk_cell BK376.out 2).trans rfl
                have hcz30_3 : wr.cell? ⟨gb376, 3, none⟩ = some (.int .i64 a0_3) := (blk_cell BK376.out 3).trans rfl
                have hcz30_4 : wr.cell? ⟨gb376, 4, none⟩ = some (.slice A0_4 l0_4.length c0_4) := (blk_cell BK376.out 4).trans rfl
                have hfz30_0 := blk_frozen BK376.out 0
                have hfz30_1 := blk_frozen BK376.out 1
                have hfz30_2 := blk_frozen BK376.out 2
                have hfz30_3 := blk_frozen BK376.out 3
                have hfz30_4 := blk_frozen BK376.out 4
                have p382 : 0 ≤ (x9_1 : Int) := of_decide_eq_true (by first | (with_reducible assumption) | assumption)
                have q382 : x9_1 < (l0_0.length : Int) := of_decide_eq_true (by first | (with_reducible assumption) | assumption)
                obtain ⟨ad382, A382_0, c382_0, e382, hx382_0, hx382_1, hx382_2, hx382_3, hl382_0, hi382_0⟩ := at_T50 HR0_0.out x9_1 p382 q382
                cases e382
                replace hx382_0 := (HB.out.cell (World.block_lt_of_cell? w _ hx382_0)).trans hx382_0
                replace hx382_1 := (HB.out.cell (World.block_lt_of_cell? w _ hx382_1)).trans hx382_1
                replace hx382_2 := (HB.out.cell (World.block_lt_of_cell? w _ hx382_2)).trans hx382_2
                replace hx382_3 := (HB.out.cell (World.block_lt_of_cell? w _ hx382_3)).trans hx382_3
                have HR382_0 := Aside0.mk hi382_0
                have HC382_0 := Aside0.mk hl382_0
                clear hi382_0 hl382_0
                replace p382 := eq_true p382
                replace q382 := eq_true q382
                obtain ⟨Ao31, co31, eo31⟩ := Kd.N_slice HO_7.out
                subst eo31
                try go_wp2
                have n0_ := Aside0.mk (Kd.V_drew HO_2.out)
                have n1_ := Aside0.mk (Kd.N_drew HO_7.out)
                have n2_ := Aside0.mk (blk_drew BK376.out)
                have n3_ := Aside0.mk (below_drew1 HB.out)
                clear HO_2 HO_7 BK376 HB
                have HO_2 := n0_
                have HO_7 := n1_
                have BK376 := n2_
                have HB := n3_
                clear n0_ n1_ n2_ n3_
                refine start_ (n := 12) (S := fun w' => w'.cell? ⟨gb376, 0, none⟩ = some (.slice (some ad382) l0_0.length c0_0) ∧ w'.cell? ⟨gb376, 1, none⟩ = some (.int .i64 a0_1) ∧ w'.cell? ⟨gb376, 2, none⟩ = some (.slice A0_2 l0_2.length c0_2) ∧ w'.cell? ⟨gb376, 3, none⟩ = some (.int .i64 a0_3) ∧ w'.cell? ⟨gb376, 4, none⟩ = some (.slice A0_4 l0_4.length c0_4)) (ds := []) #[false, false, false, false, false, false, false, false, false, false, false, false] (by kernel_rfl) rfl rfl ⟨(blk_cell BK376.out 0).trans rfl, (blk_cell BK376.out 1).trans rfl, (blk_cell BK376.out 2).trans rfl, (blk_cell BK376.out 3).trans rfl, (blk_cell BK376.out 4).trans rfl⟩ (fun hHeld => ?_); refine with_tabW swarfref04_Orders.tab15 swarfref04_Orders.bits15 (fun HT_ HW_ => ?_)
                generalize wr.drew = w32 at HO_2 HO_7 BK376 HB hHeld ⊢
                refine pure_ (i := 0) (N := some 63) (v := ?_) (a' := ?_) (bz 12 1) rfl rfl (any_of HT_.out (by kernel_rfl)) (fun _ _ _ h => h) (Or.inl ⟨by rfl, ?_⟩) ?_ ?_
                rotate_left
                ·
                 intro w'
                 go_simp
                 with_reducible rfl
                rotate_left
                ·
                 simp only [Act.put, List.setIfInBounds_toArray, List.set_cons_zero, List.set_cons_succ, i64_w, i32_w]
                 rfl
                refine pure_ (i := 2) (N := some 65) (v := ?_) (a' := ?_) (bz 12 5) rfl rfl (any_of HT_.out (by kernel_rfl)) (fun _ _ _ h => h) (Or.inl ⟨by rfl, ?_⟩) ?_ ?_
                rotate_left
                ·
                 intro w'
                 go_simp
                 with_reducible rfl
                rotate_left
                ·
                 simp only [Act.put, List.setIfInBounds_toArray, List.set_cons_zero, List.set_cons_succ, i64_w, i32_w]
                 rfl
                refine pure_ (i := 4) (N := some 67) (v := ?_) (a' := ?_) (bz 12 21) rfl rfl (any_of HT_.out (by kernel_rfl)) (fun _ _ _ h => h) (Or.inl ⟨by rfl, ?_⟩) ?_ ?_
                rotate_left
                ·
                 intro w'
                 go_simp
                 with_reducible rfl
                rotate_left
                ·
                 simp only [Act.put, List.setIfInBounds_toArray, List.set_cons_zero, List.set_cons_succ, i64_w, i32_w]
                 rfl
                refine pure_ (i := 6) (N := some 69) (v := ?_) (a' := ?_) (bz 12 85) rfl rfl (any_of HT_.out (by kernel_rfl)) (fun _ _ _ h => h) (Or.inl ⟨by rfl, ?_⟩) ?_ ?_
                rotate_left
                ·
                 intro w'
                 go_simp
                 with_reducible rfl
                rotate_left
                ·
                 simp only [Act.put, List.setIfInBounds_toArray, List.set_cons_zero, List.set_cons_succ, i64_w, i32_w]
                 rfl
                refine take_ (i := 1) (N := some 64) (v := ?_) (a' := ?_) (bz 12 87) rfl rfl (take_ofW HT_.out HW_.out (by kernel_rfl)) (fun _ _ _ h => h) (Or.inl ⟨by rfl, ?_⟩) hHeld ?_ ?_
                rotate_left
                ·
                 rintro w' ⟨s0, s1, s2, s3, s4⟩
                 go_simp
                 with_reducible rfl
                rotate_left
                ·
                 simp only [Act.put, List.setIfInBounds_toArray, List.set_cons_zero, List.set_cons_succ, i64_w, i32_w]
                 rfl
                refine join_ (σ := Value × Value × Value) 4 (bz 12 255) (fun s_ => [(66, s_.1), (68, s_.2.1), (70, s_.2.2)]) (fun s_ w' => (w'.cell? ⟨gb376, 0, none⟩ = some (.slice (some ad382) l0_0.length c0_0) ∧ w'.cell? ⟨gb376, 1, none⟩ = some (.int .i64 a0_1) ∧ w'.cell? ⟨gb376, 2, none⟩ = some (.slice A0_2 l0_2.length c0_2) ∧ w'.cell? ⟨gb376, 3, none⟩ = some (.int .i64 a0_3) ∧ w'.cell? ⟨gb376, 4, none⟩ = some (.slice A0_4 l0_4.length c0_4)) ∧ (Kd.R (Kd.int .i64) 3 w' w.heap.size (fun k_ => (w.heap.size ≤ k_) ∧ some k_ ≠ (s_.2.2 : Value).ownBlock) s_.2.1 y390) ∧ (Kd.R (Kd.int .i64) 3 w' w.heap.size (fun k_ => (w.heap.size ≤ k_) ∧ some k_ ≠ (s_.2.1 : Value).ownBlock) s_.2.2 y393) ∧ (Kd.V (Kd.int .i64) 3 w' w.heap.size (fun k_ => (P2_ k_ ∨ w.heap.size ≤ k_) ∧ some k_ ≠ (s_.2.1 : Value).ownBlock ∧ some k_ ≠ (s_.2.2 : Value).ownBlock ∧ some k_ ≠ (.slice Ao31 x7_1.length co31 : Value).ownBlock ∧ k_ ≠ gb376) (.slice A2 l2.length c2) l2) ∧ (Kd.N (Kd.slice 3 (Kd.int .i64)) 24 w' w.heap.size (fun k_ => (P2_ k_ ∨ w.heap.size ≤ k_) ∧ some k_ ≠ (s_.2.1 : Value).ownBlock ∧ some k_ ≠ (s_.2.2 : Value).ownBlock ∧ k_ ≠ gb376) (.slice Ao31 x7_1.length co31) x7_1) ∧ (w'.heap[gb376]? = some (.cells #[.slice (some ad382) l0_0.length c0_0, .int .i64 a0_1, .slice A0_2 l0_2.length c0_2, .int .i64 a0_3, .slice A0_4 l0_4.length c0_4] 26 (0, 0))) ∧ (Below w.heap.size w w')) ?_ ?_
                rotate_left
                ·
                 intro hCont
                 refine two_ (i := 3) (j := 7) (Ni := some 66) (Nj := some 70) (bz 12 95) #[true, true, true, false, true, false, true, true, false, false, false, false] rfl rfl rfl rfl (two_of HT_.out (by kernel_rfl)) (by decide) (by decide) (fun K hK => ?_) (fun K hK => ?_)
                 ·
                  skip
                  refine Kd.R_lit_step (Kd.int .i64) _ 3 ?hg (N := 66) ?hd (xs := ([] : List Int)) (inner := []) (ok := fun _ => True) (okp := fun _ => True) ?hr ?hp (fun _ hk => hk) trivial (Below.refl _ _) (Nat.le_refl _) (by simp) ?_; (case hd => rfl); (case hg => rfl); (case hr => first | (go_simp; done) | (go_simp; rfl)); (case hp => exact (Reps.none _ _))
                  intro v388 w33 ho34 hb hg_ hnew_
                  clear hg_ hnew_
                  (first | rw [← Ny387.out] at ho34 | (simp only [Int.reduceToNat] at ho34; rw [← Ny387.out] at ho34))
                  have n0_ := Aside0.mk (Kd.V_elder' (Kd.V_x HO_2.out) (Kd.R_base ho34) hb)
                  have n1_ := Aside0.mk (Kd.N_elder' (Kd.N_x HO_7.out) (Kd.R_base ho34) hb)
                  have n2_ := Aside0.mk (Kd.R_lower (Kd.R_newM (M := fun k_ => (w.heap.size ≤ k_)) ho34 (below_size (by repeat (first | (with_reducible first | exact HB.out | apply below_alloc | apply pw_below_drewN | apply below_drew1 | refine below_set ?_ GE376.out) | exact HB.out))) (fun k_ h_ => h_)) (below_size (by repeat (first | (with_reducible first | exact HB.out | apply below_alloc | apply pw_below_drewN | apply below_drew1 | refine below_set ?_ GE376.out) | exact HB.out))))
                  have n3_ := Aside0.mk (blk_below (g := gb376) (o := .cells #[.slice (some ad382) l0_0.length c0_0, .int .i64 a0_1, .slice A0_2 l0_2.length c0_2, .int .i64 a0_3, .slice A0_4 l0_4.length c0_4] 26 (0, 0)) (blk_x BK376.out) hb)
                  have n4_ := Aside0.mk (below_step (by repeat (first | (with_reducible first | exact HB.out | apply below_alloc | apply pw_below_drewN | apply below_drew1 | refine below_set ?_ GE376.out) | exact HB.out)) hb)
                  clear HO_2 HO_7 BK376 HB
                  have HO_2 := n0_
                  have HO_7 := n1_
                  have HO389 := n2_
                  have BK376 := n3_
                  have HB := n4_
                  clear n0_ n1_ n2_ n3_ n4_ hb ho34
                  refine hK.out _ _ ⟨(blk_cell BK376.out 0).trans rfl, (blk_cell BK376.out 1).trans rfl, (blk_cell BK376.out 2).trans rfl, (blk_cell BK376.out 3).trans rfl, (blk_cell BK376.out 4).trans rfl⟩ (fun hHeld => ?_)
                  clear hK K
                  refine norm_ (a' := ?_) ?_ ?_
                  rotate_left
                  ·
                   show Act.put _ (some 66) _ = _
                   simp only [Act.put, List.setIfInBounds_toArray, List.set_cons_zero, List.set_cons_succ, i64_w, i32_w]
                   rfl
                  refine two_ (i := 5) (j := 7) (Ni := some 68) (Nj := some 70) (bz 12 127) #[true, true, true, true, true, false, true, true, false, false, false, false] rfl rfl rfl rfl (two_of HT_.out (by kernel_rfl)) (by decide) (by decide) (fun K hK => ?_) (fun K hK => ?_)
                  ·
                   skip
                   refine Kd.R_append_rows_step (Kd.int .i64) (w0 := w) w.heap.size (by rfl) (.tmp 66) (.tmp 67) 24 3 (.int .i64 0) 8 rfl Try.underlying24 info3 rfl (by decide) (by omega) v388 y387 l2 _ _ _ (fun k_ => (w.heap.size ≤ k_)) (fun _ => False) rfl rfl ?aO ?aR (fun _ _ h => h) (fun _ h => h.elim) ?aF ?aB ?aS ?aL ?_
                   (case aR => repeat (first | exact (Kd.V_reads' HO_2.out).2.2 | (with_reducible refine Kd.C_alloc ?_ _) | (with_reducible refine Kd.C_drewN ?_ _) | (with_reducible refine Kd.C_drew ?_)))
                   (case aB => exact (by repeat (first | (with_reducible first | exact HB.out | apply below_alloc | apply pw_below_drewN | apply below_drew1 | refine below_set ?_ GE376.out) | exact HB.out)))
                   (case aF => exact (fun k_ hk => (Nat.le_trans (below_size (by repeat (first | (with_reducible first | exact HB.out | apply below_alloc | apply pw_below_drewN | apply below_drew1 | refine below_set ?_ GE376.out) | exact HB.out))) hk)))
                   (case aO => exact (by (with_reducible repeat (first | apply Kd.R_alloc | apply Kd.R_drewN | apply Kd.R_drew)); exact Kd.R_mono HO389.out (fun _ hk => hk.1)))
                   (case aS => exact (below_size (by repeat (first | (with_reducible first | exact HB.out | apply below_alloc | apply pw_below_drewN | apply below_drew1 | refine below_set ?_ GE376.out) | exact HB.out))))
                   (case aL => have := LMc26.out; omega)
                   intro v391 w35 ho hb hg hat
                   rw [← Ny390.out] at ho
                   have n0_ := Aside0.mk (Kd.V_afterv (ok := (fun k_ => (P2_ k_ ∨ w.heap.size ≤ k_) ∧ some k_ ≠ (.slice Ao31 x7_1.length co31 : Value).ownBlock ∧ k_ ≠ gb376)) (Kd.V_x HO_2.out) hg hat)
                   have n1_ := Aside0.mk (Kd.N_afterv (ok := (fun k_ => (P2_ k_ ∨ w.heap.size ≤ k_) ∧ k_ ≠ gb376)) (Kd.N_x HO_7.out) hg hat)
                   have n2_ := Aside0.mk (blk_grown (g := gb376) (o := .cells #[.slice (some ad382) l0_0.length c0_0, .int .i64 a0_1, .slice A0_2 l0_2.length c0_2, .int .i64 a0_3, .slice A0_4 l0_4.length c0_4] 26 (0, 0)) (blk_x BK376.out) hg (Kd.R_ne HO389.out BK376.out (by decide)))
                   have n3_ := Aside0.mk (hb)
                   have n4_ := Aside0.mk (ho)
                   clear HO_2 HO_7 BK376 HB HO389
                   have HO_2 := n0_
                   have HO_7 := n1_
                   have BK376 := n2_
                   have HB := n3_
                   have HO392 := n4_
                   clear n0_ n1_ n2_ n3_ n4_ ho hb hg hat
                   refine hK.out _ _ ⟨(blk_cell BK376.out 0).trans rfl, (blk_cell BK376.out 1).trans rfl, (blk_cell BK376.out 2).trans rfl, (blk_cell BK376.out 3).trans rfl, (blk_cell BK376.out 4).trans rfl⟩ (fun hHeld => ?_)
                   clear hK K
                   refine norm_ (a' := ?_) ?_ ?_
                   rotate_left
                   ·
                    show Act.put _ (some 68) _ = _
                    simp only [Act.put, List.setIfInBounds_toArray, List.set_cons_zero, List.set_cons_succ, i64_w, i32_w]
                    rfl
                   refine one_ (i := 7) (N := some 70) (bz 12 255) rfl rfl (one_of HT_.out (by kernel_rfl)) (by decide) (fun K hK => ?_)
                   refine Kd.R_lit_step (Kd.int .i64) _ 3 ?hg (N := 70) ?hd (xs := ([x9_1] : List Int)) (inner := [.int .i64 x9_1]) (ok := fun _ => True) (okp := fun _ => True) ?hr ?hp (fun _ hk => hk) trivial (Below.refl _ _) (Nat.le_refl _) (by simp) ?_; (case hd => rfl); (case hg => rfl); (case hr => first | (go_simp; done) | (go_simp; rfl)); (case hp => exact (Reps.one (show Kd.M (Kd.int .i64) _ _ _ x9_1 [.int .i64 x9_1] from rfl) (Reps.none _ _)))
                   intro v394 w36 ho37 hb hg_ hnew_
                   clear hg_ hnew_
                   (first | rw [← Ny393.out] at ho37 | (simp only [Int.reduceToNat] at ho37; rw [← Ny393.out] at ho37))
                   have n0_ := Aside0.mk (Kd.V_elder' (Kd.V_x HO_2.out) (Kd.R_base ho37) hb)
                   have n1_ := Aside0.mk (Kd.N_elder' (Kd.N_x HO_7.out) (Kd.R_base ho37) hb)
                   have n2_ := Aside0.mk (Kd.R_elder' (Kd.R_x HO392.out) (Kd.R_base ho37) hb)
                   have n3_ := Aside0.mk (Kd.R_lower (Kd.R_new' (Kd.R_newM (M := fun k_ => (w.heap.size ≤ k_)) ho37 (below_size (by repeat (first | (with_reducible first | exact HB.out | apply below_alloc | apply pw_below_drewN | apply below_drew1 | refine below_set ?_ GE376.out) | exact HB.out))) (fun k_ h_ => h_)) (Kd.R_lt (Kd.R_x HO392.out))) (below_size (by repeat (first | (with_reducible first | exact HB.out | apply below_alloc | apply pw_below_drewN | apply below_drew1 | refine below_set ?_ GE376.out) | exact HB.out))))
                   have n4_ := Aside0.mk (blk_below (g := gb376) (o := .cells #[.slice (some ad382) l0_0.length c0_0, .int .i64 a0_1, .slice A0_2 l0_2.length c0_2, .int .i64 a0_3, .slice A0_4 l0_4.length c0_4] 26 (0, 0)) (blk_x BK376.out) hb)
                   have n5_ := Aside0.mk (below_step (by repeat (first | (with_reducible first | exact HB.out | apply below_alloc | apply pw_below_drewN | apply below_drew1 | refine below_set ?_ GE376.out) | exact HB.out)) hb)
                   clear HO_2 HO_7 HO392 BK376 HB
                   have HO_2 := n0_
                   have HO_7 := n1_
                   have HO392 := n2_
                   have HO395 := n3_
                   have BK376 := n4_
                   have HB := n5_
                   clear n0_ n1_ n2_ n3_ n4_ n5_ hb ho37
                   refine hK.out _ _ ⟨(blk_cell BK376.out 0).trans rfl, (blk_cell BK376.out 1).trans rfl, (blk_cell BK376.out 2).trans rfl, (blk_cell BK376.out 3).trans rfl, (blk_cell BK376.out 4).trans rfl⟩ (fun hHeld => ?_)
                   clear hK K
                   refine norm_ (a' := ?_) ?_ ?_
                   rotate_left
                   ·
                    show Act.put _ (some 70) _ = _
                    simp only [Act.put, List.setIfInBounds_toArray, List.set_cons_zero, List.set_cons_succ, i64_w, i32_w]
                    rfl
                   exact norm_ (by simp only [putAll, Act.put, List.setIfInBounds_toArray, List.set_cons_zero, List.set_cons_succ]) (hCont (v388, v391, v394) _ ⟨hHeld, (Kd.R_x HO392.out), (by (with_reducible repeat (first | apply Kd.R_alloc | apply Kd.R_drewN | apply Kd.R_drew)); exact Kd.R_mono HO395.out (fun _ hk => ⟨hk.1.1, hk.2⟩)), (by (with_reducible repeat (first | apply Kd.V_alloc | apply Kd.V_drewN | apply Kd.V_drew)); exact Kd.V_mono HO_2.out (fun _ hk => ⟨hk.1.1.1, ⟨hk.1.2, ⟨hk.2, ⟨hk.1.1.2.1, hk.1.1.2.2⟩⟩⟩⟩)), (by (with_reducible repeat (first | apply Kd.N_alloc | apply Kd.N_drewN | apply Kd.N_drew)); exact Kd.N_mono HO_7.out (fun _ hk => ⟨hk.1.1.1, ⟨hk.1.2, ⟨hk.2, hk.1.1.2⟩⟩⟩)), (blk_x BK376.out), (by repeat (first | (with_reducible first | exact HB.out | apply below_alloc | apply pw_below_drewN | apply below_drew1 | refine below_set ?_ GE376.out) | exact HB.out))⟩)
                  ·
                   skip
                   refine Kd.R_lit_step (Kd.int .i64) _ 3 ?hg (N := 70) ?hd (xs := ([x9_1] : List Int)) (inner := [.int .i64 x9_1]) (ok := fun _ => True) (okp := fun _ => True) ?hr ?hp (fun _ hk => hk) trivial (Below.refl _ _) (Nat.le_refl _) (by simp) ?_; (case hd => rfl); (case hg => rfl); (case hr => first | (go_simp; done) | (go_simp; rfl)); (case hp => exact (Reps.one (show Kd.M (Kd.int .i64) _ _ _ x9_1 [.int .i64 x9_1] from rfl) (Reps.none _ _)))
                   intro v394 w35 ho36 hb hg_ hnew_
                   clear hg_ hnew_
                   (first | rw [← Ny393.out] at ho36 | (simp only [Int.reduceToNat] at ho36; rw [← Ny393.out] at ho36))
                   have n0_ := Aside0.mk (Kd.V_elder' (Kd.V_x HO_2.out) (Kd.R_base ho36) hb)
                   have n1_ := Aside0.mk (Kd.N_elder' (Kd.N_x HO_7.out) (Kd.R_base ho36) hb)
                   have n2_ := Aside0.mk (Kd.R_elder' (Kd.R_x HO389.out) (Kd.R_base ho36) hb)
                   have n3_ := Aside0.mk (Kd.R_lower (Kd.R_new' (Kd.R_newM (M := fun k_ => (w.heap.size ≤ k_)) ho36 (below_size (by repeat (first | (with_reducible first | exact HB.out | apply below_alloc | apply pw_below_drewN | apply below_drew1 | refine below_set ?_ GE376.out) | exact HB.out))) (fun k_ h_ => h_)) (Kd.R_lt (Kd.R_x HO389.out))) (below_size (by repeat (first | (with_reducible first | exact HB.out | apply below_alloc | apply pw_below_drewN | apply below_drew1 | refine below_set ?_ GE376.out) | exact HB.out))))
                   have n4_ := Aside0.mk (blk_below (g := gb376) (o := .cells #[.slice (some ad382) l0_0.length c0_0, .int .i64 a0_1, .slice A0_2 l0_2.length c0_2, .int .i64 a0_3, .slice A0_4 l0_4.length c0_4] 26 (0, 0)) (blk_x BK376.out) hb)
                   have n5_ := Aside0.mk (below_step (by repeat (first | (with_reducible first | exact HB.out | apply below_alloc | apply pw_below_drewN | apply below_drew1 | refine below_set ?_ GE376.out) | exact HB.out)) hb)
                   clear HO_2 HO_7 HO389 BK376 HB
                   have HO_2 := n0_
                   have HO_7 := n1_
                   have HO389 := n2_
                   have HO395 := n3_
                   have BK376 := n4_
                   have HB := n5_
                   clear n0_ n1_ n2_ n3_ n4_ n5_ hb ho36
                   refine hK.out _ _ ⟨(blk_cell BK376.out 0).trans rfl, (blk_cell BK376.out 1).trans rfl, (blk_cell BK376.out 2).trans rfl, (blk_cell BK376.out 3).trans rfl, (blk_cell BK376.out 4).trans rfl⟩ (fun hHeld => ?_)
                   clear hK K
                   refine norm_ (a' := ?_) ?_ ?_
                   rotate_left
                   ·
                    show Act.put _ (some 70) _ = _
                    simp only [Act.put, List.setIfInBounds_toArray, List.set_cons_zero, List.set_cons_succ, i64_w, i32_w]
                    rfl
                   refine one_ (i := 5) (N := some 68) (bz 12 255) rfl rfl (one_of HT_.out (by kernel_rfl)) (by decide) (fun K hK => ?_)
                   refine Kd.R_append_rows_step (Kd.int .i64) (w0 := w) w.heap.size (by rfl) (.tmp 66) (.tmp 67) 24 3 (.int .i64 0) 8 rfl Try.underlying24 info3 rfl (by decide) (by omega) v388 y387 l2 _ _ _ (fun k_ => (w.heap.size ≤ k_) ∧ some k_ ≠ (v394 : Value).ownBlock) (fun _ => False) rfl rfl ?aO ?aR (fun _ _ h => h) (fun _ h => h.elim) ?aF ?aB ?aS ?aL ?_
                   (case aR => repeat (first | exact (Kd.V_reads' HO_2.out).2.2 | (with_reducible refine Kd.C_alloc ?_ _) | (with_reducible refine Kd.C_drewN ?_ _) | (with_reducible refine Kd.C_drew ?_)))
                   (case aB => exact (by repeat (first | (with_reducible first | exact HB.out | apply below_alloc | apply pw_below_drewN | apply below_drew1 | refine below_set ?_ GE376.out) | exact HB.out)))
                   (case aF => exact (fun k_ hk => ⟨(Nat.le_trans (below_size (by repeat (first | (with_reducible first | exact HB.out | apply below_alloc | apply pw_below_drewN | apply below_drew1 | refine below_set ?_ GE376.out) | exact HB.out))) hk), Kd.fresh' (Kd.R_lt (Kd.R_x HO395.out)) k_ hk⟩))
                   (case aO => exact (by (with_reducible repeat (first | apply Kd.R_alloc | apply Kd.R_drewN | apply Kd.R_drew)); exact Kd.R_mono HO389.out (fun _ hk => ⟨hk.1.1, hk.2⟩)))
                   (case aS => exact (below_size (by repeat (first | (with_reducible first | exact HB.out | apply below_alloc | apply pw_below_drewN | apply below_drew1 | refine below_set ?_ GE376.out) | exact HB.out))))
                   (case aL => have := LMc26.out; omega)
                   intro v391 w37 ho hb hg hat
                   rw [← Ny390.out] at ho
                   have n0_ := Aside0.mk (Kd.V_afterv (ok := (fun k_ => (P2_ k_ ∨ w.heap.size ≤ k_) ∧ some k_ ≠ (.slice Ao31 x7_1.length co31 : Value).ownBlock ∧ some k_ ≠ (v394 : Value).ownBlock ∧ k_ ≠ gb376)) (by (with_reducible repeat (first | apply Kd.V_alloc | apply Kd.V_drewN | apply Kd.V_drew)); exact Kd.V_mono HO_2.out (fun _ hk => ⟨⟨hk.1.1.1, ⟨hk.1.1.2.1, ⟨hk.2, hk.1.1.2.2⟩⟩⟩, hk.1.2⟩)) hg hat)
                   have n1_ := Aside0.mk (Kd.N_afterv (ok := (fun k_ => (P2_ k_ ∨ w.heap.size ≤ k_) ∧ some k_ ≠ (v394 : Value).ownBlock ∧ k_ ≠ gb376)) (by (with_reducible repeat (first | apply Kd.N_alloc | apply Kd.N_drewN | apply Kd.N_drew)); exact Kd.N_mono HO_7.out (fun _ hk => ⟨⟨hk.1.1.1, ⟨hk.2, hk.1.1.2⟩⟩, hk.1.2⟩)) hg hat)
                   have n2_ := Aside0.mk (blk_grown (g := gb376) (o := .cells #[.slice (some ad382) l0_0.length c0_0, .int .i64 a0_1, .slice A0_2 l0_2.length c0_2, .int .i64 a0_3, .slice A0_4 l0_4.length c0_4] 26 (0, 0)) (blk_x BK376.out) hg (Kd.R_ne HO389.out BK376.out (by decide)))
                   have n3_ := Aside0.mk (Kd.R_after (ok := (fun k_ => (w.heap.size ≤ k_))) (by (with_reducible repeat (first | apply Kd.R_alloc | apply Kd.R_drewN | apply Kd.R_drew)); exact Kd.R_mono HO395.out (fun _ hk => ⟨hk.1.1, hk.2⟩)) hg hat)
                   have n4_ := Aside0.mk (hb)
                   have n5_ := Aside0.mk (ho)
                   clear HO_2 HO_7 BK376 HO395 HB HO389
                   have HO_2 := n0_
                   have HO_7 := n1_
                   have BK376 := n2_
                   have HO395 := n3_
                   have HB := n4_
                   have HO392 := n5_
                   clear n0_ n1_ n2_ n3_ n4_ n5_ ho hb hg hat
                   refine hK.out _ _ ⟨(blk_cell BK376.out 0).trans rfl, (blk_cell BK376.out 1).trans rfl, (blk_cell BK376.out 2).trans rfl, (blk_cell BK376.out 3).trans rfl, (blk_cell BK376.out 4).trans rfl⟩ (fun hHeld => ?_)
                   clear hK K
                   refine norm_ (a' := ?_) ?_ ?_
                   rotate_left
                   ·
                    show Act.put _ (some 68) _ = _
                    simp only [Act.put, List.setIfInBounds_toArray, List.set_cons_zero, List.set_cons_succ, i64_w, i32_w]
                    rfl
                   exact norm_ (by simp only [putAll, Act.put, List.setIfInBounds_toArray, List.set_cons_zero, List.set_cons_succ]) (hCont (v388, v391, v394) _ ⟨hHeld, (Kd.R_x HO392.out), (Kd.R_x HO395.out), (by (with_reducible repeat (first | apply Kd.V_alloc | apply Kd.V_drewN | apply Kd.V_drew)); exact Kd.V_mono HO_2.out (fun _ hk => ⟨hk.1.1, ⟨hk.2, ⟨hk.1.2.2.1, ⟨hk.1.2.1, hk.1.2.2.2⟩⟩⟩⟩)), (by (with_reducible repeat (first | apply Kd.N_alloc | apply Kd.N_drewN | apply Kd.N_drew)); exact Kd.N_mono HO_7.out (fun _ hk => ⟨hk.1.1, ⟨hk.2, ⟨hk.1.2.1, hk.1.2.2⟩⟩⟩)), (blk_x BK376.out), (by repeat (first | (with_reducible first | exact HB.out | apply below_alloc | apply pw_below_drewN | apply below_drew1 | refine below_set ?_ GE376.out) | exact HB.out))⟩)
                 ·
                  skip
                  refine Kd.R_lit_step (Kd.int .i64) _ 3 ?hg (N := 70) ?hd (xs := ([x9_1] : List Int)) (inner := [.int .i64 x9_1]) (ok := fun _ => True) (okp := fun _ => True) ?hr ?hp (fun _ hk => hk) trivial (Below.refl _ _) (Nat.le_refl _) (by simp) ?_; (case hd => rfl); (case hg => rfl); (case hr => first | (go_simp; done) | (go_simp; rfl)); (case hp => exact (Reps.one (show Kd.M (Kd.int .i64) _ _ _ x9_1 [.int .i64 x9_1] from rfl) (Reps.none _ _)))
                  intro v394 w33 ho34 hb hg_ hnew_
                  clear hg_ hnew_
                  (first | rw [← Ny393.out] at ho34 | (simp only [Int.reduceToNat] at ho34; rw [← Ny393.out] at ho34))
                  have n0_ := Aside0.mk (Kd.V_elder' (Kd.V_x HO_2.out) (Kd.R_base ho34) hb)
                  have n1_ := Aside0.mk (Kd.N_elder' (Kd.N_x HO_7.out) (Kd.R_base ho34) hb)
                  have n2_ := Aside0.mk (Kd.R_lower (Kd.R_newM (M := fun k_ => (w.heap.size ≤ k_)) ho34 (below_size (by repeat (first | (with_reducible first | exact HB.out | apply below_alloc | apply pw_below_drewN | apply below_drew1 | refine below_set ?_ GE376.out) | exact HB.out))) (fun k_ h_ => h_)) (below_size (by repeat (first | (with_reducible first | exact HB.out | apply below_alloc | apply pw_below_drewN | apply below_drew1 | refine below_set ?_ GE376.out) | exact HB.out))))
                  have n3_ := Aside0.mk (blk_below (g := gb376) (o := .cells #[.slice (some ad382) l0_0.length c0_0, .int .i64 a0_1, .slice A0_2 l0_2.length c0_2, .int .i64 a0_3, .slice A0_4 l0_4.length c0_4] 26 (0, 0)) (blk_x BK376.out) hb)
                  have n4_ := Aside0.mk (below_step (by repeat (first | (with_reducible first | exact HB.out | apply below_alloc | apply pw_below_drewN | apply below_drew1 | refine below_set ?_ GE376.out) | exact HB.out)) hb)
                  clear HO_2 HO_7 BK376 HB
                  have HO_2 := n0_
                  have HO_7 := n1_
                  have HO395 := n2_
                  have BK376 := n3_
                  have HB := n4_
                  clear n0_ n1_ n2_ n3_ n4_ hb ho34
                  refine hK.out _ _ ⟨(blk_cell BK376.out 0).trans rfl, (blk_cell BK376.out 1).trans rfl, (blk_cell BK376.out 2).trans rfl, (blk_cell BK376.out 3).trans rfl, (blk_cell BK376.out 4).trans rfl⟩ (fun hHeld => ?_)
                  clear hK K
                  refine norm_ (a' := ?_) ?_ ?_
                  rotate_left
                  ·
                   show Act.put _ (some 70) _ = _
                   simp only [Act.put, List.setIfInBounds_toArray, List.set_cons_zero, List.set_cons_succ, i64_w, i32_w]
                   rfl
                  refine one_ (i := 3) (N := some 66) (bz 12 223) rfl rfl (one_of HT_.out (by kernel_rfl)) (by decide) (fun K hK => ?_)
                  refine Kd.R_lit_step (Kd.int .i64) _ 3 ?hg (N := 66) ?hd (xs := ([] : List Int)) (inner := []) (ok := fun _ => True) (okp := fun _ => True) ?hr ?hp (fun _ hk => hk) trivial (Below.refl _ _) (Nat.le_refl _) (by simp) ?_; (case hd => rfl); (case hg => rfl); (case hr => first | (go_simp; done) | (go_simp; rfl)); (case hp => exact (Reps.none _ _))
                  intro v388 w35 ho36 hb hg_ hnew_
                  clear hg_ hnew_
                  (first | rw [← Ny387.out] at ho36 | (simp only [Int.reduceToNat] at ho36; rw [← Ny387.out] at ho36))
                  have n0_ := Aside0.mk (Kd.V_elder' (Kd.V_x HO_2.out) (Kd.R_base ho36) hb)
                  have n1_ := Aside0.mk (Kd.N_elder' (Kd.N_x HO_7.out) (Kd.R_base ho36) hb)
                  have n2_ := Aside0.mk (Kd.R_elder' (Kd.R_x HO395.out) (Kd.R_base ho36) hb)
                  have n3_ := Aside0.mk (Kd.R_lower (Kd.R_new' (Kd.R_newM (M := fun k_ => (w.heap.size ≤ k_)) ho36 (below_size (by repeat (first | (with_reducible first | exact HB.out | apply below_alloc | apply pw_below_drewN | apply below_drew1 | refine below_set ?_ GE376.out) | exact HB.out))) (fun k_ h_ => h_)) (Kd.R_lt (Kd.R_x HO395.out))) (below_size (by repeat (first | (with_reducible first | exact HB.out | apply below_alloc | apply pw_below_drewN | apply below_drew1 | refine below_set ?_ GE376.out) | exact HB.out))))
                  have n4_ := Aside0.mk (blk_below (g := gb376) (o := .cells #[.slice (some ad382) l0_0.length c0_0, .int .i64 a0_1, .slice A0_2 l0_2.length c0_2, .int .i64 a0_3, .slice A0_4 l0_4.length c0_4] 26 (0, 0)) (blk_x BK376.out) hb)
                  have n5_ := Aside0.mk (below_step (by repeat (first | (with_reducible first | exact HB.out | apply below_alloc | apply pw_below_drewN | apply below_drew1 | refine below_set ?_ GE376.out) | exact HB.out)) hb)
                  clear HO_2 HO_7 HO395 BK376 HB
                  have HO_2 := n0_
                  have HO_7 := n1_
                  have HO395 := n2_
                  have HO389 := n3_
                  have BK376 := n4_
                  have HB := n5_
                  clear n0_ n1_ n2_ n3_ n4_ n5_ hb ho36
                  refine hK.out _ _ ⟨(blk_cell BK376.out 0).trans rfl, (blk_cell BK376.out 1).trans rfl, (blk_cell BK376.out 2).trans rfl, (blk_cell BK376.out 3).trans rfl, (blk_cell BK376.out 4).trans rfl⟩ (fun hHeld => ?_)
                  clear hK K
                  refine norm_ (a' := ?_) ?_ ?_
                  rotate_left
                  ·
                   show Act.put _ (some 66) _ = _
                   simp only [Act.put, List.setIfInBounds_toArray, List.set_cons_zero, List.set_cons_succ, i64_w, i32_w]
                   rfl
                  refine one_ (i := 5) (N := some 68) (bz 12 255) rfl rfl (one_of HT_.out (by kernel_rfl)) (by decide) (fun K hK => ?_)
                  refine Kd.R_append_rows_step (Kd.int .i64) (w0 := w) w.heap.size (by rfl) (.tmp 66) (.tmp 67) 24 3 (.int .i64 0) 8 rfl Try.underlying24 info3 rfl (by decide) (by omega) v388 y387 l2 _ _ _ (fun k_ => (w.heap.size ≤ k_) ∧ some k_ ≠ (v394 : Value).ownBlock) (fun _ => False) rfl rfl ?aO ?aR (fun _ _ h => h) (fun _ h => h.elim) ?aF ?aB ?aS ?aL ?_
                  (case aR => repeat (first | exact (Kd.V_reads' HO_2.out).2.2 | (with_reducible refine Kd.C_alloc ?_ _) | (with_reducible refine Kd.C_drewN ?_ _) | (with_reducible refine Kd.C_drew ?_)))
                  (case aB => exact (by repeat (first | (with_reducible first | exact HB.out | apply below_alloc | apply pw_below_drewN | apply below_drew1 | refine below_set ?_ GE376.out) | exact HB.out)))
                  (case aF => exact (fun k_ hk => ⟨(Nat.le_trans (below_size (by repeat (first | (with_reducible first | exact HB.out | apply below_alloc | apply pw_below_drewN | apply below_drew1 | refine below_set ?_ GE376.out) | exact HB.out))) hk), Kd.fresh' (Kd.R_lt (Kd.R_x HO395.out)) k_ hk⟩))
                  (case aO => exact (by (with_reducible repeat (first | apply Kd.R_alloc | apply Kd.R_drewN | apply Kd.R_drew)); exact Kd.R_mono HO389.out (fun _ hk => ⟨hk.1.1, hk.2⟩)))
                  (case aS => exact (below_size (by repeat (first | (with_reducible first | exact HB.out | apply below_alloc | apply pw_below_drewN | apply below_drew1 | refine below_set ?_ GE376.out) | exact HB.out))))
                  (case aL => have := LMc26.out; omega)
                  intro v391 w37 ho hb hg hat
                  rw [← Ny390.out] at ho
                  have n0_ := Aside0.mk (Kd.V_afterv (ok := (fun k_ => (P2_ k_ ∨ w.heap.size ≤ k_) ∧ some k_ ≠ (.slice Ao31 x7_1.length co31 : Value).ownBlock ∧ some k_ ≠ (v394 : Value).ownBlock ∧ k_ ≠ gb376)) (by (with_reducible repeat (first | apply Kd.V_alloc | apply Kd.V_drewN | apply Kd.V_drew)); exact Kd.V_mono HO_2.out (fun _ hk => ⟨⟨hk.1.1.1, ⟨hk.1.1.2.1, ⟨hk.1.2, hk.1.1.2.2⟩⟩⟩, hk.2⟩)) hg hat)
                  have n1_ := Aside0.mk (Kd.N_afterv (ok := (fun k_ => (P2_ k_ ∨ w.heap.size ≤ k_) ∧ some k_ ≠ (v394 : Value).ownBlock ∧ k_ ≠ gb376)) (by (with_reducible repeat (first | apply Kd.N_alloc | apply Kd.N_drewN | apply Kd.N_drew)); exact Kd.N_mono HO_7.out (fun _ hk => ⟨⟨hk.1.1.1, ⟨hk.1.2, hk.1.1.2⟩⟩, hk.2⟩)) hg hat)
                  have n2_ := Aside0.mk (blk_grown (g := gb376) (o := .cells #[.slice (some ad382) l0_0.length c0_0, .int .i64 a0_1, .slice A0_2 l0_2.length c0_2, .int .i64 a0_3, .slice A0_4 l0_4.length c0_4] 26 (0, 0)) (blk_x BK376.out) hg (Kd.R_ne HO389.out BK376.out (by decide)))
                  have n3_ := Aside0.mk (Kd.R_after (ok := (fun k_ => (w.heap.size ≤ k_))) (by (with_reducible repeat (first | apply Kd.R_alloc | apply Kd.R_drewN | apply Kd.R_drew)); exact Kd.R_mono HO395.out (fun _ hk => ⟨hk.1.1, hk.2⟩)) hg hat)
                  have n4_ := Aside0.mk (hb)
                  have n5_ := Aside0.mk (ho)
                  clear HO_2 HO_7 BK376 HO395 HB HO389
                  have HO_2 := n0_
                  have HO_7 := n1_
                  have BK376 := n2_
                  have HO395 := n3_
                  have HB := n4_
                  have HO392 := n5_
                  clear n0_ n1_ n2_ n3_ n4_ n5_ ho hb hg hat
                  refine hK.out _ _ ⟨(blk_cell BK376.out 0).trans rfl, (blk_cell BK376.out 1).trans rfl, (blk_cell BK376.out 2).trans rfl, (blk_cell BK376.out 3).trans rfl, (blk_cell BK376.out 4).trans rfl⟩ (fun hHeld => ?_)
                  clear hK K
                  refine norm_ (a' := ?_) ?_ ?_
                  rotate_left
                  ·
                   show Act.put _ (some 68) _ = _
                   simp only [Act.put, List.setIfInBounds_toArray, List.set_cons_zero, List.set_cons_succ, i64_w, i32_w]
                   rfl
                  exact norm_ (by simp only [putAll, Act.put, List.setIfInBounds_toArray, List.set_cons_zero, List.set_cons_succ]) (hCont (v388, v391, v394) _ ⟨hHeld, (Kd.R_x HO392.out), (Kd.R_x HO395.out), (by (with_reducible repeat (first | apply Kd.V_alloc | apply Kd.V_drewN | apply Kd.V_drew)); exact Kd.V_mono HO_2.out (fun _ hk => ⟨hk.1.1, ⟨hk.2, ⟨hk.1.2.2.1, ⟨hk.1.2.1, hk.1.2.2.2⟩⟩⟩⟩)), (by (with_reducible repeat (first | apply Kd.N_alloc | apply Kd.N_drewN | apply Kd.N_drew)); exact Kd.N_mono HO_7.out (fun _ hk => ⟨hk.1.1, ⟨hk.2, ⟨hk.1.2.1, hk.1.2.2⟩⟩⟩)), (blk_x BK376.out), (by repeat (first | (with_reducible first | exact HB.out | apply below_alloc | apply pw_below_drewN | apply below_drew1 | refine below_set ?_ GE376.out) | exact HB.out))⟩)
                rintro ⟨v388, v391, v394⟩ w38 ⟨hS_, h0_, h1_, h2_, h3_, h4_, h5_⟩
                have n0_ : Aside0 (Kd.R (Kd.int .i64) 3 w38 w.heap.size (fun k_ => (w.heap.size ≤ k_) ∧ some k_ ≠ (v394 : Value).ownBlock) v391 y390) := ⟨h0_⟩
                have n1_ : Aside0 (Kd.R (Kd.int .i64) 3 w38 w.heap.size (fun k_ => (w.heap.size ≤ k_) ∧ some k_ ≠ (v391 : Value).ownBlock) v394 y393) := ⟨h1_⟩
                have n2_ : Aside0 (Kd.V (Kd.int .i64) 3 w38 w.heap.size (fun k_ => (P2_ k_ ∨ w.heap.size ≤ k_) ∧ some k_ ≠ (v391 : Value).ownBlock ∧ some k_ ≠ (v394 : Value).ownBlock ∧ some k_ ≠ (.slice Ao31 x7_1.length co31 : Value).ownBlock ∧ k_ ≠ gb376) (.slice A2 l2.length c2) l2) := ⟨h2_⟩
                have n3_ : Aside0 (Kd.N (Kd.slice 3 (Kd.int .i64)) 24 w38 w.heap.size (fun k_ => (P2_ k_ ∨ w.heap.size ≤ k_) ∧ some k_ ≠ (v391 : Value).ownBlock ∧ some k_ ≠ (v394 : Value).ownBlock ∧ k_ ≠ gb376) (.slice Ao31 x7_1.length co31) x7_1) := ⟨h3_⟩
                have n4_ : Aside0 (w38.heap[gb376]? = some (.cells #[.slice (some ad382) l0_0.length c0_0, .int .i64 a0_1, .slice A0_2 l0_2.length c0_2, .int .i64 a0_3, .slice A0_4 l0_4.length c0_4] 26 (0, 0))) := ⟨h4_⟩
                have n5_ : Aside0 (Below w.heap.size w w38) := ⟨h5_⟩
                clear HO_2 HO_7 BK376 HB h0_ h1_ h2_ h3_ h4_ h5_
                have HO392 := n0_
                have HO395 := n1_
                have HO_2 := n2_
                have HO_7 := n3_
                have BK376 := n4_
                have HB := n5_
                clear n0_ n1_ n2_ n3_ n4_ n5_
                have hHeld : w38.cell? ⟨gb376, 0, none⟩ = some (.slice (some ad382) l0_0.length c0_0) ∧ w38.cell? ⟨gb376, 1, none⟩ = some (.int .i64 a0_1) ∧ w38.cell? ⟨gb376, 2, none⟩ = some (.slice A0_2 l0_2.length c0_2) ∧ w38.cell? ⟨gb376, 3, none⟩ = some (.int .i64 a0_3) ∧ w38.cell? ⟨gb376, 4, none⟩ = some (.slice A0_4 l0_4.length c0_4) := hS_
                obtain ⟨Ao40, co40, eo40⟩ := Kd.R_slice HO395.out
                (first | subst eo40 | (injection eo40 with f1_ f2_ f3_; have f4_ := f1_.symm; have f5_ := f3_.symm; clear f1_ f2_ f3_; subst f4_; subst f5_))
                refine norm_ (a' := ?_) ?_ ?_
                rotate_left
                ·
                 simp only [putAll, Act.put, List.setIfInBounds_toArray, List.set_cons_zero, List.set_cons_succ]
                 rfl
                refine one_ (i := 8) (N := some 71) (bz 12 511) rfl rfl (one_of HT_.out (by kernel_rfl)) (by decide) (fun K hK => ?_)
                refine Kd.R_append_rows_step (Kd.int .i64) (w0 := w) w.heap.size (by rfl) (.tmp 68) (.tmp 70) 24 3 (.int .i64 0) 8 rfl Try.underlying24 info3 rfl (by decide) (by omega) v391 y390 y393 _ _ _ (fun k_ => (w.heap.size ≤ k_) ∧ some k_ ≠ (.slice Ao40 y393.length co40 : Value).ownBlock) (fun _ => False) rfl rfl ?aO ?aR (fun _ _ h => h) (fun _ h => h.elim) ?aF ?aB ?aS ?aL ?_
                (case aR => repeat (first | exact (Kd.R_reads' HO395.out).2.2 | (with_reducible refine Kd.C_alloc ?_ _) | (with_reducible refine Kd.C_drewN ?_ _) | (with_reducible refine Kd.C_drew ?_)))
                (case aB => exact (by repeat (first | (with_reducible first | exact HB.out | apply below_alloc | apply pw_below_drewN | apply below_drew1 | refine below_set ?_ GE376.out) | exact HB.out)))
                (case aF => exact (fun k_ hk => ⟨(Nat.le_trans (below_size (by repeat (first | (with_reducible first | exact HB.out | apply below_alloc | apply pw_below_drewN | apply below_drew1 | refine below_set ?_ GE376.out) | exact HB.out))) hk), Kd.fresh' (Kd.R_lt (Kd.R_x HO395.out)) k_ hk⟩))
                (case aO => exact (Kd.R_x HO392.out))
                (case aS => exact (below_size (by repeat (first | (with_reducible first | exact HB.out | apply below_alloc | apply pw_below_drewN | apply below_drew1 | refine below_set ?_ GE376.out) | exact HB.out))))
                (case aL => have := LMc27.out; omega)
                intro v397 w39 ho hb hg hat
                rw [← Ny396.out] at ho
                have n0_ := Aside0.mk (Kd.V_afterv (ok := (fun k_ => (P2_ k_ ∨ w.heap.size ≤ k_) ∧ some k_ ≠ (.slice Ao31 x7_1.length co31 : Value).ownBlock ∧ some k_ ≠ (.slice Ao40 y393.length co40 : Value).ownBlock ∧ k_ ≠ gb376)) (by (with_reducible repeat (first | apply Kd.V_alloc | apply Kd.V_drewN | apply Kd.V_drew)); exact Kd.V_mono HO_2.out (fun _ hk => ⟨⟨hk.1, ⟨hk.2.2.2.1, ⟨hk.2.2.1, hk.2.2.2.2⟩⟩⟩, hk.2.1⟩)) hg hat)
                have n1_ := Aside0.mk (Kd.N_afterv (ok := (fun k_ => (P2_ k_ ∨ w.heap.size ≤ k_) ∧ some k_ ≠ (.slice Ao40 y393.length co40 : Value).ownBlock ∧ k_ ≠ gb376)) (by (with_reducible repeat (first | apply Kd.N_alloc | apply Kd.N_drewN | apply Kd.N_drew)); exact Kd.N_mono HO_7.out (fun _ hk => ⟨⟨hk.1, ⟨hk.2.2.1, hk.2.2.2⟩⟩, hk.2.1⟩)) hg hat)
                have n2_ := Aside0.mk (blk_grown (g := gb376) (o := .cells #[.slice (some ad382) l0_0.length c0_0, .int .i64 a0_1, .slice A0_2 l0_2.length c0_2, .int .i64 a0_3, .slice A0_4 l0_4.length c0_4] 26 (0, 0)) (blk_x BK376.out) hg (Kd.R_ne HO392.out BK376.out (by decide)))
                have n3_ := Aside0.mk (Kd.R_after (ok := (fun k_ => (w.heap.size ≤ k_))) (Kd.R_x HO395.out) hg hat)
                have n4_ := Aside0.mk (hb)
                have n5_ := Aside0.mk (ho)
                clear HO_2 HO_7 BK376 HO395 HB HO392
                have HO_2 := n0_
                have HO_7 := n1_
                have BK376 := n2_
                have HO395 := n3_
                have HB := n4_
                have HO398 := n5_
                clear n0_ n1_ n2_ n3_ n4_ n5_ ho hb hg hat
                obtain ⟨Ao41, co41, eo41⟩ := Kd.R_slice HO398.out
                (first | subst eo41 | (injection eo41 with f1_ f2_ f3_; have f4_ := f1_.symm; have f5_ := f3_.symm; clear f1_ f2_ f3_; subst f4_; subst f5_))
                refine hK.out _ _ ⟨(blk_cell BK376.out 0).trans rfl, (blk_cell BK376.out 1).trans rfl, (blk_cell BK376.out 2).trans rfl, (blk_cell BK376.out 3).trans rfl, (blk_cell BK376.out 4).trans rfl⟩ (fun hHeld => ?_)
                clear hK K
                refine norm_ (a' := ?_) ?_ ?_
                rotate_left
                ·
                 show Act.put _ (some 71) _ = _
                 simp only [Act.put, List.setIfInBounds_toArray, List.set_cons_zero, List.set_cons_succ, i64_w, i32_w]
                 rfl
                refine one_ (i := 9) (N := some 72) (bz 12 1023) rfl rfl (one_of HT_.out (by kernel_rfl)) (by decide) (fun K hK => ?_)
                refine goes_ Try.func33 (by kernel_rfl) rfl #[.agg #[.slice (some ad382) l0_0.length c0_0, .int .i64 a0_1, .slice A0_2 l0_2.length c0_2, .int .i64 a0_3, .slice A0_4 l0_4.length c0_4], .slice A1 l1.length c1, .slice Ao41 y396.length co41] (by rfl) rfl rfl (by (try simp only [List.map_toArray, List.map_cons, List.map_nil]); first | done | rfl | (simp only [List.length_drop, List.length_take]; rfl)) ?_
                with_reducible refine (ih k3 (by have := HK1.out; have := HJ5.out; have := HK3.out; omega) _ _ l0_0 a0_1 _ _ l0_2 a0_3 _ _ l0_4 _ _ l1 (fun k_ => some k_ = (.slice Ao41 y396.length co41 : Value).ownBlock) _ _ y396 t399 _ ?side1 ?side2 ?side3 ?side4 ?side5 ?side6 ?side7 ?side8 ?side9 A28.out).mono ?_
                (case side1 => repeat (first | exact (Kd.C_below HR0_0.out HB.out) | (with_reducible refine Kd.C_alloc ?_ _) | (with_reducible refine Kd.C_drewN ?_ _) | (with_reducible refine Kd.C_drew ?_)))
                (case side2 => exact HC0_0.out)
                (case side3 => repeat (first | exact (Kd.C_below HR0_2.out HB.out) | (with_reducible refine Kd.C_alloc ?_ _) | (with_reducible refine Kd.C_drewN ?_ _) | (with_reducible refine Kd.C_drew ?_)))
                (case side4 => exact HC0_2.out)
                (case side5 => repeat (first | exact (Kd.C_below HR0_4.out HB.out) | (with_reducible refine Kd.C_alloc ?_ _) | (with_reducible refine Kd.C_drewN ?_ _) | (with_reducible refine Kd.C_drew ?_)))
                (case side6 => exact HC0_4.out)
                (case side7 => repeat (first | exact (Kd.C_below HR1.out HB.out) | (with_reducible refine Kd.C_alloc ?_ _) | (with_reducible refine Kd.C_drewN ?_ _) | (with_reducible refine Kd.C_drew ?_)))
                (case side8 => exact HC1.out)
                (case side9 => exact Kd.R_V (Kd.R_tight rfl (Kd.R_types (Kd.R_apart' (HO398.out) (Kd.N_typed HO_7.out) (by decide)) BK376.out (by decide))))
                rintro e w42 ⟨v400, rfl, ho0, hb⟩
                refine ⟨_, rfl, ?_⟩
                have n0_ := Aside0.mk (Kd.V_elder' (Kd.V_x HO_2.out) (Kd.N_base ho0) hb)
                have n1_ := Aside0.mk (Kd.N_elder' (Kd.N_x HO_7.out) (Kd.N_base ho0) hb)
                have n2_ := Aside0.mk (Kd.R_below (Kd.R_x HO395.out) hb)
                have n3_ := Aside0.mk (Kd.R_below (Kd.R_x HO398.out) hb)
                have n4_ := Aside0.mk (Kd.N_lower (Kd.N_mono (ok' := fun k_ => (P2_ k_ ∨ w.heap.size ≤ k_) ∧ some k_ ≠ (.slice Ao31 x7_1.length co31 : Value).ownBlock ∧ some k_ ≠ (.slice Ao40 y393.length co40 : Value).ownBlock ∧ k_ ≠ gb376) ho0 (fun k_ hk_ => ⟨Or.elim hk_ (fun hs_ => (.inr (((Kd.R_types (Kd.R_apart' (HO398.out) (Kd.N_typed HO_7.out) (by decide)) BK376.out (by decide)).1 k_ hs_.symm).1.1.1))) (fun hn_ => (.inr (Nat.le_trans (below_size (by repeat (first | (with_reducible first | exact HB.out | apply below_alloc | apply pw_below_drewN | apply below_drew1 | refine below_set ?_ GE376.out) | exact HB.out))) hn_))), Or.elim hk_ (fun hs_ => ((Kd.R_types (Kd.R_apart' (HO398.out) (Kd.N_typed HO_7.out) (by decide)) BK376.out (by decide)).1 k_ hs_.symm).1.2) (fun hn_ => (Kd.fresh' (Kd.N_lt (Kd.N_x HO_7.out)) k_ hn_)), Or.elim hk_ (fun hs_ => ((Kd.R_types (Kd.R_apart' (HO398.out) (Kd.N_typed HO_7.out) (by decide)) BK376.out (by decide)).1 k_ hs_.symm).1.1.2) (fun hn_ => (Kd.fresh' (Kd.R_lt (Kd.R_x HO395.out)) k_ hn_)), Or.elim hk_ (fun hs_ => ((Kd.R_types (Kd.R_apart' (HO398.out) (Kd.N_typed HO_7.out) (by decide)) BK376.out (by decide)).1 k_ hs_.symm).2) (fun hn_ => (Kd.freshB (g := gb376) (o := .cells #[.slice (some ad382) l0_0.length c0_0, .int .i64 a0_1, .slice A0_2 l0_2.length c0_2, .int .i64 a0_3, .slice A0_4 l0_4.length c0_4] 26 (0, 0)) (blk_x BK376.out) k_ hn_))⟩)) (below_size (by repeat (first | (with_reducible first | exact HB.out | apply below_alloc | apply pw_below_drewN | apply below_drew1 | refine below_set ?_ GE376.out) | exact HB.out))))
                have n5_ := Aside0.mk (blk_below (g := gb376) (o := .cells #[.slice (some ad382) l0_0.length c0_0, .int .i64 a0_1, .slice A0_2 l0_2.length c0_2, .int .i64 a0_3, .slice A0_4 l0_4.length c0_4] 26 (0, 0)) (blk_x BK376.out) hb)
                have n6_ := Aside0.mk (below_step (by repeat (first | (with_reducible first | exact HB.out | apply below_alloc | apply pw_below_drewN | apply below_drew1 | refine below_set ?_ GE376.out) | exact HB.out)) hb)
                clear HO_2 HO_7 HO395 HO398 BK376 HB
                have HO_2 := n0_
                have HO_7 := n1_
                have HO395 := n2_
                have HO398 := n3_
                have HO401 := n4_
                have BK376 := n5_
                have HB := n6_
                clear n0_ n1_ n2_ n3_ n4_ n5_ n6_
                (try clear hb)
                (try clear hb2)
                (try clear hk)
                (try clear hi)
                (try clear ho0)
                obtain ⟨Ao44, co44, eo44⟩ := Kd.N_slice HO401.out
                (first | subst eo44 | (injection eo44 with f1_ f2_ f3_; have f4_ := f1_.symm; have f5_ := f3_.symm; clear f1_ f2_ f3_; subst f4_; subst f5_))
                refine hK.out _ _ ⟨(blk_cell BK376.out 0).trans rfl, (blk_cell BK376.out 1).trans rfl, (blk_cell BK376.out 2).trans rfl, (blk_cell BK376.out 3).trans rfl, (blk_cell BK376.out 4).trans rfl⟩ (fun hHeld => ?_)
                clear hK K
                refine norm_ (a' := ?_) ?_ ?_
                rotate_left
                ·
                 show Act.put _ (some 72) _ = _
                 simp only [Act.put, List.setIfInBounds_toArray, List.set_cons_zero, List.set_cons_succ, i64_w, i32_w]
                 rfl
                refine one_ (i := 10) (N := some 73) (bz 12 2047) rfl rfl (one_of HT_.out (by kernel_rfl)) (by decide) (fun K hK => ?_)
                refine Kd.N_append_rows_step (Kd.slice 3 (Kd.int .i64)) (w0 := w) w.heap.size (by rfl) (.tmp 63) (.tmp 72) 57 24 (.slice none 0 0) 24 rfl Try.underlying57 info24 rfl (by decide) (by omega) (.slice Ao31 x7_1.length co31) x7_1 t399 _ _ _ (fun k_ => (P2_ k_ ∨ w.heap.size ≤ k_) ∧ some k_ ≠ (.slice Ao40 y393.length co40 : Value).ownBlock ∧ k_ ≠ gb376) (fun k_ => ((fun k_ => (P2_ k_ ∨ w.heap.size ≤ k_) ∧ some k_ ≠ (.slice Ao40 y393.length co40 : Value).ownBlock ∧ k_ ≠ gb376)) k_ ∧ some k_ ≠ (.slice Ao31 x7_1.length co31 : Value).ownBlock) rfl rfl ?aO ?aR (fun _ hk => hk) ?aF ?aB ?aS ?aL ?_
                (case aR => exact (by skip; exact Kd.N_F (Kd.N_mono (ok' := (fun k_ => ((fun k_ => (P2_ k_ ∨ w.heap.size ≤ k_) ∧ some k_ ≠ (.slice Ao40 y393.length co40 : Value).ownBlock ∧ k_ ≠ gb376)) k_ ∧ some k_ ≠ (.slice Ao31 x7_1.length co31 : Value).ownBlock)) (HO401.out) (fun k_ hk => ⟨⟨hk.1, ⟨hk.2.2.1, hk.2.2.2⟩⟩, hk.2.1⟩))))
                (case aB => exact (by repeat (first | (with_reducible first | exact HB.out | apply below_alloc | apply pw_below_drewN | apply below_drew1 | refine below_set ?_ GE376.out) | exact HB.out)))
                (case aF => exact (fun k_ hk => ⟨(.inr (Nat.le_trans (below_size (by repeat (first | (with_reducible first | exact HB.out | apply below_alloc | apply pw_below_drewN | apply below_drew1 | refine below_set ?_ GE376.out) | exact HB.out))) hk)), Kd.fresh' (Kd.R_lt (Kd.R_x HO395.out)) k_ hk, Kd.freshB (g := gb376) (o := .cells #[.slice (some ad382) l0_0.length c0_0, .int .i64 a0_1, .slice A0_2 l0_2.length c0_2, .int .i64 a0_3, .slice A0_4 l0_4.length c0_4] 26 (0, 0)) (blk_x BK376.out) k_ hk⟩))
                (case aO => exact (by (with_reducible repeat (first | apply Kd.N_alloc | apply Kd.N_drewN | apply Kd.N_drew)); exact Kd.N_mono HO_7.out (fun _ hk => ⟨hk.1.1.1, ⟨hk.1.1.2.1, hk.1.1.2.2⟩⟩)))
                (case aS => exact (below_size (by repeat (first | (with_reducible first | exact HB.out | apply below_alloc | apply pw_below_drewN | apply below_drew1 | refine below_set ?_ GE376.out) | exact HB.out))))
                (case aL => have := LMc29.out; omega)
                intro v403 w43 ho hb hg hat
                rw [← Ny402.out] at ho
                have n0_ := Aside0.mk (Kd.V_afterv (ok := (fun k_ => (P2_ k_ ∨ w.heap.size ≤ k_) ∧ some k_ ≠ (.slice Ao40 y393.length co40 : Value).ownBlock ∧ some k_ ≠ (.slice Ao41 y396.length co41 : Value).ownBlock ∧ some k_ ≠ (.slice Ao44 t399.length co44 : Value).ownBlock ∧ k_ ≠ gb376)) (by (with_reducible repeat (first | apply Kd.V_alloc | apply Kd.V_drewN | apply Kd.V_drew)); exact Kd.V_mono HO_2.out (fun _ hk => ⟨⟨hk.1.1.1, ⟨hk.1.1.2.2.1, ⟨hk.1.2, ⟨hk.2, hk.1.1.2.2.2⟩⟩⟩⟩, hk.1.1.2.1⟩)) hg hat)
                have n1_ := Aside0.mk (blk_grown (g := gb376) (o := .cells #[.slice (some ad382) l0_0.length c0_0, .int .i64 a0_1, .slice A0_2 l0_2.length c0_2, .int .i64 a0_3, .slice A0_4 l0_4.length c0_4] 26 (0, 0)) (blk_x BK376.out) hg (Kd.N_ne HO_7.out BK376.out (by decide)))
                have n2_ := Aside0.mk (Kd.R_over' (Kd.R_x HO395.out) (Kd.N_typed (Kd.N_x HO_7.out)) (by decide) hg)
                have n3_ := Aside0.mk (Kd.R_over' (Kd.R_x HO398.out) (Kd.N_typed (Kd.N_x HO_7.out)) (by decide) hg)
                have n4_ := Aside0.mk (Kd.N_afterv (ok := (fun k_ => (P2_ k_ ∨ w.heap.size ≤ k_) ∧ some k_ ≠ (.slice Ao40 y393.length co40 : Value).ownBlock ∧ k_ ≠ gb376)) (by (with_reducible repeat (first | apply Kd.N_alloc | apply Kd.N_drewN | apply Kd.N_drew)); exact Kd.N_mono HO401.out (fun _ hk => ⟨⟨hk.1, ⟨hk.2.2.1, hk.2.2.2⟩⟩, hk.2.1⟩)) hg hat)
                have n5_ := Aside0.mk (hb)
                have n6_ := Aside0.mk (ho)
                clear HO_2 BK376 HO395 HO398 HO401 HB HO_7
                have HO_2 := n0_
                have BK376 := n1_
                have HO395 := n2_
                have HO398 := n3_
                have HO401 := n4_
                have HB := n5_
                have HO404 := n6_
                clear n0_ n1_ n2_ n3_ n4_ n5_ n6_ ho hb hg hat
                refine hK.out _ _ ⟨(blk_cell BK376.out 0).trans rfl, (blk_cell BK376.out 1).trans rfl, (blk_cell BK376.out 2).trans rfl, (blk_cell BK376.out 3).trans rfl, (blk_cell BK376.out 4).trans rfl⟩ (fun hHeld => ?_)
                clear hK K
                refine norm_ (a' := ?_) ?_ ?_
                rotate_left
                ·
                 show Act.put _ (some 73) _ = _
                 simp only [Act.put, List.setIfInBounds_toArray, List.set_cons_zero, List.set_cons_succ, i64_w, i32_w]
                 rfl
                refine pure_ (i := 11) (N := some 7) (v := ?_) (a' := ?_) (bz 12 4095) rfl rfl (any_of HT_.out (by kernel_rfl)) (fun _ _ _ h => h) (Or.inl ⟨by rfl, ?_⟩) ?_ ?_
                rotate_left
                ·
                 intro w'
                 go_simp
                 with_reducible rfl
                rotate_left
                ·
                 simp only [Act.put, List.setIfInBounds_toArray, List.set_cons_zero, List.set_cons_succ, i64_w, i32_w]
                 rfl
                refine done_ (done_of HT_.out (by kernel_rfl)) ?_
                try go_wp2
                go_roundg k3
                case measure => have := HK1.out; have := HJ5.out; have := HK3.out; omega
                case rel => exact ⟨(y402), (false), (wrap64 (x9_1 + 1)), (by first | rfl | (simp; done) | (simp [*]; done)), (by first | rfl | (simp; done) | (simp [*]; done)), H', ⟨by have := HK1.out; have := HJ5.out; have := HK3.out; omega⟩, ⟨by (with_reducible repeat (first | apply Kd.V_alloc | apply Kd.V_drewN | apply Kd.V_drew)); exact Kd.V_mono HO_2.out (fun _ hk => ⟨hk.1.1, ⟨hk.2, hk.1.2.2.2.2⟩⟩)⟩, ⟨by (with_reducible repeat (first | apply Kd.N_alloc | apply Kd.N_drewN | apply Kd.N_drew)); exact Kd.N_mono HO404.out (fun _ hk => ⟨hk.1, hk.2.2⟩)⟩, ⟨by (with_reducible repeat (first | refine blk_drewN ?_ _ | refine blk_drew ?_ | refine blk_alloc ?_ _)); exact BK376.out⟩, ⟨by repeat (first | (with_reducible first | exact HB.out | apply below_alloc | apply pw_below_drewN | apply below_drew1 | refine below_set ?_ GE376.out) | exact HB.out)⟩⟩
               ·
                rw [if_neg c29] at H
                exact absurd H (by simp)
              ·
               rw [if_neg c27] at H
               exact absurd H (by simp)
             ·
              rw [if_neg c26] at H
              exact absurd H (by simp)
            ·
             replace c25 := Bool.eq_false_iff.mpr c25
             subst c25
             have H1 : (swarfref04_Orders.l0 k3 l1 l2 x7_1 false (wrap64 (x9_1 + 1)) l0_0 a0_1 l0_2 a0_3 l0_4) = some r := by rw [if_neg (show ¬ (false = true) by decide)] at H; exact H
             clear H
             have H := H1
             clear H1
             have H' := Aside0.mk H
             clear H
             have hcz45_0 : wr.cell? ⟨gb376, 0, none⟩ = some (.slice A0_0 l0_0.length c0_0) := (blk_cell BK376.out 0).trans rfl
             have hcz45_1 : wr.cell? ⟨gb376, 1, none⟩ = some (.int .i64 a0_1) := (blk_cell BK376.out 1).trans rfl
             have hcz45_2 : wr.cell? ⟨gb376, 2, none⟩ = some (.slice A0_2 l0_2.length c0_2) := (blk_cell BK376.out 2).trans rfl
             have hcz45_3 : wr.cell? ⟨gb376, 3, none⟩ = some (.int .i64 a0_3) := (blk_cell BK376.out 3).trans rfl
             have hcz45_4 : wr.cell? ⟨gb376, 4, none⟩ = some (.slice A0_4 l0_4.length c0_4) := (blk_cell BK376.out 4).trans rfl
             have hfz45_0 := blk_frozen BK376.out 0
             have hfz45_1 := blk_frozen BK376.out 1
             have hfz45_2 := blk_frozen BK376.out 2
             have hfz45_3 := blk_frozen BK376.out 3
             have hfz45_4 := blk_frozen BK376.out 4
             have p382 : 0 ≤ (x9_1 : Int) := of_decide_eq_true (by first | (with_reducible assumption) | assumption)
             have q382 : x9_1 < (l0_0.length : Int) := of_decide_eq_true (by first | (with_reducible assumption) | assumption)
             obtain ⟨ad382, A382_0, c382_0, e382, hx382_0, hx382_1, hx382_2, hx382_3, hl382_0, hi382_0⟩ := at_T50 HR0_0.out x9_1 p382 q382
             cases e382
             replace hx382_0 := (HB.out.cell (World.block_lt_of_cell? w _ hx382_0)).trans hx382_0
             replace hx382_1 := (HB.out.cell (World.block_lt_of_cell? w _ hx382_1)).trans hx382_1
             replace hx382_2 := (HB.out.cell (World.block_lt_of_cell? w _ hx382_2)).trans hx382_2
             replace hx382_3 := (HB.out.cell (World.block_lt_of_cell? w _ hx382_3)).trans hx382_3
             have HR382_0 := Aside0.mk hi382_0
             have HC382_0 := Aside0.mk hl382_0
             clear hi382_0 hl382_0
             replace p382 := eq_true p382
             replace q382 := eq_true q382
             go_wp2
             go_roundg k3
             case measure => have := HK1.out; have := HJ5.out; have := HK3.out; omega
             case rel => exact ⟨(x7_1), (false), (wrap64 (x9_1 + 1)), (by first | rfl | (simp; done) | (simp [*]; done)), (by first | rfl | (simp; done) | (simp [*]; done)), H', ⟨by have := HK1.out; have := HJ5.out; have := HK3.out; omega⟩, ⟨by (with_reducible repeat (first | apply Kd.V_alloc | apply Kd.V_drewN | apply Kd.V_drew)); exact HO_2.out⟩, ⟨by (with_reducible repeat (first | apply Kd.N_alloc | apply Kd.N_drewN | apply Kd.N_drew)); exact HO_7.out⟩, ⟨by (with_reducible repeat (first | refine blk_drewN ?_ _ | refine blk_drew ?_ | refine blk_alloc ?_ _)); exact BK376.out⟩, ⟨by repeat (first | (with_reducible first | exact HB.out | apply below_alloc | apply pw_below_drewN | apply below_drew1 | refine below_set ?_ GE376.out) | exact HB.out)⟩⟩
          ·
           rw [if_neg c13] at H
           exact absurd H (by simp)
         ·
          rw [if_neg c12] at H
          exact absurd H (by simp)
   ·
    rw [if_neg c5] at H
    have c5b0 : decide (x9_1 < (l1.length : Int)) = false := decide_eq_false c5
    clear c5
    by_cases c46 : x8_1 = true
    ·
     subst c46
     have H1 : (some (([l2] : List (List Int)))) = some r := by rw [if_pos rfl] at H; exact H
     clear H
     have H := H1
     clear H1
     obtain ⟨y377, hy377⟩ : ∃ y_ : List (List Int), y_ = (([l2] : List (List Int))) := ⟨_, rfl⟩
     replace H : (some y377) = some r := by first | (rw [hy377]; with_reducible exact H) | (have H2_ := (Option.bind_some _ _).symm.trans H; rw [hy377]; with_reducible exact H2_) | (have H2_ := (Option.bind_some _ _).symm.trans H; with_reducible exact H2_) | with_reducible exact H | (rw [hy377]; exact H) | exact H
     have Ny377 := Aside0.mk hy377
     clear hy377
     obtain rfl := Option.some.inj H
     go_wp2_with (first | ((with_reducible refine gate_dst (N := 76) rfl ?_); refine Kd.N_lit (Kd.slice 3 (Kd.int .i64)) _ 24 ?hg (N' := 76) ?hd (xs := ([l2] : List (List Int))) (inner := [.slice A2 l2.length c2]) (ok := (fun k_ => (P2_ k_ ∨ w.heap.size ≤ k_) ∧ some k_ ≠ (u7 : Value).ownBlock ∧ k_ ≠ gb376)) (okp := (fun k_ => (P2_ k_ ∨ w.heap.size ≤ k_) ∧ some k_ ≠ (u7 : Value).ownBlock ∧ k_ ≠ gb376)) ?hr ?hp (fun _ hk => hk) ((show ∀ k_, wr.heap.size ≤ k_ → (fun k_ => (P2_ k_ ∨ w.heap.size ≤ k_) ∧ some k_ ≠ (u7 : Value).ownBlock ∧ k_ ≠ gb376) k_ from fun k_ hk => ⟨(.inr (Nat.le_trans (below_size (by repeat (first | (with_reducible first | exact HB.out | apply below_alloc | apply pw_below_drewN | apply below_drew1 | refine below_set ?_ GE376.out) | exact HB.out))) hk)), Kd.fresh' (Kd.N_lt (Kd.N_x HO_7.out)) k_ hk, Kd.freshB (g := gb376) (o := .cells #[.slice A0_0 l0_0.length c0_0, .int .i64 a0_1, .slice A0_2 l0_2.length c0_2, .int .i64 a0_3, .slice A0_4 l0_4.length c0_4] 26 (0, 0)) (blk_x BK376.out) k_ hk⟩) _ (Nat.le_refl _)) (Below.refl _ _) (Nat.le_refl _) (by simp) ?_; (case hd => rfl); (case hg => rfl); (case hr => first | (go_simp; done) | (go_simp; rfl)); (case hp => exact (Reps.one (show Kd.FK (Kd.slice 3 (Kd.int .i64)) _ _ l2 [.slice A2 l2.length c2] from (Kd.FK_slice_mk (Kd.V_reads' (Kd.V_mono (ok' := (fun k_ => (P2_ k_ ∨ w.heap.size ≤ k_) ∧ some k_ ≠ (u7 : Value).ownBlock ∧ k_ ≠ gb376)) (HO_2.out) (fun k_ hk => ⟨hk.1, ⟨hk.2.1, hk.2.2⟩⟩))).2.1 (Kd.V_F (Kd.V_mono (ok' := (fun k_ => (P2_ k_ ∨ w.heap.size ≤ k_) ∧ some k_ ≠ (u7 : Value).ownBlock ∧ k_ ≠ gb376)) (HO_2.out) (fun k_ hk => ⟨hk.1, ⟨hk.2.1, hk.2.2⟩⟩))))) (Reps.none _ _))); intro v378 w47 ho48 hb hg_ hnew_; clear hg_ hnew_; (first | rw [← Ny377.out] at ho48 | (simp only [Int.reduceToNat] at ho48; rw [← Ny377.out] at ho48)); have n0_ := Aside0.mk (Kd.V_elder' (Kd.V_x HO_2.out) (Kd.N_base ho48) hb); have n1_ := Aside0.mk (Kd.N_elder' (Kd.N_x HO_7.out) (Kd.N_base ho48) hb); have n2_ := Aside0.mk (Kd.N_lower ho48 (below_size (by repeat (first | (with_reducible first | exact HB.out | apply below_alloc | apply pw_below_drewN | apply below_drew1 | refine below_set ?_ GE376.out) | exact HB.out)))); have n3_ := Aside0.mk (blk_below (g := gb376) (o := .cells #[.slice A0_0 l0_0.length c0_0, .int .i64 a0_1, .slice A0_2 l0_2.length c0_2, .int .i64 a0_3, .slice A0_4 l0_4.length c0_4] 26 (0, 0)) (blk_x BK376.out) hb); have n4_ := Aside0.mk (below_step (by repeat (first | (with_reducible first | exact HB.out | apply below_alloc | apply pw_below_drewN | apply below_drew1 | refine below_set ?_ GE376.out) | exact HB.out)) hb); clear HO_2; clear HO_7; clear BK376; clear HB; have HO_2 := n0_; have HO_7 := n1_; have HO379 := n2_; have BK376 := n3_; have HB := n4_; clear n0_ n1_ n2_ n3_ n4_; clear hb ho48))
     go_ret
     exact ⟨_, by first | rfl | (simp [errW_none, errW_some] <;> rfl) | (simp [*, errW_none, errW_some] <;> rfl), by (with_reducible repeat (first | apply Kd.N_alloc | apply Kd.N_drewN | apply Kd.N_drew)); exact Kd.N_mono HO379.out (fun _ hk => hk.1), by repeat (first | (with_reducible first | exact HB.out | apply below_alloc | apply pw_below_drewN | apply below_drew1 | refine below_set ?_ GE376.out) | exact HB.out)⟩
    ·
     replace c46 := Bool.eq_false_iff.mpr c46
     subst c46
     have H1 : (some x7_1) = some r := by rw [if_neg (show ¬ (false = true) by decide)] at H; exact H
     clear H
     have H := H1
     clear H1
     obtain rfl := Option.some.inj H
     go_wp2
     go_ret
     exact ⟨_, by first | rfl | (simp [errW_none, errW_some] <;> rfl) | (simp [*, errW_none, errW_some] <;> rfl), by (with_reducible repeat (first | apply Kd.N_alloc | apply Kd.N_drewN | apply Kd.N_drew)); exact Kd.N_mono HO_7.out (fun _ hk => hk.1), by repeat (first | (with_reducible first | exact HB.out | apply below_alloc | apply pw_below_drewN | apply below_drew1 | refine below_set ?_ GE376.out) | exact HB.out)⟩
end Go.Proofs.Ytkkmfcdikkiodaa.PC4
