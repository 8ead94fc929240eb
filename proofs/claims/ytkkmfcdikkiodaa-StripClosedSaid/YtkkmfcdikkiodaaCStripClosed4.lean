/- If a part surely is out, so is each part that has to be out before it; if one surely is not out, neither is any part after it; and a car is surely clean just if all its bad parts surely are out: for every list of numbers of the size that Go can hold. -/
import Derived.Test.YtkkmfcdikkiodaaCStripClosed3
import Derived.Test.YtkkmfcdikkiodaaCStripClosed1
import Derived.Test.YtkkmfcdikkiodaaCStripClosed2
import Derived.SizedLaws
import Derived.ChangeSlices
import Derived.Test.YtkkmfcdikkiodaaRows
import Derived.WalkKit
import Derived.ProofKit
import Derived.OpenShut
import Derived.ShutString
import Derived.ChangeOld
import Derived.Below
namespace Go.Proofs.Ytkkmfcdikkiodaa.PC4
set_option linter.unusedVariables false
open Go.RowKit Go.Proofs.YtkkmfcdikkiodaaW.PrintWords Go.Proofs.YtkkmfcdikkiodaaW.PrintLast Go.Proofs.YtkkmfcdikkiodaaW.PrintMore
theorem u64_bd (n : Int) : 0 ≤ IntKind.u64.wrap n ∧ IntKind.u64.wrap n < 18446744073709551616 := by
  have : IntKind.u64.wrap n = n % 18446744073709551616 := by simp [IntKind.wrap, IntKind.bits, IntKind.signed]
  omega
theorem u64_id {n : Int} (h0 : 0 ≤ n) (h : n < 18446744073709551616) : IntKind.u64.wrap n = n := by
  have : IntKind.u64.wrap n = n % 18446744073709551616 := by simp [IntKind.wrap, IntKind.bits, IntKind.signed]
  omega
theorem below_ok (s n : Int) (h1 : 1 ≤ n) (h : n ≤ 1000000000) : ∃ r s', swarfkit_Feed_Below.f s n = some (r, s') ∧ 0 ≤ r ∧ r < n := by
  unfold swarfkit_Feed_Below.f
  by_cases h2 : n < 2
  · rw [if_pos h2]
    exact ⟨0, s, rfl, by omega, by omega⟩
  · rw [if_neg h2]
    unfold swarfkit_Feed_next.f
    simp only [Option.bind_some]
    rw [u64_id (by omega) (by omega), if_neg (by omega)]
    refine ⟨_, _, rfl, ?_⟩
    obtain ⟨ha, hb⟩ := u64_bd (feedN s * 2685821657736338717)
    have hm : feedM (feedN s) = IntKind.u64.wrap (feedN s * 2685821657736338717) := rfl
    rw [hm]
    generalize IntKind.u64.wrap (feedN s * 2685821657736338717) = x at *
    have hx : 0 ≤ x / 256 := by omega
    rw [Int.tmod_eq_emod_of_nonneg hx]
    have h3 := Int.emod_nonneg (x / 256) (show n ≠ 0 by omega)
    have h4 := Int.emod_lt_of_pos (x / 256) (show 0 < n by omega)
    rw [wrap64_id (by omega) (by omega)]
    exact ⟨h3, h4⟩
theorem often_ok (s n m : Int) (h1 : 1 ≤ m) (h : m ≤ 1000000000) : ∃ b s', swarfkit_Feed_Often.f s n m = some (b, s') := by
  obtain ⟨r, s', h2, _⟩ := below_ok s m h1 h
  exact ⟨_, _, by unfold swarfkit_Feed_Often.f; rw [h2]; rfl⟩
theorem between_ok (s lo hi : Int) (h : lo ≤ hi) (h0 : 0 ≤ lo) (h1 : hi ≤ 1000000) : ∃ r s', swarfkit_Feed_Between.f s lo hi = some (r, s') ∧ lo ≤ r ∧ r ≤ hi := by
  obtain ⟨r, s', h2, h3, h4⟩ := below_ok s (hi - lo + 1) (by omega) (by omega)
  refine ⟨lo + r, s', ?_, by omega, by omega⟩
  unfold swarfkit_Feed_Between.f
  rw [wrap64_id (n := hi - lo) (by omega) (by omega), wrap64_id (by omega) (by omega), h2]
  simp only [Option.bind_some]
  rw [wrap64_id (by omega) (by omega)]
theorem either_ok (s : Int) (l : List Int) (h0 : l ≠ []) (h : l.length ≤ 1000) : ∃ r s', swarfkit_Feed_Either.f s l = some (r, s') ∧ r ∈ l := by
  have hl : 0 < l.length := List.length_pos_iff.2 h0
  obtain ⟨r, s', h2, h3, h4⟩ := below_ok s l.length (by omega) (by omega)
  refine ⟨rd l r, s', ?_, ?_⟩
  · unfold swarfkit_Feed_Either.f
    rw [if_neg (by omega), h2]
    simp only [Option.bind_some]
    rw [if_pos h3, if_pos h4]
  · obtain ⟨k, rfl⟩ : ∃ k : Nat, r = k := ⟨r.toNat, by omega⟩
    have hk : k < l.length := by omega
    rw [rd_getD, List.getD, List.getElem?_eq_getElem hk]
    exact List.getElem_mem hk
end Go.Proofs.Ytkkmfcdikkiodaa.PC4
namespace Go.Proofs.Ytkkmfcdikkiodaa.PC4
set_option linter.unusedVariables false
open Go.RowKit Go.Proofs.YtkkmfcdikkiodaaW.PrintWords Go.Proofs.YtkkmfcdikkiodaaW.PrintLast Go.Proofs.YtkkmfcdikkiodaaW.PrintMore
def Res {α : Type} (g : Nat → Option α) (P : α → Prop) : Prop := ∃ r, Ev g r ∧ P r
theorem Res.step {α : Type} {g f : Nat → Option α} {P : α → Prop} (h : ∀ k, g (k + 1) = f k) (k : Res f P) : Res g P := by
  obtain ⟨r, h1, h2⟩ := k
  exact ⟨r, Ev.step h h1, h2⟩
theorem Res.bind {α β : Type} {g : Nat → Option α} {f : Nat → α → Option β} {P : β → Prop} {a : α} (h : Ev g a) (k : Res (fun n => f n a) P) : Res (fun n => (g n).bind (f n)) P := by
  obtain ⟨r, h1, h2⟩ := k
  exact ⟨r, Ev.bind h h1, h2⟩
theorem inB_of {n low high : Int} (h : low ≤ n ∧ n ≤ high) : inB n low high = true := inB_true.2 h
theorem rise_snoc (most beyond x : Int) : ∀ (l : List Int) (p : Option Int), rise most beyond p l = 0 → (∀ y, y ∈ l → y < x) → (∀ q, p = some q → q < x) → 0 ≤ x → x ≤ most → rise most beyond p (l ++ [x]) = 0 := by
  intro l
  induction l with
  | nil =>
    intro p _ _ hp h0 h1
    show rise most beyond p [x] = 0
    rw [rise_cons, if_pos (inB_of ⟨h0, h1⟩)]
    cases p with
    | none => simp [rise]
    | some q =>
      have := hp q rfl
      rw [if_neg (by simpa using this)]
      simp [rise]
  | cons y l ih =>
    intro p h hl hp h0 h1
    rw [List.cons_append, rise_cons]
    rw [rise_cons] at h
    have hy := hl y List.mem_cons_self
    by_cases hb : inB y 0 most = true
    · rw [if_pos hb] at h ⊢
      have hn := fun h => ih (some y) h (fun z hz => hl z (List.mem_cons_of_mem _ hz)) (fun q e => by injection e with e; omega) h0 h1
      cases p with
      | none =>
        rw [if_neg (by simp)] at h ⊢
        exact hn h
      | some q =>
        by_cases hq : y ≤ q
        · rw [if_pos (by simpa using hq)] at h
          cases h
        · rw [if_neg (by simpa using hq)] at h ⊢
          exact hn h
    · rw [if_neg hb] at h ⊢
      exact h
theorem riseE_snoc {most beyond x : Int} {l : List Int} (h : riseE most beyond l = 0) (hl : ∀ y, y ∈ l → y < x) (h0 : 0 ≤ x) (h1 : x ≤ most) : riseE most beyond (l ++ [x]) = 0 :=
  rise_snoc most beyond x l none h hl (fun q e => by cases e) h0 h1
structure PartOK (i : Nat) (p : S50) : Prop where
  ris : riseE ((i : Int) - 1) 3 p.f0 = 0
  lt : ∀ x, x ∈ p.f0 → 0 ≤ x ∧ x < i
  len : p.f0.length ≤ i
  tool : 1 ≤ p.f2 ∧ p.f2 ≤ 3
  min : 0 ≤ p.f3 ∧ p.f3 ≤ 1000
structure PartsOK (parts : List S50) (st : List Bool) : Prop where
  len : st.length = parts.length
  ok : ∀ i, i < parts.length → PartOK i (parts.getD i z50)
  st : ∀ i, i < parts.length → st.getD i false = true → ∀ x, x ∈ (parts.getD i z50).f0 → st.getD x.toNat false = true
theorem getD_snoc_lt {α : Type} (l : List α) (x d : α) {i : Nat} (h : i < l.length) : (l ++ [x]).getD i d = l.getD i d := by
  rw [List.getD, List.getD, List.getElem?_append_left h]
theorem getD_snoc_eq {α : Type} (l : List α) (x d : α) : (l ++ [x]).getD l.length d = x := by
  rw [List.getD, List.getElem?_append_right (Nat.le_refl _)]; simp
theorem PartsOK.snoc {parts : List S50} {st : List Bool} (h : PartsOK parts st) {p : S50} {b : Bool} (hp : PartOK parts.length p) (hb : b = true → ∀ x, x ∈ p.f0 → st.getD x.toNat false = true) : PartsOK (parts ++ [p]) (st ++ [b]) := by
  refine ⟨by simp [h.len], fun i hi => ?_, fun i hi hs x hx => ?_⟩
  · rw [List.length_append, List.length_singleton] at hi
    by_cases e : i = parts.length
    · subst e; rw [getD_snoc_eq]; exact hp
    · rw [getD_snoc_lt _ _ _ (by omega)]; exact h.ok i (by omega)
  · rw [List.length_append, List.length_singleton] at hi
    by_cases e : i = parts.length
    · subst e
      rw [getD_snoc_eq] at hx
      rw [← h.len, getD_snoc_eq] at hs
      have hlt := hp.lt x hx
      rw [getD_snoc_lt _ _ _ (by rw [h.len]; omega)]
      exact hb hs x hx
    · rw [getD_snoc_lt _ _ _ (by omega)] at hx
      rw [getD_snoc_lt _ _ _ (by rw [h.len]; omega)] at hs
      have hlt := (h.ok i (by omega)).lt x hx
      rw [getD_snoc_lt _ _ _ (by rw [h.len]; omega)]
      exact h.st i (by omega) hs x hx
def wrongB (st : List Bool) : List S61 → Nat
  | [] => 0
  | l :: t => (if st.getD l.f0.toNat false != l.f1 then 1 else 0) + wrongB st t
theorem wrongB_le (st : List Bool) (l : List S61) : wrongB st l ≤ l.length := by
  induction l with
  | nil => simp [wrongB]
  | cons y l ih => simp only [wrongB, List.length_cons]; split <;> omega
theorem wrongs_l0 (parts : List S50) (swap : Int) (looks : List S61) (wrong : Int) (needs : List Int) (st : List Bool) (hl : looks.length ≤ 1000) (h : ∀ l, l ∈ looks → 0 ≤ l.f0 ∧ l.f0 < st.length) (d : Nat) :
    ∀ (i n : Nat), i + d = looks.length → n ≤ i → Ev (fun K => swarfref04_Wrongs.l0 K st (n : Int) (i : Int) parts swap looks wrong needs) ((n + wrongB st (looks.drop i) : Nat) : Int) := by
  induction d with
  | zero =>
    intro i n hi hn
    refine Ev.step (f := fun _ => some (n : Int)) (fun K => ?_) ?_
    · simp only [swarfref04_Wrongs.l0]
      rw [if_neg (by omega)]
    · rw [List.drop_of_length_le (by omega)]
      exact Ev.now _
  | succ d ih =>
    intro i n hi hn
    have hlt : i < looks.length := by omega
    have hrd : rd_T61 looks (i : Int) = looks.getD i z61 := by simp [rd_T61]
    have hm : looks.getD i z61 ∈ looks := by rw [List.getD, List.getElem?_eq_getElem hlt]; exact List.getElem_mem hlt
    have hb := h _ hm
    have hw : wrap64 ((i : Int) + 1) = ((i + 1 : Nat) : Int) := by rw [wrap64_id (by omega) (by omega)]; omega
    have hw2 : wrap64 ((n : Int) + 1) = ((n + 1 : Nat) : Int) := by rw [wrap64_id (by omega) (by omega)]; omega
    rw [drop_cons_rd looks i hlt z61]
    generalize looks.getD i z61 = x at *
    have hx : rdOf false st x.f0 = st.getD x.f0.toNat false := rfl
    refine Ev.step (f := fun K => if (st.getD x.f0.toNat false != x.f1) = true then swarfref04_Wrongs.l0 K st ((n + 1 : Nat) : Int) ((i + 1 : Nat) : Int) parts swap looks wrong needs else swarfref04_Wrongs.l0 K st (n : Int) ((i + 1 : Nat) : Int) parts swap looks wrong needs) (fun K => ?_) ?_
    · simp only [swarfref04_Wrongs.l0]
      rw [if_pos (by omega), if_pos (by omega), hrd, if_pos (by omega), if_pos (by omega), hw, hw2, hx]
    · simp only [wrongB]
      by_cases hc : (st.getD x.f0.toNat false != x.f1) = true
      · simp only [hc, if_true]
        have := ih (i + 1) (n + 1) (by omega) (by omega)
        rwa [Nat.add_assoc] at this
      · simp only [hc, Bool.false_eq_true, if_false, Nat.zero_add]
        exact ih (i + 1) n (by omega) (by omega)
theorem wrongs_ev (parts : List S50) (swap : Int) (looks : List S61) (wrong : Int) (needs : List Int) (st : List Bool) (hl : looks.length ≤ 1000) (h : ∀ l, l ∈ looks → 0 ≤ l.f0 ∧ l.f0 < st.length) :
    Ev (fun K => swarfref04_Wrongs.f K parts swap looks wrong needs st) ((wrongB st looks : Nat) : Int) := by
  have := wrongs_l0 parts swap looks wrong needs st hl h looks.length 0 0 (by omega) (by omega)
  simpa [swarfref04_Wrongs.f] using this
structure CarGood (a1 a2 : Int) (parts : List S50) (swap : Int) (looks : List S61) (wrong : Int) (needs : List Int) (st : List Bool) : Prop where
  p : PartsOK parts st
  one : 1 ≤ parts.length
  few : (parts.length : Int) ≤ a1
  sw : 0 ≤ swap ∧ swap ≤ 8
  lk : ∀ l, l ∈ looks → 0 ≤ l.f0 ∧ l.f0 < parts.length
  ll : (looks.length : Int) ≤ a2
  wr : 0 ≤ wrong ∧ wrong ≤ 12 ∧ (wrongB st looks : Int) ≤ wrong
  nd : riseE 8 1 needs = 0
  nl : needs.length ≤ 3
abbrev CarT := List S50 × Int × List S61 × Int × List Int × List Bool × Int
def CarGoodT (a1 a2 : Int) (r : CarT) : Prop := CarGood a1 a2 r.1 r.2.1 r.2.2.1 r.2.2.2.1 r.2.2.2.2.1 r.2.2.2.2.2.1
theorem carOf_l3 {a1 a2 : Int} {parts : List S50} {swap : Int} {looks : List S61} {wrong : Int} {st : List Bool} (hg : CarGood a1 a2 parts swap looks wrong [] st) (d : Nat) :
    ∀ (i : Nat) (s : Int) (needs : List Int), i + d = 9 → riseE 8 1 needs = 0 → (∀ x, x ∈ needs → x < i) → needs.length ≤ 3 → Res (fun K => swarfkit_CarOf.l3 K st (i : Int) s parts swap looks wrong needs) (CarGoodT a1 a2) := by
  induction d with
  | zero =>
    intro i s needs hi hr hlt hlen
    refine Res.step (f := fun K => swarfkit_CarOf.j4 K st (i : Int) false s parts swap looks wrong needs) (fun K => ?_) ?_
    · simp only [swarfkit_CarOf.l3]
      rw [if_neg (by omega)]
    · refine Res.step (f := fun K => some (parts, swap, looks, wrong, needs, st, s)) (fun K => ?_) ?_
      · simp only [swarfkit_CarOf.j4]
        rw [if_neg (by decide)]
      · exact ⟨_, Ev.now _, ⟨hg.p, hg.one, hg.few, hg.sw, hg.lk, hg.ll, hg.wr, hr, hlen⟩⟩
  | succ d ih =>
    intro i s needs hi hr hlt hlen
    refine Res.step (f := fun K => swarfkit_CarOf.j4 K st (i : Int) (decide ((needs.length : Int) < 3)) s parts swap looks wrong needs) (fun K => ?_) ?_
    · simp only [swarfkit_CarOf.l3]
      rw [if_pos (by omega)]
    by_cases h3 : (needs.length : Int) < 3
    · obtain ⟨b, s', hb⟩ := often_ok s 1 5 (by decide) (by decide)
      have hw : wrap64 ((i : Int) + 1) = ((i + 1 : Nat) : Int) := by rw [wrap64_id (by omega) (by omega)]; omega
      refine Res.step (f := fun K => if b = true then swarfkit_CarOf.l3 K st ((i + 1 : Nat) : Int) s' parts swap looks wrong (needs ++ [(i : Int)]) else swarfkit_CarOf.l3 K st ((i + 1 : Nat) : Int) s' parts swap looks wrong needs) (fun K => ?_) ?_
      · have hl2 : needs.length < 17592186044416 := by omega
        simp only [swarfkit_CarOf.j4, decide_eq_true h3, if_true, hb, Option.bind_some, hl2, hw]
      · cases b with
        | true =>
          simp only [if_true]
          refine ih (i + 1) s' _ (by omega) (riseE_snoc hr hlt (by omega) (by omega)) (fun x hx => ?_) (by simp; omega)
          rcases List.mem_append.1 hx with hx | hx
          · have := hlt x hx; omega
          · have := List.mem_singleton.1 hx; omega
        | false =>
          simp only [Bool.false_eq_true, if_false]
          exact ih (i + 1) s' _ (by omega) hr (fun x hx => by have := hlt x hx; omega) hlen
    · refine Res.step (f := fun K => some (parts, swap, looks, wrong, needs, st, s)) (fun K => ?_) ?_
      · simp only [swarfkit_CarOf.j4]
        rw [if_neg (by simpa using h3)]
      · exact ⟨_, Ev.now _, ⟨hg.p, hg.one, hg.few, hg.sw, hg.lk, hg.ll, hg.wr, hr, hlen⟩⟩
end Go.Proofs.Ytkkmfcdikkiodaa.PC4
namespace Go.Proofs.Ytkkmfcdikkiodaa.PC4
set_option linter.unusedVariables false
open Go.RowKit Go.Proofs.YtkkmfcdikkiodaaW.PrintWords Go.Proofs.YtkkmfcdikkiodaaW.PrintLast Go.Proofs.YtkkmfcdikkiodaaW.PrintMore
theorem carOf_l2 {a1 a2 : Int} {parts : List S50} {swap : Int} {st : List Bool} (hp : PartsOK parts st) (h1 : 1 ≤ parts.length) (h2 : (parts.length : Int) ≤ a1) (h9 : a1 ≤ 9) (hsw : 0 ≤ swap ∧ swap ≤ 8) (h12 : a2 ≤ 12) (d : Nat) :
    ∀ (s : Int) (looks : List S61), (looks.length : Int) + d ≤ a2 → (∀ l, l ∈ looks → 0 ≤ l.f0 ∧ l.f0 < parts.length) → Res (fun K => swarfkit_CarOf.l2 K st (d : Int) s parts swap looks 0) (CarGoodT a1 a2) := by
  induction d with
  | zero =>
    intro s looks hd hl
    have hlen := hp.len
    have hle := wrongB_le st looks
    have hw := wrongs_ev parts swap looks 0 [] st (by omega) (fun l h => by have := hl l h; rw [hlen]; exact this)
    obtain ⟨r, s', he, hr⟩ := either_ok s [0, 0, 1] (by simp) (by simp)
    have hr01 : 0 ≤ r ∧ r ≤ 1 := by simp at hr; omega
    refine Res.step (f := fun K => (swarfref04_Wrongs.f K parts swap looks 0 ([] : List Int) st).bind fun t259 => swarfkit_CarOf.l3 K st ((0 : Nat) : Int) s' parts swap looks (mn 12 (wrap64 (t259 + r))) ([] : List Int)) (fun K => ?_) ?_
    · simp only [swarfkit_CarOf.l2]
      rw [if_neg (by omega), he]
      rfl
    · refine Res.bind hw ?_
      rw [wrap64_id (by omega) (by omega)]
      have hm : 0 ≤ mn 12 ((wrongB st looks : Int) + r) ∧ mn 12 ((wrongB st looks : Int) + r) ≤ 12 ∧ (wrongB st looks : Int) ≤ mn 12 ((wrongB st looks : Int) + r) := by
        unfold mn
        split <;> omega
      exact carOf_l3 (a1 := a1) (a2 := a2) ⟨hp, h1, h2, hsw, hl, by omega, hm, rfl, by simp⟩ 9 0 s' [] rfl rfl (fun x hx => by cases hx) (by simp)
  | succ d ih =>
    intro s looks hd hl
    have hlen := hp.len
    obtain ⟨q, s1, hb, hq0, hq1⟩ := below_ok s parts.length (by omega) (by omega)
    obtain ⟨b, s2, ho⟩ := often_ok s1 1 6 (by decide) (by decide)
    have hw : wrap64 (((d + 1 : Nat) : Int) - 1) = (d : Int) := by rw [wrap64_id (by omega) (by omega)]; omega
    refine Res.step (f := fun K => swarfkit_CarOf.l2 K st (d : Int) s2 parts swap (looks ++ [(⟨q, (rdOf false st q) != b⟩ : S61)]) 0) (fun K => ?_) ?_
    · simp only [swarfkit_CarOf.l2]
      rw [if_pos (by omega), hb]
      simp only [Option.bind_some]
      rw [if_pos hq0, if_pos (by omega), ho]
      simp only [Option.bind_some]
      rw [if_pos (by omega), hw]
    · refine ih s2 _ (by simp; omega) (fun l h => ?_)
      rcases List.mem_append.1 h with h | h
      · exact hl l h
      · rw [List.mem_singleton.1 h]
        exact ⟨hq0, hq1⟩
theorem bind_of {α β : Type} {o : Option α} {a : α} {f : α → Option β} {r : Option β} (h : o = some a) (h2 : f a = r) : o.bind f = r := by rw [h]; exact h2
theorem carOf_l1 {a1 a2 : Int} {parts : List S50} {st : List Bool} (hp : PartsOK parts st) (h9 : parts.length < 9) (x10 : Int) (bad : Bool) (tool min : Int) (ht : 1 ≤ tool ∧ tool ≤ 3) (hm : 0 ≤ min ∧ min ≤ 1000)
    (hT : ∀ (p : S50) (b : Bool) (s : Int), PartOK parts.length p → (b = true → ∀ x, x ∈ p.f0 → st.getD x.toNat false = true) → Res (fun K => swarfkit_CarOf.l0 K a2 (st ++ [b]) (wrap64 (x10 - 1)) s (parts ++ [p]) 0 0) (CarGoodT a1 a2)) (d : Nat) :
    ∀ (k : Nat) (s : Int) (may : Bool) (bef : List Int), k + d = parts.length → riseE ((parts.length : Int) - 1) 3 bef = 0 → (∀ x, x ∈ bef → 0 ≤ x ∧ x < k) → bef.length ≤ k → (may = true → ∀ x, x ∈ bef → st.getD x.toNat false = true) →
      Res (fun K => swarfkit_CarOf.l1 K a2 st x10 (parts.length : Int) may (k : Int) s parts 0 0 bef bad tool min) (CarGoodT a1 a2) := by
  induction d with
  | zero =>
    intro k s may bef hk hr hlt hlen hmay
    have hsl := hp.len
    have hP : PartOK parts.length ⟨bef, bad, tool, min⟩ := ⟨hr, fun x hx => by have := hlt x hx; omega, by show bef.length ≤ _; omega, ht, hm⟩
    have hl1 : parts.length < 2932031007402 := by omega
    have hl2 : st.length < 140737488355328 := by omega
    cases may with
    | true =>
      obtain ⟨b, s1, ho⟩ := often_ok s 3 5 (by decide) (by decide)
      refine Res.step (f := fun K => swarfkit_CarOf.l0 K a2 (st ++ [b]) (wrap64 (x10 - 1)) s1 (parts ++ [(⟨bef, bad, tool, min⟩ : S50)]) 0 0) (fun K => ?_) (hT _ b s1 hP (fun _ => hmay rfl))
      simp only [swarfkit_CarOf.l1]
      rw [if_neg (by omega)]
      simp only [hl1, hl2, if_true, Option.bind_some, ho]
    | false =>
      refine Res.step (f := fun K => swarfkit_CarOf.l0 K a2 (st ++ [false]) (wrap64 (x10 - 1)) s (parts ++ [(⟨bef, bad, tool, min⟩ : S50)]) 0 0) (fun K => ?_) (hT _ false s hP (fun h => by cases h))
      simp only [swarfkit_CarOf.l1]
      rw [if_neg (by omega)]
      simp only [hl1, hl2, if_true, Option.bind_some, Bool.false_eq_true, if_false]
  | succ d ih =>
    intro k s may bef hk hr hlt hlen hmay
    have hsl := hp.len
    obtain ⟨b, s1, ho⟩ := often_ok s 1 4 (by decide) (by decide)
    have hw : wrap64 ((k : Int) + 1) = ((k + 1 : Nat) : Int) := by rw [wrap64_id (by omega) (by omega)]; omega
    have hlt2 : (k : Int) < (parts.length : Int) := by omega
    have hlt3 : (k : Int) < (st.length : Int) := by omega
    have hk0 : 0 ≤ (k : Int) := by omega
    have hbl : bef.length < 17592186044416 := by omega
    have hlt4 : ∀ x, x ∈ bef → 0 ≤ x ∧ x < ((k + 1 : Nat) : Int) := fun x hx => by have := hlt x hx; omega
    have hlt5 : ∀ x, x ∈ bef ++ [(k : Int)] → 0 ≤ x ∧ x < ((k + 1 : Nat) : Int) := fun x hx => by
      rcases List.mem_append.1 hx with hx | hx
      · exact hlt4 x hx
      · rw [List.mem_singleton.1 hx]; omega
    have hr5 : riseE ((parts.length : Int) - 1) 3 (bef ++ [(k : Int)]) = 0 := riseE_snoc hr (fun y hy => (hlt y hy).2) hk0 (by omega)
    cases b with
    | false =>
      refine Res.step (f := fun K => swarfkit_CarOf.l1 K a2 st x10 (parts.length : Int) may ((k + 1 : Nat) : Int) s1 parts 0 0 bef bad tool min) (fun K => ?_) (ih (k + 1) s1 may bef (by omega) hr hlt4 (by omega) hmay)
      simp only [swarfkit_CarOf.l1, hlt2, if_true, ho, Option.bind_some, Bool.false_eq_true, if_false, hw]
    | true =>
      cases may with
      | false =>
        refine Res.step (f := fun K => swarfkit_CarOf.l1 K a2 st x10 (parts.length : Int) false ((k + 1 : Nat) : Int) s1 parts 0 0 (bef ++ [(k : Int)]) bad tool min) (fun K => ?_) (ih (k + 1) s1 false _ (by omega) hr5 hlt5 (by simp; omega) (fun h => by cases h))
        simp only [swarfkit_CarOf.l1, hlt2, if_true, ho, Option.bind_some, Bool.false_eq_true, if_false, hw, hbl]
      | true =>
        refine Res.step (f := fun K => swarfkit_CarOf.l1 K a2 st x10 (parts.length : Int) (rdOf false st (k : Int)) ((k + 1 : Nat) : Int) s1 parts 0 0 (bef ++ [(k : Int)]) bad tool min) (fun K => ?_) (ih (k + 1) s1 _ _ (by omega) hr5 hlt5 (by simp; omega) (fun h x hx => ?_))
        · simp only [swarfkit_CarOf.l1, hlt2, hlt3, hk0, if_true, ho, Option.bind_some, hw, hbl]
        · rcases List.mem_append.1 hx with hx | hx
          · exact hmay rfl x hx
          · rw [List.mem_singleton.1 hx]
            exact h
theorem carOf_l0 {a1 a2 : Int} (h9 : a1 ≤ 9) (h12 : a2 ≤ 12) (h0 : 0 ≤ a2) (d : Nat) :
    ∀ (parts : List S50) (st : List Bool) (s : Int), PartsOK parts st → (parts.length : Int) + d ≤ a1 → 1 ≤ parts.length + d → Res (fun K => swarfkit_CarOf.l0 K a2 st (d : Int) s parts 0 0) (CarGoodT a1 a2) := by
  induction d with
  | zero =>
    intro parts st s hp hd h1
    obtain ⟨r1, s1, hb1, hr1, hr1'⟩ := below_ok s 9 (by decide) (by decide)
    obtain ⟨r2, s2, hb2, hr2⟩ := either_ok s1 [0, r1] (by simp) (by simp)
    obtain ⟨r3, s3, hb3, hr3, hr3'⟩ := below_ok s2 (a2 + 1) (by omega) (by omega)
    have hsw : 0 ≤ r2 ∧ r2 ≤ 8 := by simp at hr2; omega
    have hw : wrap64 (a2 + 1) = a2 + 1 := wrap64_id (by omega) (by omega)
    obtain ⟨n, rfl⟩ : ∃ n : Nat, r3 = n := ⟨r3.toNat, by omega⟩
    refine Res.step (f := fun K => swarfkit_CarOf.l2 K st (n : Int) s3 parts r2 ([] : List S61) 0) (fun K => ?_) (carOf_l2 hp (by omega) (by omega) h9 hsw h12 n s3 [] (by simp; omega) (fun l h => by cases h))
    have hgt : ¬ (((0 : Nat) : Int) > 0) := by omega
    rw [swarfkit_CarOf.l0, if_neg hgt]
    refine bind_of hb1 ?_
    refine bind_of hb2 ?_
    refine bind_of (a := (((n : Nat) : Int), s3)) ?_ rfl
    rw [hw]
    exact hb3
  | succ d ih =>
    intro parts st s hp hd h1
    obtain ⟨b, s1, ho⟩ := often_ok s 1 2 (by decide) (by decide)
    obtain ⟨tool, s2, hbt, ht0, ht1⟩ := between_ok s1 1 3 (by decide) (by decide) (by decide)
    obtain ⟨m1, s3, hm1, hm10, hm11⟩ := below_ok s2 30 (by decide) (by decide)
    obtain ⟨m2, s4, hm2, hm20, hm21⟩ := below_ok s3 30 (by decide) (by decide)
    obtain ⟨m, s5, he, hm⟩ := either_ok s4 [0, m1, m2] (by simp) (by simp)
    have hmm : 0 ≤ m ∧ m ≤ 1000 := by simp at hm; omega
    have hw : wrap64 (((d + 1 : Nat) : Int) - 1) = (d : Int) := by rw [wrap64_id (by omega) (by omega)]; omega
    refine Res.step (f := fun K => swarfkit_CarOf.l1 K a2 st ((d + 1 : Nat) : Int) (parts.length : Int) true ((0 : Nat) : Int) s5 parts 0 0 ([] : List Int) b tool m) (fun K => ?_)
      (carOf_l1 hp (by omega) _ b tool m ⟨ht0, ht1⟩ hmm (fun p b s hP hst => ?_) parts.length 0 s5 true [] (by omega) (by simp [riseE, rise]) (fun x h => by cases h) (Nat.le_refl _) (fun _ x h => by cases h))
    · have hz : ((0 : Nat) : Int) = 0 := rfl
      have hgt : ((d + 1 : Nat) : Int) > 0 := by omega
      rw [swarfkit_CarOf.l0, if_pos hgt, hz]
      refine bind_of ho ?_
      refine bind_of hbt ?_
      refine bind_of hm1 ?_
      refine bind_of hm2 ?_
      exact bind_of he rfl
    · rw [hw]
      exact ih _ _ s (hp.snoc hP hst) (by simp; omega) (by rw [List.length_append, List.length_singleton]; omega)
theorem carOf_ev (s a1 a2 : Int) (h1 : 1 ≤ a1) (h9 : a1 ≤ 9) (h0 : 0 ≤ a2) (h12 : a2 ≤ 12) : Res (fun K => swarfkit_CarOf.f K s a1 a2) (CarGoodT a1 a2) := by
  obtain ⟨n, s1, hb, hn0, hn1⟩ := between_ok s 1 a1 h1 (by decide) (by omega)
  obtain ⟨m, rfl⟩ : ∃ m : Nat, n = m := ⟨n.toNat, by omega⟩
  have h := carOf_l0 (a1 := a1) h9 h12 h0 m [] [] s1 ⟨rfl, fun i h => by simp at h, fun i h => by simp at h⟩ (by simp; omega) (by simp; omega)
  obtain ⟨r, h2, h3⟩ := h
  refine ⟨r, ?_, h3⟩
  obtain ⟨K, h2⟩ := h2
  refine ⟨K, fun k hk => ?_⟩
  unfold swarfkit_CarOf.f
  rw [hb]
  exact h2 k hk
end Go.Proofs.Ytkkmfcdikkiodaa.PC4
namespace Go.Proofs.Ytkkmfcdikkiodaa.PC4
set_option linter.unusedVariables false
open Go.RowKit Go.Proofs.YtkkmfcdikkiodaaW.PrintWords Go.Proofs.YtkkmfcdikkiodaaW.PrintLast Go.Proofs.YtkkmfcdikkiodaaW.PrintMore
theorem rawHas_eq (s i : Nat) (hs : s < 65536) (hi : i ≤ 16) : rawHas (i : Int) (s : Int) = s.testBit i := by
  have h := has_f s i hs hi
  unfold strip_set_has.f at h
  rw [if_pos (by omega)] at h
  injection h
theorem rawAll_eq (s o : Nat) (hs : s < 65536) (ho : o < 65536) : rawAll (o : Int) (s : Int) = subM o s := u16_andNot o s ho hs
theorem verdict_cases (T : List Nat) (p : Int → Bool) (q : Nat → Bool) (hq : ∀ s, s ∈ T → p (s : Int) = q s) :
    (verdictS (setsI T) p = 1 ∧ ∀ s, s ∈ T → q s = true) ∨ (verdictS (setsI T) p = 2 ∧ T ≠ [] ∧ ∀ s, s ∈ T → q s = false) ∨ (verdictS (setsI T) p = 3 ∧ (∃ s, s ∈ T ∧ q s = true) ∧ ∃ s, s ∈ T ∧ q s = false) := by
  unfold verdictS
  by_cases h1 : (setsI T).any (fun x => !p x) = true
  · rw [if_pos h1]
    obtain ⟨x, hx, h1⟩ := List.any_eq_true.1 h1
    obtain ⟨s, hs, rfl⟩ := List.mem_map.1 hx
    have hs2 : q s = false := by rw [← hq s hs]; simpa using h1
    by_cases h2 : (setsI T).any p = true
    · rw [if_pos h2]
      obtain ⟨y, hy, h2⟩ := List.any_eq_true.1 h2
      obtain ⟨t, ht, rfl⟩ := List.mem_map.1 hy
      exact .inr (.inr ⟨rfl, ⟨t, ht, by rw [← hq t ht]; exact h2⟩, s, hs, hs2⟩)
    · rw [if_neg h2]
      refine .inr (.inl ⟨rfl, fun e => (by rw [e] at hs; cases hs), fun t ht => ?_⟩)
      cases hb : q t with
      | false => rfl
      | true => exact absurd (List.any_eq_true.2 ⟨(t : Int), List.mem_map.2 ⟨t, ht, rfl⟩, by rw [hq t ht]; exact hb⟩) h2
  · rw [if_neg h1]
    refine .inl ⟨rfl, fun t ht => ?_⟩
    cases hb : q t with
    | true => rfl
    | false => exact absurd (List.any_eq_true.2 ⟨(t : Int), List.mem_map.2 ⟨t, ht, rfl⟩, by rw [hq t ht, hb]; rfl⟩) h1
theorem okGo_iff (s : Nat) (l : List S50) : ∀ i, okGo s i l = true ↔ ∀ k (h : k < l.length), s.testBit (i + k) = true → subM (maskOf (l[k]).f0) s = true := by
  induction l with
  | nil => intro i; simp [okGo]
  | cons p l ih =>
    intro i
    rw [okGo_cons]
    by_cases hc : (s.testBit i && !subM (maskOf p.f0) s) = true
    · rw [if_pos hc]
      rw [Bool.and_eq_true, Bool.not_eq_true'] at hc
      refine ⟨fun h => (by cases h), fun h => ?_⟩
      have := h 0 (by simp) (by simpa using hc.1)
      rw [List.getElem_cons_zero, hc.2] at this
      cases this
    · rw [if_neg hc, ih]
      constructor
      · intro h k hk hb
        cases k with
        | zero =>
          rw [List.getElem_cons_zero]
          cases hs : subM (maskOf p.f0) s with
          | true => rfl
          | false => exact absurd (by rw [hs]; simpa using hb) hc
        | succ k =>
          rw [List.getElem_cons_succ]
          exact h k (by simpa using hk) (by rwa [show i + 1 + k = i + (k + 1) by omega])
      · intro h k hk hb
        have := h (k + 1) (by simpa using hk) (by rwa [show i + (k + 1) = i + 1 + k by omega])
        rwa [List.getElem_cons_succ] at this
theorem okM_iff {parts : List S50} (h : ∀ i, i < parts.length → PartOK i (parts.getD i z50)) (s : Nat) : okM parts s = true ↔ ∀ i, i < parts.length → s.testBit i = true → ∀ x, x ∈ (parts.getD i z50).f0 → s.testBit x.toNat = true := by
  unfold okM
  rw [okGo_iff]
  have hg : ∀ i (hi : i < parts.length), parts.getD i z50 = parts[i] := fun i hi => by rw [List.getD, List.getElem?_eq_getElem hi]; rfl
  constructor
  · intro h1 i hi hb x hx
    have h2 := h1 i hi (by rwa [Nat.zero_add])
    have hp := h i hi
    rw [hg i hi] at hx hp
    refine (subM_iff _ _).1 h2 _ ?_
    exact (maskOf_bit _ (fun y hy => (hp.lt y hy).1) _).2 (by have := (hp.lt x hx).1; rwa [Int.toNat_of_nonneg this])
  · intro h1 i hi hb
    rw [Nat.zero_add] at hb
    have hp := h i hi
    have h2 := h1 i hi hb
    rw [hg i hi] at h2 hp
    refine (subM_iff _ _).2 (fun k hk => ?_)
    have := h2 (k : Int) ((maskOf_bit _ (fun y hy => (hp.lt y hy).1) _).1 hk)
    rwa [Int.toNat_natCast] at this
theorem mem_truths {parts : List S50} {looks : List S61} {wrong : Int} (s : Nat) : s ∈ truthsL parts looks wrong ↔ s < 2 ^ parts.length ∧ okM parts s = true ∧ (wrongM s looks : Int) ≤ wrong := by
  unfold truthsL truthsOf statesL statesTo
  simp only [List.mem_map, List.mem_filter, List.mem_range, decide_eq_true_eq]
  constructor
  · rintro ⟨x, ⟨⟨t, ⟨h1, h2⟩, rfl⟩, h3⟩, rfl⟩
    exact ⟨h1, h2, h3⟩
  · rintro ⟨h1, h2, h3⟩
    exact ⟨(s, wrongM s looks), ⟨⟨s, ⟨h1, h2⟩, rfl⟩, h3⟩, rfl⟩
def stM : List Bool → Nat
  | [] => 0
  | b :: l => (if b then 1 else 0) + 2 * stM l
theorem stM_lt (l : List Bool) : stM l < 2 ^ l.length := by
  induction l with
  | nil => simp [stM]
  | cons b l ih => simp only [stM, List.length_cons, Nat.pow_succ]; split <;> omega
theorem stM_bit (l : List Bool) : ∀ i, (stM l).testBit i = l.getD i false := by
  induction l with
  | nil => intro i; simp [stM]
  | cons b l ih =>
    intro i
    cases i with
    | zero =>
      rw [Nat.testBit_zero]
      cases b <;> simp [stM] <;> omega
    | succ i =>
      rw [Nat.testBit_succ]
      have : stM (b :: l) / 2 = stM l := by simp only [stM]; split <;> omega
      rw [this, ih]
      simp
theorem wrongM_st (st : List Bool) (looks : List S61) : wrongM (stM st) looks = wrongB st looks := by
  induction looks with
  | nil => rfl
  | cons l t ih => simp only [wrongM, wrongB, stM_bit, ih]
theorem CarGood.truth {a1 a2 : Int} {parts : List S50} {swap : Int} {looks : List S61} {wrong : Int} {needs : List Int} {st : List Bool} (h : CarGood a1 a2 parts swap looks wrong needs st) : stM st ∈ truthsL parts looks wrong := by
  refine (mem_truths _).2 ⟨?_, (okM_iff h.p.ok _).2 (fun i hi hb x hx => ?_), by rw [wrongM_st]; exact h.wr.2.2⟩
  · rw [← h.p.len]; exact stM_lt st
  · rw [stM_bit] at hb ⊢
    exact h.p.st i hi hb x hx
theorem partsE_of (l : List S50) : ∀ i : Int, (∀ k (h : k < l.length), riseE (i + k - 1) 3 (l[k]).f0 = 0 ∧ inB (l[k]).f2 1 4 = true ∧ inB (l[k]).f3 0 1000 = true) → partsE i l = 0 := by
  induction l with
  | nil => intro i _; rfl
  | cons p l ih =>
    intro i h
    obtain ⟨h1, h2, h3⟩ := h 0 (by simp)
    rw [List.getElem_cons_zero] at h1 h2 h3
    rw [partsE_cons, if_pos (by simpa using h1), if_pos (by rw [h2, h3]; rfl)]
    refine ih (i + 1) (fun k hk => ?_)
    have := h (k + 1) (by simpa using hk)
    rw [List.getElem_cons_succ] at this
    rw [show i + 1 + (k : Int) - 1 = i + ((k + 1 : Nat) : Int) - 1 by omega]
    exact this
theorem CarGood.check {a1 a2 : Int} {parts : List S50} {swap : Int} {looks : List S61} {wrong : Int} {needs : List Int} {st : List Bool} (h : CarGood a1 a2 parts swap looks wrong needs st) (h9 : a1 ≤ 9) (h12 : a2 ≤ 12) : checkE parts swap looks wrong needs = 0 := by
  have hp := h.one
  have hf := h.few
  have hl := h.ll
  unfold checkE
  rw [if_neg (by omega), if_neg (by omega), if_pos ?_]
  · unfold checkT
    rw [if_pos (inB_of (by have := h.sw; omega)), if_neg (by omega), if_neg ?_, if_pos (inB_of ⟨h.wr.1, h.wr.2.1⟩), if_neg (by have := h.nl; omega), h.nd]
    intro e
    obtain ⟨l, hl, hb⟩ := List.any_eq_true.1 e
    have := h.lk l hl
    unfold lookBad at hb
    simp only [Bool.not_eq_true', Bool.and_eq_false_iff, decide_eq_false_iff_not] at hb
    omega
  · refine partsE_of _ _ (fun k hk => ?_)
    have hk2 := h.p.ok k hk
    have hg : parts.getD k z50 = parts[k] := by rw [List.getD, List.getElem?_eq_getElem hk]; rfl
    rw [hg] at hk2
    exact ⟨by rw [Int.zero_add]; exact hk2.ris, inB_of (by have := hk2.tool; omega), inB_of hk2.min⟩
theorem CarGood.fits {a1 a2 : Int} {parts : List S50} {swap : Int} {looks : List S61} {wrong : Int} {needs : List Int} {st : List Bool} (h : CarGood a1 a2 parts swap looks wrong needs st) (h9 : a1 ≤ 9) (h12 : a2 ≤ 12) : carFits parts looks needs := by
  have hf := h.few
  have hl := h.ll
  have hn := h.nl
  refine ⟨by omega, by omega, by omega, fun p hp => ?_⟩
  obtain ⟨i, hi, rfl⟩ := List.getElem_of_mem hp
  have hk2 := h.p.ok i hi
  rw [List.getD, List.getElem?_eq_getElem hi] at hk2
  have : (parts[i]).f0.length ≤ i := hk2.len
  omega
end Go.Proofs.Ytkkmfcdikkiodaa.PC4
namespace Go.Proofs.Ytkkmfcdikkiodaa.PC4
set_option linter.unusedVariables false
open Go.RowKit Go.Proofs.YtkkmfcdikkiodaaW.PrintWords Go.Proofs.YtkkmfcdikkiodaaW.PrintLast Go.Proofs.YtkkmfcdikkiodaaW.PrintMore
def carP : List S50 := [⟨[], true, 1, 10⟩, ⟨[0], true, 2, 20⟩, ⟨[1], true, 1, 15⟩, ⟨[], false, 3, 30⟩, ⟨[0, 3], true, 3, 5⟩]
def carL : List S61 := [⟨0, true⟩, ⟨1, true⟩, ⟨2, false⟩, ⟨4, false⟩]
set_option maxRecDepth 100000 in
theorem car_fits : carFits carP carL [2, 5] := by decide
theorem car_out : outE carP 2 carL 1 [2, 5] = ([1, 3, 3, 3, 3], 0) := by decide +kernel
theorem car_clean : cleanE carP 2 carL 1 [2, 5] = (2, 0) := by decide +kernel
theorem car_work : workE carP 2 carL 1 [2, 5] = ([1, 2, 3, 4], 74, 0) := by decide +kernel
theorem awake_eq (k : Nat) : swarflaw04_awake.f k = ((swarfkit_EqualInts.f k [1, 3, 3, 3, 3] [1, 3, 3, 3, 3]).bind fun t189 => (if t189 = true then ((swarfkit_EqualInts.f k [1, 2, 3, 4] [1, 2, 3, 4]).bind fun t193 => (some t193)) else (some false))) := by
  have hcar : swarflaw04_car.f = some (carP, 2, carL, 1, [2, 5]) := rfl
  have h1 : strip_Out.f carP 2 carL 1 [2, 5] = some ([1, 3, 3, 3, 3], 0) := by unfold strip_Out.f; rw [if_pos car_fits, car_out]
  have h2 : strip_Clean.f carP 2 carL 1 [2, 5] = some (2, 0) := by unfold strip_Clean.f; rw [if_pos car_fits, car_clean]
  have h3 : strip_Work.f carP 2 carL 1 [2, 5] = some ([1, 2, 3, 4], 74, 0) := by unfold strip_Work.f; rw [if_pos car_fits, car_work]
  unfold swarflaw04_awake.f
  refine bind_of hcar ?_
  refine bind_of h1 ?_
  refine bind_of hcar ?_
  refine bind_of h2 ?_
  refine bind_of hcar ?_
  exact bind_of h3 rfl
theorem equal_l0 (a b : List Int) (hl : a.length = b.length) (hs : a.length ≤ 1000000000) (d : Nat) : ∀ i : Nat, i + d = a.length → Ev (fun K => swarfkit_EqualInts.l0 K a b true (i : Int)) (decide (a.drop i = b.drop i)) := by
  induction d with
  | zero =>
    intro i hi
    have hc : ¬ (i : Int) < (a.length : Int) := by omega
    refine Ev.step (f := fun _ => some true) (fun K => ?_) ?_
    · simp only [swarfkit_EqualInts.l0, hc, if_true, if_false]
    · rw [List.drop_of_length_le (by omega), List.drop_of_length_le (by omega)]
      exact Ev.now _
  | succ d ih =>
    intro i hi
    have hc : (i : Int) < (a.length : Int) := by omega
    have hc2 : (i : Int) < (b.length : Int) := by omega
    have hc0 : 0 ≤ (i : Int) := by omega
    have hw : wrap64 ((i : Int) + 1) = ((i + 1 : Nat) : Int) := by rw [wrap64_id (by omega) (by omega)]; omega
    refine Ev.step (f := fun K => swarfkit_EqualInts.l0 K a b (a.getD i 0 == b.getD i 0) ((i + 1 : Nat) : Int)) (fun K => ?_) ?_
    · simp only [swarfkit_EqualInts.l0, hc, hc2, hc0, if_true, hw, rd_getD]
    · rw [drop_cons_rd a i (by omega) 0, drop_cons_rd b i (by omega) 0]
      by_cases he : a.getD i 0 = b.getD i 0
      · rw [he, beq_self_eq_true]
        have := ih (i + 1) (by omega)
        simpa using this
      · rw [beq_eq_false_iff_ne.2 he]
        refine Ev.step (f := fun _ => some false) (fun K => ?_) ?_
        · simp only [swarfkit_EqualInts.l0, Bool.false_eq_true, if_false]
        · have : decide (a.getD i 0 :: a.drop (i + 1) = b.getD i 0 :: b.drop (i + 1)) = false := decide_eq_false (fun e => he (by injection e))
          rw [this]
          exact Ev.now _
theorem equal_ev (a b : List Int) (hs : a.length ≤ 1000000000) (hs2 : b.length ≤ 1000000000) : Ev (fun K => swarfkit_EqualInts.f K a b) (decide (a = b)) := by
  unfold swarfkit_EqualInts.f
  by_cases hl : a.length = b.length
  · have : ((a.length : Int) == (b.length : Int)) = true := beq_iff_eq.2 (by omega)
    rw [this]
    have := equal_l0 a b hl hs a.length 0 (by omega)
    simpa using this
  · have h1 : ((a.length : Int) == (b.length : Int)) = false := beq_eq_false_iff_ne.2 (by omega)
    rw [h1, decide_eq_false (fun e => hl (by rw [e]))]
    refine Ev.step (f := fun _ => some false) (fun K => ?_) (Ev.now _)
    simp only [swarfkit_EqualInts.l0, Bool.false_eq_true, if_false]
theorem awake_ev : Ev (fun K => swarflaw04_awake.f K) true := by
  refine Ev.congr awake_eq ?_
  refine Ev.bind (equal_ev _ _ (by decide) (by decide)) ?_
  simp only [decide_true, if_true]
  refine Ev.bind (equal_ev _ _ (by decide) (by decide)) ?_
  simp only [decide_true]
  exact Ev.now _
theorem awake_true {k : Nat} {r : Bool} (h : swarflaw04_awake.f k = some r) : r = true := by
  obtain ⟨K, hK⟩ := awake_ev
  have h1 := at_rounds (g := fun k => swarflaw04_awake.f k) swarflaw04_awake.mono (Nat.le_max_left k K) h
  have h2 := hK (max k K) (Nat.le_max_right k K)
  exact Option.some.inj (h1.symm.trans h2)
end Go.Proofs.Ytkkmfcdikkiodaa.PC4
namespace Go.Proofs.Ytkkmfcdikkiodaa.PC4
open Go.RowKit Go.Proofs.YtkkmfcdikkiodaaW.PrintWords Go.Proofs.YtkkmfcdikkiodaaW.PrintLast Go.Proofs.YtkkmfcdikkiodaaW.PrintMore
attribute [local go_sem] max2_int min2_int max_two min_two max_three min_three max_four min_four
set_option linter.unusedVariables false
set_option linter.unusedSimpArgs false
set_option maxHeartbeats 8000000 in
set_option maxRecDepth 100000 in
theorem swarflaw04_awake.calls (k : Nat)  (r : Bool) (w : World) (h : swarflaw04_awake.f k  = some r) :
    Calls Try.prog 16 #[] w fun e w' => e = .returned (.bool r) ∧ Below w.heap.size w w' := by
  have hrt := Aside0.mk (awake_true h)
  have HB := Aside0.mk (Below.refl w.heap.size w)
  have H : ((swarflaw04_car.f).bind fun bt142 => ((strip_Out.f bt142.1 bt142.2.1 bt142.2.2.1 bt142.2.2.2.1 bt142.2.2.2.2).bind fun bt153 => ((swarflaw04_car.f).bind fun bt157 => ((strip_Clean.f bt157.1 bt157.2.1 bt157.2.2.1 bt157.2.2.2.1 bt157.2.2.2.2).bind fun bt168 => ((swarflaw04_car.f).bind fun bt170 => ((strip_Work.f bt170.1 bt170.2.1 bt170.2.2.1 bt170.2.2.2.1 bt170.2.2.2.2).bind fun bt181 => (if bt153.2 = 0 then (if bt168.2 = 0 then (if bt181.2.2 = 0 then (if bt168.1 = 2 then (if bt181.2.1 = 74 then ((swarfkit_EqualInts.f k bt153.1 (([1, 3, 3, 3, 3] : List Int))).bind fun t189 => (if t189 = true then ((swarfkit_EqualInts.f k bt181.1 (([1, 2, 3, 4] : List Int))).bind fun t193 => (some t193)) else (some false))) else (some false)) else (some false)) else (some false)) else (some false)) else (some false)))))))) = some r := h
  clear h
  replace H := Option.bind_eq_some_iff.mp H
  obtain ⟨⟨t142, t145, t146, t149, t150⟩, A10, H⟩ := H
  replace H : ((strip_Out.f t142 t145 t146 t149 t150).bind fun bt153 => ((swarflaw04_car.f).bind fun bt157 => ((strip_Clean.f bt157.1 bt157.2.1 bt157.2.2.1 bt157.2.2.2.1 bt157.2.2.2.2).bind fun bt168 => ((swarflaw04_car.f).bind fun bt170 => ((strip_Work.f bt170.1 bt170.2.1 bt170.2.2.1 bt170.2.2.2.1 bt170.2.2.2.2).bind fun bt181 => (if bt153.2 = 0 then (if bt168.2 = 0 then (if bt181.2.2 = 0 then (if bt168.1 = 2 then (if bt181.2.1 = 74 then ((swarfkit_EqualInts.f k bt153.1 (([1, 3, 3, 3, 3] : List Int))).bind fun t189 => (if t189 = true then ((swarfkit_EqualInts.f k bt181.1 (([1, 2, 3, 4] : List Int))).bind fun t193 => (some t193)) else (some false))) else (some false)) else (some false)) else (some false)) else (some false)) else (some false))))))) = some r := H
  have A1 := Aside0.mk A10
  clear A10
  replace H := Option.bind_eq_some_iff.mp H
  obtain ⟨⟨t153, t156⟩, A20, H⟩ := H
  replace H : ((swarflaw04_car.f).bind fun bt157 => ((strip_Clean.f bt157.1 bt157.2.1 bt157.2.2.1 bt157.2.2.2.1 bt157.2.2.2.2).bind fun bt168 => ((swarflaw04_car.f).bind fun bt170 => ((strip_Work.f bt170.1 bt170.2.1 bt170.2.2.1 bt170.2.2.2.1 bt170.2.2.2.2).bind fun bt181 => (if t156 = 0 then (if bt168.2 = 0 then (if bt181.2.2 = 0 then (if bt168.1 = 2 then (if bt181.2.1 = 74 then ((swarfkit_EqualInts.f k t153 (([1, 3, 3, 3, 3] : List Int))).bind fun t189 => (if t189 = true then ((swarfkit_EqualInts.f k bt181.1 (([1, 2, 3, 4] : List Int))).bind fun t193 => (some t193)) else (some false))) else (some false)) else (some false)) else (some false)) else (some false)) else (some false)))))) = some r := H
  have A2 := Aside0.mk A20
  clear A20
  replace H := Option.bind_eq_some_iff.mp H
  obtain ⟨⟨t157, t160, t161, t164, t165⟩, A30, H⟩ := H
  replace H : ((strip_Clean.f t157 t160 t161 t164 t165).bind fun bt168 => ((swarflaw04_car.f).bind fun bt170 => ((strip_Work.f bt170.1 bt170.2.1 bt170.2.2.1 bt170.2.2.2.1 bt170.2.2.2.2).bind fun bt181 => (if t156 = 0 then (if bt168.2 = 0 then (if bt181.2.2 = 0 then (if bt168.1 = 2 then (if bt181.2.1 = 74 then ((swarfkit_EqualInts.f k t153 (([1, 3, 3, 3, 3] : List Int))).bind fun t189 => (if t189 = true then ((swarfkit_EqualInts.f k bt181.1 (([1, 2, 3, 4] : List Int))).bind fun t193 => (some t193)) else (some false))) else (some false)) else (some false)) else (some false)) else (some false)) else (some false))))) = some r := H
  have A3 := Aside0.mk A30
  clear A30
  replace H := Option.bind_eq_some_iff.mp H
  obtain ⟨⟨t168, t169⟩, A40, H⟩ := H
  replace H : ((swarflaw04_car.f).bind fun bt170 => ((strip_Work.f bt170.1 bt170.2.1 bt170.2.2.1 bt170.2.2.2.1 bt170.2.2.2.2).bind fun bt181 => (if t156 = 0 then (if t169 = 0 then (if bt181.2.2 = 0 then (if t168 = 2 then (if bt181.2.1 = 74 then ((swarfkit_EqualInts.f k t153 (([1, 3, 3, 3, 3] : List Int))).bind fun t189 => (if t189 = true then ((swarfkit_EqualInts.f k bt181.1 (([1, 2, 3, 4] : List Int))).bind fun t193 => (some t193)) else (some false))) else (some false)) else (some false)) else (some false)) else (some false)) else (some false)))) = some r := H
  have A4 := Aside0.mk A40
  clear A40
  replace H := Option.bind_eq_some_iff.mp H
  obtain ⟨⟨t170, t173, t174, t177, t178⟩, A50, H⟩ := H
  replace H : ((strip_Work.f t170 t173 t174 t177 t178).bind fun bt181 => (if t156 = 0 then (if t169 = 0 then (if bt181.2.2 = 0 then (if t168 = 2 then (if bt181.2.1 = 74 then ((swarfkit_EqualInts.f k t153 (([1, 3, 3, 3, 3] : List Int))).bind fun t189 => (if t189 = true then ((swarfkit_EqualInts.f k bt181.1 (([1, 2, 3, 4] : List Int))).bind fun t193 => (some t193)) else (some false))) else (some false)) else (some false)) else (some false)) else (some false)) else (some false))) = some r := H
  have A5 := Aside0.mk A50
  clear A50
  replace H := Option.bind_eq_some_iff.mp H
  obtain ⟨⟨t181, t184, t185⟩, A60, H⟩ := H
  replace H : (if t156 = 0 then (if t169 = 0 then (if t185 = 0 then (if t168 = 2 then (if t184 = 74 then ((swarfkit_EqualInts.f k t153 (([1, 3, 3, 3, 3] : List Int))).bind fun t189 => (if t189 = true then ((swarfkit_EqualInts.f k t181 (([1, 2, 3, 4] : List Int))).bind fun t193 => (some t193)) else (some false))) else (some false)) else (some false)) else (some false)) else (some false)) else (some false)) = some r := H
  have A6 := Aside0.mk A60
  clear A60
  by_cases c7 : t156 = 0
  · rw [if_pos c7] at H
    have c7b0 : (t156 == 0) = true := beq_iff_eq.mpr c7
    have c7b1 : (t156 != 0) = false := bne_eq_false_iff_eq.mpr c7
    clear c7
    by_cases c8 : t169 = 0
    · rw [if_pos c8] at H
      have c8b0 : (t169 == 0) = true := beq_iff_eq.mpr c8
      have c8b1 : (t169 != 0) = false := bne_eq_false_iff_eq.mpr c8
      clear c8
      by_cases c9 : t185 = 0
      · rw [if_pos c9] at H
        have c9b0 : (t185 == 0) = true := beq_iff_eq.mpr c9
        have c9b1 : (t185 != 0) = false := bne_eq_false_iff_eq.mpr c9
        clear c9
        by_cases c10 : t168 = 2
        · rw [if_pos c10] at H
          have c10b0 : (t168 == 2) = true := beq_iff_eq.mpr c10
          have c10b1 : (t168 != 2) = false := bne_eq_false_iff_eq.mpr c10
          clear c10
          by_cases c11 : t184 = 74
          · rw [if_pos c11] at H
            have c11b0 : (t184 == 74) = true := beq_iff_eq.mpr c11
            have c11b1 : (t184 != 74) = false := bne_eq_false_iff_eq.mpr c11
            clear c11
            obtain ⟨y186, hy186⟩ : ∃ y_ : List Int, y_ = (([1, 3, 3, 3, 3] : List Int)) := ⟨_, rfl⟩
            replace H : ((swarfkit_EqualInts.f k t153 y186).bind fun t189 => (if t189 = true then ((swarfkit_EqualInts.f k t181 (([1, 2, 3, 4] : List Int))).bind fun t193 => (some t193)) else (some false))) = some r := by first | (rw [hy186]; with_reducible exact H) | (have H2_ := (Option.bind_some _ _).symm.trans H; rw [hy186]; with_reducible exact H2_) | (have H2_ := (Option.bind_some _ _).symm.trans H; with_reducible exact H2_) | with_reducible exact H | (rw [hy186]; exact H) | exact H
            have Ny186 := Aside0.mk hy186
            clear hy186
            replace H := Option.bind_eq_some_iff.mp H
            obtain ⟨t189, A120, H⟩ := H
            replace H : (if t189 = true then ((swarfkit_EqualInts.f k t181 (([1, 2, 3, 4] : List Int))).bind fun t193 => (some t193)) else (some false)) = some r := H
            have A12 := Aside0.mk A120
            clear A120
            by_cases c13 : t189 = true
            · subst c13
              have H1 : ((swarfkit_EqualInts.f k t181 (([1, 2, 3, 4] : List Int))).bind fun t193 => (some t193)) = some r := by rw [if_pos rfl] at H; exact H
              clear H
              have H := H1
              clear H1
              obtain ⟨y190, hy190⟩ : ∃ y_ : List Int, y_ = (([1, 2, 3, 4] : List Int)) := ⟨_, rfl⟩
              replace H : ((swarfkit_EqualInts.f k t181 y190).bind fun t193 => (some t193)) = some r := by first | (rw [hy190]; with_reducible exact H) | (have H2_ := (Option.bind_some _ _).symm.trans H; rw [hy190]; with_reducible exact H2_) | (have H2_ := (Option.bind_some _ _).symm.trans H; with_reducible exact H2_) | with_reducible exact H | (rw [hy190]; exact H) | exact H
              have Ny190 := Aside0.mk hy190
              clear hy190
              replace H := Option.bind_eq_some_iff.mp H
              obtain ⟨t193, A140, H⟩ := H
              replace H : (some t193) = some r := H
              have A14 := Aside0.mk A140
              clear A140
              obtain rfl := Option.some.inj H
              go_enter Try.func16, Try.ntmps16
              go_wp2_with (first | ((with_reducible refine gate_callee (f := 55) rfl ?_); refine goesL_ (some 10) rfl rfl Try.func55 (by kernel_rfl) rfl #[] rfl (by (try simp only [List.map_toArray, List.map_cons, List.map_nil]); first | done | rfl | (simp only [List.length_drop, List.length_take]; rfl)) ?_; (with_reducible refine (swarflaw04_car.calls  t142 t145 t146 t149 t150 _ A1.out).mono ?_); rintro e w15 ⟨v143, v147, v151, rfl, ho0, ho1, ho2, hb⟩; refine ⟨_, rfl, ?_⟩; have n0_ := Aside0.mk (Kd.N_lower (Kd.N_mono (ok' := fun k_ => some k_ ≠ (v147 : Value).ownBlock ∧ some k_ ≠ (v151 : Value).ownBlock) ho0 (fun k_ hk_ => ⟨hk_.2.1, hk_.2.2⟩)) (below_size (by repeat (first | (with_reducible first | exact HB.out | apply below_alloc | apply pw_below_drewN | apply below_drew1) | exact HB.out)))); have n1_ := Aside0.mk (Kd.R_lower (Kd.R_mono (ok' := fun k_ => True) ho1 (fun _ hk_ => trivial)) (below_size (by repeat (first | (with_reducible first | exact HB.out | apply below_alloc | apply pw_below_drewN | apply below_drew1) | exact HB.out)))); have n2_ := Aside0.mk (Kd.R_lower (Kd.R_mono (ok' := fun k_ => True) ho2 (fun _ hk_ => trivial)) (below_size (by repeat (first | (with_reducible first | exact HB.out | apply below_alloc | apply pw_below_drewN | apply below_drew1) | exact HB.out)))); have n3_ := Aside0.mk (below_step (by repeat (first | (with_reducible first | exact HB.out | apply below_alloc | apply pw_below_drewN | apply below_drew1) | exact HB.out)) hb); clear HB; have HO144 := n0_; have HO148 := n1_; have HO152 := n2_; have HB := n3_; clear n0_ n1_ n2_ n3_; (try clear hb); (try clear hb2); (try clear hk); (try clear hi); (try clear ho0); (try clear ho1); (try clear ho2); obtain ⟨Ao16, co16, eo16⟩ := Kd.N_slice HO144.out; subst eo16; obtain ⟨Ao17, co17, eo17⟩ := Kd.R_slice HO148.out; subst eo17; obtain ⟨Ao18, co18, eo18⟩ := Kd.R_slice HO152.out; subst eo18) | ((with_reducible refine gate_callee (f := 26) rfl ?_); refine goesL_ (some 11) rfl rfl Try.func26 (by kernel_rfl) rfl #[.agg #[.slice Ao16 t142.length co16, .int .i64 t145, .slice Ao17 t146.length co17, .int .i64 t149, .slice Ao18 t150.length co18]] rfl (by (try simp only [List.map_toArray, List.map_cons, List.map_nil]); first | done | rfl | (simp only [List.length_drop, List.length_take]; rfl)) ?_; (with_reducible refine (strip_Out.calls _ _ t142 t145 _ _ t146 t149 _ _ t150 t153 t156 _ ?side1 ?side2 ?side3 ?side4 ?side5 ?side6 A2.out).mono ?_); (case side1 => repeat (first | exact (Kd.N_reads' HO144.out).2.2 | (with_reducible refine Kd.C_alloc ?_ _) | (with_reducible refine Kd.C_drewN ?_ _) | (with_reducible refine Kd.C_drew ?_))); (case side2 => exact (Kd.N_reads' HO144.out).2.1); (case side3 => repeat (first | exact (Kd.R_reads' HO148.out).2.2 | (with_reducible refine Kd.C_alloc ?_ _) | (with_reducible refine Kd.C_drewN ?_ _) | (with_reducible refine Kd.C_drew ?_))); (case side4 => exact (Kd.R_reads' HO148.out).2.1); (case side5 => repeat (first | exact (Kd.R_reads' HO152.out).2.2 | (with_reducible refine Kd.C_alloc ?_ _) | (with_reducible refine Kd.C_drewN ?_ _) | (with_reducible refine Kd.C_drew ?_))); (case side6 => exact (Kd.R_reads' HO152.out).2.1); rintro e w19 ⟨v154, rfl, ho0, hb⟩; refine ⟨_, rfl, ?_⟩; have n0_ := Aside0.mk (Kd.N_elder' (by (with_reducible repeat (first | apply Kd.N_alloc | apply Kd.N_drewN | apply Kd.N_drew)); exact HO144.out) (Kd.R_base ho0) hb); have n1_ := Aside0.mk (Kd.R_below (by (with_reducible repeat (first | apply Kd.R_alloc | apply Kd.R_drewN | apply Kd.R_drew)); exact HO148.out) hb); have n2_ := Aside0.mk (Kd.R_elder' (by (with_reducible repeat (first | apply Kd.R_alloc | apply Kd.R_drewN | apply Kd.R_drew)); exact HO152.out) (Kd.R_base ho0) hb); have n3_ := Aside0.mk (Kd.R_lower (Kd.R_new' ho0 (Kd.R_lt (by (with_reducible repeat (first | apply Kd.R_alloc | apply Kd.R_drewN | apply Kd.R_drew)); exact HO152.out))) (below_size (by repeat (first | (with_reducible first | exact HB.out | apply below_alloc | apply pw_below_drewN | apply below_drew1) | exact HB.out)))); have n4_ := Aside0.mk (below_step (by repeat (first | (with_reducible first | exact HB.out | apply below_alloc | apply pw_below_drewN | apply below_drew1) | exact HB.out)) hb); clear HO144; clear HO148; clear HO152; clear HB; have HO144 := n0_; have HO148 := n1_; have HO152 := n2_; have HO155 := n3_; have HB := n4_; clear n0_ n1_ n2_ n3_ n4_; (try clear hb); (try clear hb2); (try clear hk); (try clear hi); (try clear ho0)) | ((with_reducible refine gate_callee (f := 55) rfl ?_); refine goesL_ (some 15) rfl rfl Try.func55 (by kernel_rfl) rfl #[] rfl (by (try simp only [List.map_toArray, List.map_cons, List.map_nil]); first | done | rfl | (simp only [List.length_drop, List.length_take]; rfl)) ?_; (with_reducible refine (swarflaw04_car.calls  t157 t160 t161 t164 t165 _ A3.out).mono ?_); rintro e w20 ⟨v158, v162, v166, rfl, ho0, ho1, ho2, hb⟩; refine ⟨_, rfl, ?_⟩; have n0_ := Aside0.mk (Kd.N_mono (Kd.N_told (Kd.N_told (Kd.N_told (Kd.N_old (by (with_reducible repeat (first | apply Kd.N_alloc | apply Kd.N_drewN | apply Kd.N_drew)); exact HO144.out) hb) (Kd.N_base ho0)) (Kd.R_base ho1)) (Kd.R_base ho2)) (fun _ h_ => h_.1)); have n1_ := Aside0.mk (Kd.R_elder' (by (with_reducible repeat (first | apply Kd.R_alloc | apply Kd.R_drewN | apply Kd.R_drew)); exact HO148.out) (Kd.R_base ho1) hb); have n2_ := Aside0.mk (Kd.R_elder' (by (with_reducible repeat (first | apply Kd.R_alloc | apply Kd.R_drewN | apply Kd.R_drew)); exact HO152.out) (Kd.R_base ho2) hb); have n3_ := Aside0.mk (Kd.R_elder' (by (with_reducible repeat (first | apply Kd.R_alloc | apply Kd.R_drewN | apply Kd.R_drew)); exact HO155.out) (Kd.R_base ho2) hb); have n4_ := Aside0.mk (Kd.N_lower (Kd.N_mono (ok' := fun k_ => some k_ ≠ (v162 : Value).ownBlock ∧ some k_ ≠ (v166 : Value).ownBlock ∧ some k_ ≠ (.slice Ao16 t142.length co16 : Value).ownBlock ∧ some k_ ≠ (.slice Ao17 t146.length co17 : Value).ownBlock ∧ some k_ ≠ (.slice Ao18 t150.length co18 : Value).ownBlock ∧ some k_ ≠ (v154 : Value).ownBlock) ho0 (fun k_ hk_ => ⟨hk_.2.1, hk_.2.2, (Kd.fresh' (Kd.N_lt (by (with_reducible repeat (first | apply Kd.N_alloc | apply Kd.N_drewN | apply Kd.N_drew)); exact HO144.out)) k_ hk_.1), (Kd.fresh' (Kd.R_lt (by (with_reducible repeat (first | apply Kd.R_alloc | apply Kd.R_drewN | apply Kd.R_drew)); exact HO148.out)) k_ hk_.1), (Kd.fresh' (Kd.R_lt (by (with_reducible repeat (first | apply Kd.R_alloc | apply Kd.R_drewN | apply Kd.R_drew)); exact HO152.out)) k_ hk_.1), (Kd.fresh' (Kd.R_lt (by (with_reducible repeat (first | apply Kd.R_alloc | apply Kd.R_drewN | apply Kd.R_drew)); exact HO155.out)) k_ hk_.1)⟩)) (below_size (by repeat (first | (with_reducible first | exact HB.out | apply below_alloc | apply pw_below_drewN | apply below_drew1) | exact HB.out)))); have n5_ := Aside0.mk (Kd.R_lower (Kd.R_new' (Kd.R_mono (ok' := fun k_ => True) ho1 (fun _ hk_ => trivial)) (Kd.R_lt (by (with_reducible repeat (first | apply Kd.R_alloc | apply Kd.R_drewN | apply Kd.R_drew)); exact HO148.out))) (below_size (by repeat (first | (with_reducible first | exact HB.out | apply below_alloc | apply pw_below_drewN | apply below_drew1) | exact HB.out)))); have n6_ := Aside0.mk (Kd.R_lower (Kd.R_new' (Kd.R_new' (Kd.R_mono (ok' := fun k_ => True) ho2 (fun _ hk_ => trivial)) (Kd.R_lt (by (with_reducible repeat (first | apply Kd.R_alloc | apply Kd.R_drewN | apply Kd.R_drew)); exact HO152.out))) (Kd.R_lt (by (with_reducible repeat (first | apply Kd.R_alloc | apply Kd.R_drewN | apply Kd.R_drew)); exact HO155.out))) (below_size (by repeat (first | (with_reducible first | exact HB.out | apply below_alloc | apply pw_below_drewN | apply below_drew1) | exact HB.out)))); have n7_ := Aside0.mk (below_step (by repeat (first | (with_reducible first | exact HB.out | apply below_alloc | apply pw_below_drewN | apply below_drew1) | exact HB.out)) hb); clear HO144; clear HO148; clear HO152; clear HO155; clear HB; have HO144 := n0_; have HO148 := n1_; have HO152 := n2_; have HO155 := n3_; have HO159 := n4_; have HO163 := n5_; have HO167 := n6_; have HB := n7_; clear n0_ n1_ n2_ n3_ n4_ n5_ n6_ n7_; (try clear hb); (try clear hb2); (try clear hk); (try clear hi); (try clear ho0); (try clear ho1); (try clear ho2); obtain ⟨Ao21, co21, eo21⟩ := Kd.N_slice HO159.out; subst eo21; obtain ⟨Ao22, co22, eo22⟩ := Kd.R_slice HO163.out; subst eo22; obtain ⟨Ao23, co23, eo23⟩ := Kd.R_slice HO167.out; subst eo23) | ((with_reducible refine gate_callee (f := 27) rfl ?_); refine goesL_ (some 16) rfl rfl Try.func27 (by kernel_rfl) rfl #[.agg #[.slice Ao21 t157.length co21, .int .i64 t160, .slice Ao22 t161.length co22, .int .i64 t164, .slice Ao23 t165.length co23]] rfl (by (try simp only [List.map_toArray, List.map_cons, List.map_nil]); first | done | rfl | (simp only [List.length_drop, List.length_take]; rfl)) ?_; (with_reducible refine (strip_Clean.calls _ _ t157 t160 _ _ t161 t164 _ _ t165 t168 t169 _ ?side1 ?side2 ?side3 ?side4 ?side5 ?side6 A4.out).mono ?_); (case side1 => repeat (first | exact (Kd.N_reads' HO159.out).2.2 | (with_reducible refine Kd.C_alloc ?_ _) | (with_reducible refine Kd.C_drewN ?_ _) | (with_reducible refine Kd.C_drew ?_))); (case side2 => exact (Kd.N_reads' HO159.out).2.1); (case side3 => repeat (first | exact (Kd.R_reads' HO163.out).2.2 | (with_reducible refine Kd.C_alloc ?_ _) | (with_reducible refine Kd.C_drewN ?_ _) | (with_reducible refine Kd.C_drew ?_))); (case side4 => exact (Kd.R_reads' HO163.out).2.1); (case side5 => repeat (first | exact (Kd.R_reads' HO167.out).2.2 | (with_reducible refine Kd.C_alloc ?_ _) | (with_reducible refine Kd.C_drewN ?_ _) | (with_reducible refine Kd.C_drew ?_))); (case side6 => exact (Kd.R_reads' HO167.out).2.1); rintro e w24 ⟨rfl, hb⟩; refine ⟨_, rfl, ?_⟩; have n0_ := Aside0.mk (Kd.N_below (by (with_reducible repeat (first | apply Kd.N_alloc | apply Kd.N_drewN | apply Kd.N_drew)); exact HO144.out) hb); have n1_ := Aside0.mk (Kd.R_below (by (with_reducible repeat (first | apply Kd.R_alloc | apply Kd.R_drewN | apply Kd.R_drew)); exact HO148.out) hb); have n2_ := Aside0.mk (Kd.R_below (by (with_reducible repeat (first | apply Kd.R_alloc | apply Kd.R_drewN | apply Kd.R_drew)); exact HO152.out) hb); have n3_ := Aside0.mk (Kd.R_below (by (with_reducible repeat (first | apply Kd.R_alloc | apply Kd.R_drewN | apply Kd.R_drew)); exact HO155.out) hb); have n4_ := Aside0.mk (Kd.N_below (by (with_reducible repeat (first | apply Kd.N_alloc | apply Kd.N_drewN | apply Kd.N_drew)); exact HO159.out) hb); have n5_ := Aside0.mk (Kd.R_below (by (with_reducible repeat (first | apply Kd.R_alloc | apply Kd.R_drewN | apply Kd.R_drew)); exact HO163.out) hb); have n6_ := Aside0.mk (Kd.R_below (by (with_reducible repeat (first | apply Kd.R_alloc | apply Kd.R_drewN | apply Kd.R_drew)); exact HO167.out) hb); have n7_ := Aside0.mk (below_step (by repeat (first | (with_reducible first | exact HB.out | apply below_alloc | apply pw_below_drewN | apply below_drew1) | exact HB.out)) hb); clear HO144; clear HO148; clear HO152; clear HO155; clear HO159; clear HO163; clear HO167; clear HB; have HO144 := n0_; have HO148 := n1_; have HO152 := n2_; have HO155 := n3_; have HO159 := n4_; have HO163 := n5_; have HO167 := n6_; have HB := n7_; clear n0_ n1_ n2_ n3_ n4_ n5_ n6_ n7_; (try clear hb); (try clear hb2); (try clear hk); (try clear hi)) | ((with_reducible refine gate_callee (f := 55) rfl ?_); refine goesL_ (some 20) rfl rfl Try.func55 (by kernel_rfl) rfl #[] rfl (by (try simp only [List.map_toArray, List.map_cons, List.map_nil]); first | done | rfl | (simp only [List.length_drop, List.length_take]; rfl)) ?_; (with_reducible refine (swarflaw04_car.calls  t170 t173 t174 t177 t178 _ A5.out).mono ?_); rintro e w25 ⟨v171, v175, v179, rfl, ho0, ho1, ho2, hb⟩; refine ⟨_, rfl, ?_⟩; have n0_ := Aside0.mk (Kd.N_mono (Kd.N_told (Kd.N_told (Kd.N_told (Kd.N_old (by (with_reducible repeat (first | apply Kd.N_alloc | apply Kd.N_drewN | apply Kd.N_drew)); exact HO144.out) hb) (Kd.N_base ho0)) (Kd.R_base ho1)) (Kd.R_base ho2)) (fun _ h_ => h_.1)); have n1_ := Aside0.mk (Kd.R_elder' (by (with_reducible repeat (first | apply Kd.R_alloc | apply Kd.R_drewN | apply Kd.R_drew)); exact HO148.out) (Kd.R_base ho1) hb); have n2_ := Aside0.mk (Kd.R_elder' (by (with_reducible repeat (first | apply Kd.R_alloc | apply Kd.R_drewN | apply Kd.R_drew)); exact HO152.out) (Kd.R_base ho2) hb); have n3_ := Aside0.mk (Kd.R_elder' (by (with_reducible repeat (first | apply Kd.R_alloc | apply Kd.R_drewN | apply Kd.R_drew)); exact HO155.out) (Kd.R_base ho2) hb); have n4_ := Aside0.mk (Kd.N_mono (Kd.N_told (Kd.N_told (Kd.N_told (Kd.N_old (by (with_reducible repeat (first | apply Kd.N_alloc | apply Kd.N_drewN | apply Kd.N_drew)); exact HO159.out) hb) (Kd.N_base ho0)) (Kd.R_base ho1)) (Kd.R_base ho2)) (fun _ h_ => h_.1)); have n5_ := Aside0.mk (Kd.R_elder' (by (with_reducible repeat (first | apply Kd.R_alloc | apply Kd.R_drewN | apply Kd.R_drew)); exact HO163.out) (Kd.R_base ho1) hb); have n6_ := Aside0.mk (Kd.R_elder' (by (with_reducible repeat (first | apply Kd.R_alloc | apply Kd.R_drewN | apply Kd.R_drew)); exact HO167.out) (Kd.R_base ho2) hb); have n7_ := Aside0.mk (Kd.N_lower (Kd.N_mono (ok' := fun k_ => some k_ ≠ (v175 : Value).ownBlock ∧ some k_ ≠ (v179 : Value).ownBlock ∧ some k_ ≠ (.slice Ao16 t142.length co16 : Value).ownBlock ∧ some k_ ≠ (.slice Ao17 t146.length co17 : Value).ownBlock ∧ some k_ ≠ (.slice Ao18 t150.length co18 : Value).ownBlock ∧ some k_ ≠ (v154 : Value).ownBlock ∧ some k_ ≠ (.slice Ao21 t157.length co21 : Value).ownBlock ∧ some k_ ≠ (.slice Ao22 t161.length co22 : Value).ownBlock ∧ some k_ ≠ (.slice Ao23 t165.length co23 : Value).ownBlock) ho0 (fun k_ hk_ => ⟨hk_.2.1, hk_.2.2, (Kd.fresh' (Kd.N_lt (by (with_reducible repeat (first | apply Kd.N_alloc | apply Kd.N_drewN | apply Kd.N_drew)); exact HO144.out)) k_ hk_.1), (Kd.fresh' (Kd.R_lt (by (with_reducible repeat (first | apply Kd.R_alloc | apply Kd.R_drewN | apply Kd.R_drew)); exact HO148.out)) k_ hk_.1), (Kd.fresh' (Kd.R_lt (by (with_reducible repeat (first | apply Kd.R_alloc | apply Kd.R_drewN | apply Kd.R_drew)); exact HO152.out)) k_ hk_.1), (Kd.fresh' (Kd.R_lt (by (with_reducible repeat (first | apply Kd.R_alloc | apply Kd.R_drewN | apply Kd.R_drew)); exact HO155.out)) k_ hk_.1), (Kd.fresh' (Kd.N_lt (by (with_reducible repeat (first | apply Kd.N_alloc | apply Kd.N_drewN | apply Kd.N_drew)); exact HO159.out)) k_ hk_.1), (Kd.fresh' (Kd.R_lt (by (with_reducible repeat (first | apply Kd.R_alloc | apply Kd.R_drewN | apply Kd.R_drew)); exact HO163.out)) k_ hk_.1), (Kd.fresh' (Kd.R_lt (by (with_reducible repeat (first | apply Kd.R_alloc | apply Kd.R_drewN | apply Kd.R_drew)); exact HO167.out)) k_ hk_.1)⟩)) (below_size (by repeat (first | (with_reducible first | exact HB.out | apply below_alloc | apply pw_below_drewN | apply below_drew1) | exact HB.out)))); have n8_ := Aside0.mk (Kd.R_lower (Kd.R_new' (Kd.R_new' (Kd.R_mono (ok' := fun k_ => True) ho1 (fun _ hk_ => trivial)) (Kd.R_lt (by (with_reducible repeat (first | apply Kd.R_alloc | apply Kd.R_drewN | apply Kd.R_drew)); exact HO148.out))) (Kd.R_lt (by (with_reducible repeat (first | apply Kd.R_alloc | apply Kd.R_drewN | apply Kd.R_drew)); exact HO163.out))) (below_size (by repeat (first | (with_reducible first | exact HB.out | apply below_alloc | apply pw_below_drewN | apply below_drew1) | exact HB.out)))); have n9_ := Aside0.mk (Kd.R_lower (Kd.R_new' (Kd.R_new' (Kd.R_new' (Kd.R_mono (ok' := fun k_ => True) ho2 (fun _ hk_ => trivial)) (Kd.R_lt (by (with_reducible repeat (first | apply Kd.R_alloc | apply Kd.R_drewN | apply Kd.R_drew)); exact HO152.out))) (Kd.R_lt (by (with_reducible repeat (first | apply Kd.R_alloc | apply Kd.R_drewN | apply Kd.R_drew)); exact HO155.out))) (Kd.R_lt (by (with_reducible repeat (first | apply Kd.R_alloc | apply Kd.R_drewN | apply Kd.R_drew)); exact HO167.out))) (below_size (by repeat (first | (with_reducible first | exact HB.out | apply below_alloc | apply pw_below_drewN | apply below_drew1) | exact HB.out)))); have n10_ := Aside0.mk (below_step (by repeat (first | (with_reducible first | exact HB.out | apply below_alloc | apply pw_below_drewN | apply below_drew1) | exact HB.out)) hb); clear HO144; clear HO148; clear HO152; clear HO155; clear HO159; clear HO163; clear HO167; clear HB; have HO144 := n0_; have HO148 := n1_; have HO152 := n2_; have HO155 := n3_; have HO159 := n4_; have HO163 := n5_; have HO167 := n6_; have HO172 := n7_; have HO176 := n8_; have HO180 := n9_; have HB := n10_; clear n0_ n1_ n2_ n3_ n4_ n5_ n6_ n7_ n8_ n9_ n10_; (try clear hb); (try clear hb2); (try clear hk); (try clear hi); (try clear ho0); (try clear ho1); (try clear ho2); obtain ⟨Ao26, co26, eo26⟩ := Kd.N_slice HO172.out; subst eo26; obtain ⟨Ao27, co27, eo27⟩ := Kd.R_slice HO176.out; subst eo27; obtain ⟨Ao28, co28, eo28⟩ := Kd.R_slice HO180.out; subst eo28) | ((with_reducible refine gate_callee (f := 20) rfl ?_); refine goesL_ (some 21) rfl rfl Try.func20 (by kernel_rfl) rfl #[.agg #[.slice Ao26 t170.length co26, .int .i64 t173, .slice Ao27 t174.length co27, .int .i64 t177, .slice Ao28 t178.length co28]] rfl (by (try simp only [List.map_toArray, List.map_cons, List.map_nil]); first | done | rfl | (simp only [List.length_drop, List.length_take]; rfl)) ?_; (with_reducible refine (strip_Work.calls _ _ t170 t173 _ _ t174 t177 _ _ t178 t181 t184 t185 _ ?side1 ?side2 ?side3 ?side4 ?side5 ?side6 A6.out).mono ?_); (case side1 => repeat (first | exact (Kd.N_reads' HO172.out).2.2 | (with_reducible refine Kd.C_alloc ?_ _) | (with_reducible refine Kd.C_drewN ?_ _) | (with_reducible refine Kd.C_drew ?_))); (case side2 => exact (Kd.N_reads' HO172.out).2.1); (case side3 => repeat (first | exact (Kd.R_reads' HO176.out).2.2 | (with_reducible refine Kd.C_alloc ?_ _) | (with_reducible refine Kd.C_drewN ?_ _) | (with_reducible refine Kd.C_drew ?_))); (case side4 => exact (Kd.R_reads' HO176.out).2.1); (case side5 => repeat (first | exact (Kd.R_reads' HO180.out).2.2 | (with_reducible refine Kd.C_alloc ?_ _) | (with_reducible refine Kd.C_drewN ?_ _) | (with_reducible refine Kd.C_drew ?_))); (case side6 => exact (Kd.R_reads' HO180.out).2.1); rintro e w29 ⟨v182, rfl, ho0, hb⟩; refine ⟨_, rfl, ?_⟩; have n0_ := Aside0.mk (Kd.N_elder' (by (with_reducible repeat (first | apply Kd.N_alloc | apply Kd.N_drewN | apply Kd.N_drew)); exact HO144.out) (Kd.R_base ho0) hb); have n1_ := Aside0.mk (Kd.R_below (by (with_reducible repeat (first | apply Kd.R_alloc | apply Kd.R_drewN | apply Kd.R_drew)); exact HO148.out) hb); have n2_ := Aside0.mk (Kd.R_elder' (by (with_reducible repeat (first | apply Kd.R_alloc | apply Kd.R_drewN | apply Kd.R_drew)); exact HO152.out) (Kd.R_base ho0) hb); have n3_ := Aside0.mk (Kd.R_elder' (by (with_reducible repeat (first | apply Kd.R_alloc | apply Kd.R_drewN | apply Kd.R_drew)); exact HO155.out) (Kd.R_base ho0) hb); have n4_ := Aside0.mk (Kd.N_elder' (by (with_reducible repeat (first | apply Kd.N_alloc | apply Kd.N_drewN | apply Kd.N_drew)); exact HO159.out) (Kd.R_base ho0) hb); have n5_ := Aside0.mk (Kd.R_below (by (with_reducible repeat (first | apply Kd.R_alloc | apply Kd.R_drewN | apply Kd.R_drew)); exact HO163.out) hb); have n6_ := Aside0.mk (Kd.R_elder' (by (with_reducible repeat (first | apply Kd.R_alloc | apply Kd.R_drewN | apply Kd.R_drew)); exact HO167.out) (Kd.R_base ho0) hb); have n7_ := Aside0.mk (Kd.N_elder' (by (with_reducible repeat (first | apply Kd.N_alloc | apply Kd.N_drewN | apply Kd.N_drew)); exact HO172.out) (Kd.R_base ho0) hb); have n8_ := Aside0.mk (Kd.R_below (by (with_reducible repeat (first | apply Kd.R_alloc | apply Kd.R_drewN | apply Kd.R_drew)); exact HO176.out) hb); have n9_ := Aside0.mk (Kd.R_elder' (by (with_reducible repeat (first | apply Kd.R_alloc | apply Kd.R_drewN | apply Kd.R_drew)); exact HO180.out) (Kd.R_base ho0) hb); have n10_ := Aside0.mk (Kd.R_lower (Kd.R_new' (Kd.R_new' (Kd.R_new' (Kd.R_new' ho0 (Kd.R_lt (by (with_reducible repeat (first | apply Kd.R_alloc | apply Kd.R_drewN | apply Kd.R_drew)); exact HO152.out))) (Kd.R_lt (by (with_reducible repeat (first | apply Kd.R_alloc | apply Kd.R_drewN | apply Kd.R_drew)); exact HO155.out))) (Kd.R_lt (by (with_reducible repeat (first | apply Kd.R_alloc | apply Kd.R_drewN | apply Kd.R_drew)); exact HO167.out))) (Kd.R_lt (by (with_reducible repeat (first | apply Kd.R_alloc | apply Kd.R_drewN | apply Kd.R_drew)); exact HO180.out))) (below_size (by repeat (first | (with_reducible first | exact HB.out | apply below_alloc | apply pw_below_drewN | apply below_drew1) | exact HB.out)))); have n11_ := Aside0.mk (below_step (by repeat (first | (with_reducible first | exact HB.out | apply below_alloc | apply pw_below_drewN | apply below_drew1) | exact HB.out)) hb); clear HO144; clear HO148; clear HO152; clear HO155; clear HO159; clear HO163; clear HO167; clear HO172; clear HO176; clear HO180; clear HB; have HO144 := n0_; have HO148 := n1_; have HO152 := n2_; have HO155 := n3_; have HO159 := n4_; have HO163 := n5_; have HO167 := n6_; have HO172 := n7_; have HO176 := n8_; have HO180 := n9_; have HO183 := n10_; have HB := n11_; clear n0_ n1_ n2_ n3_ n4_ n5_ n6_ n7_ n8_ n9_ n10_ n11_; (try clear hb); (try clear hb2); (try clear hk); (try clear hi); (try clear ho0)) | ((with_reducible refine gate_dst (N := 49) rfl ?_); (try (refine gate_guard (by rfl) ?_; dsimp only)); refine Kd.R_lit (Kd.int .i64) _ 3 ?hg (N := 49) ?hd (xs := ([1, 3, 3, 3, 3] : List Int)) (inner := [.int .i64 1, .int .i64 3, .int .i64 3, .int .i64 3, .int .i64 3]) (ok := fun _ => True) (okp := fun _ => True) ?hr ?hp (fun _ hk => hk) trivial (Below.refl _ _) (Nat.le_refl _) (by simp) ?_; (case hd => rfl); (case hg => rfl); (case hr => first | (go_simp; done) | (go_simp; rfl)); (case hp => exact (Reps.one (show Kd.M (Kd.int .i64) _ _ _ 1 [.int .i64 1] from rfl) (Reps.one (show Kd.M (Kd.int .i64) _ _ _ 3 [.int .i64 3] from rfl) (Reps.one (show Kd.M (Kd.int .i64) _ _ _ 3 [.int .i64 3] from rfl) (Reps.one (show Kd.M (Kd.int .i64) _ _ _ 3 [.int .i64 3] from rfl) (Reps.one (show Kd.M (Kd.int .i64) _ _ _ 3 [.int .i64 3] from rfl) (Reps.none _ _))))))); intro v187 w30 ho31 hb hg_ hnew_; clear hg_ hnew_; (first | rw [← Ny186.out] at ho31 | (simp only [Int.reduceToNat] at ho31; rw [← Ny186.out] at ho31)); have n0_ := Aside0.mk (Kd.N_elder' (by (with_reducible repeat (first | apply Kd.N_alloc | apply Kd.N_drewN | apply Kd.N_drew)); exact HO144.out) (Kd.R_base ho31) hb); have n1_ := Aside0.mk (Kd.R_below (by (with_reducible repeat (first | apply Kd.R_alloc | apply Kd.R_drewN | apply Kd.R_drew)); exact HO148.out) hb); have n2_ := Aside0.mk (Kd.R_elder' (by (with_reducible repeat (first | apply Kd.R_alloc | apply Kd.R_drewN | apply Kd.R_drew)); exact HO152.out) (Kd.R_base ho31) hb); have n3_ := Aside0.mk (Kd.R_elder' (by (with_reducible repeat (first | apply Kd.R_alloc | apply Kd.R_drewN | apply Kd.R_drew)); exact HO155.out) (Kd.R_base ho31) hb); have n4_ := Aside0.mk (Kd.N_elder' (by (with_reducible repeat (first | apply Kd.N_alloc | apply Kd.N_drewN | apply Kd.N_drew)); exact HO159.out) (Kd.R_base ho31) hb); have n5_ := Aside0.mk (Kd.R_below (by (with_reducible repeat (first | apply Kd.R_alloc | apply Kd.R_drewN | apply Kd.R_drew)); exact HO163.out) hb); have n6_ := Aside0.mk (Kd.R_elder' (by (with_reducible repeat (first | apply Kd.R_alloc | apply Kd.R_drewN | apply Kd.R_drew)); exact HO167.out) (Kd.R_base ho31) hb); have n7_ := Aside0.mk (Kd.N_elder' (by (with_reducible repeat (first | apply Kd.N_alloc | apply Kd.N_drewN | apply Kd.N_drew)); exact HO172.out) (Kd.R_base ho31) hb); have n8_ := Aside0.mk (Kd.R_below (by (with_reducible repeat (first | apply Kd.R_alloc | apply Kd.R_drewN | apply Kd.R_drew)); exact HO176.out) hb); have n9_ := Aside0.mk (Kd.R_elder' (by (with_reducible repeat (first | apply Kd.R_alloc | apply Kd.R_drewN | apply Kd.R_drew)); exact HO180.out) (Kd.R_base ho31) hb); have n10_ := Aside0.mk (Kd.R_elder' (by (with_reducible repeat (first | apply Kd.R_alloc | apply Kd.R_drewN | apply Kd.R_drew)); exact HO183.out) (Kd.R_base ho31) hb); have n11_ := Aside0.mk (Kd.R_lower (Kd.R_new' (Kd.R_new' (Kd.R_new' (Kd.R_new' (Kd.R_new' ho31 (Kd.R_lt (by (with_reducible repeat (first | apply Kd.R_alloc | apply Kd.R_drewN | apply Kd.R_drew)); exact HO152.out))) (Kd.R_lt (by (with_reducible repeat (first | apply Kd.R_alloc | apply Kd.R_drewN | apply Kd.R_drew)); exact HO155.out))) (Kd.R_lt (by (with_reducible repeat (first | apply Kd.R_alloc | apply Kd.R_drewN | apply Kd.R_drew)); exact HO167.out))) (Kd.R_lt (by (with_reducible repeat (first | apply Kd.R_alloc | apply Kd.R_drewN | apply Kd.R_drew)); exact HO180.out))) (Kd.R_lt (by (with_reducible repeat (first | apply Kd.R_alloc | apply Kd.R_drewN | apply Kd.R_drew)); exact HO183.out))) (below_size (by repeat (first | (with_reducible first | exact HB.out | apply below_alloc | apply pw_below_drewN | apply below_drew1) | exact HB.out)))); have n12_ := Aside0.mk (below_step (by repeat (first | (with_reducible first | exact HB.out | apply below_alloc | apply pw_below_drewN | apply below_drew1) | exact HB.out)) hb); clear HO144; clear HO148; clear HO152; clear HO155; clear HO159; clear HO163; clear HO167; clear HO172; clear HO176; clear HO180; clear HO183; clear HB; have HO144 := n0_; have HO148 := n1_; have HO152 := n2_; have HO155 := n3_; have HO159 := n4_; have HO163 := n5_; have HO167 := n6_; have HO172 := n7_; have HO176 := n8_; have HO180 := n9_; have HO183 := n10_; have HO188 := n11_; have HB := n12_; clear n0_ n1_ n2_ n3_ n4_ n5_ n6_ n7_ n8_ n9_ n10_ n11_ n12_; clear hb ho31; obtain ⟨Ao32, co32, eo32⟩ := Kd.R_slice HO155.out; subst eo32; obtain ⟨Ao33, co33, eo33⟩ := Kd.R_slice HO188.out; subst eo33) | (go_at_call 22; (with_reducible refine (swarfkit_EqualInts.calls k _ _ t153 _ _ y186 true _ ?side1 ?side2 ?side3 ?side4 A12.out).mono ?_); (case side1 => repeat (first | exact (Kd.R_reads' HO155.out).2.2 | (with_reducible refine Kd.C_alloc ?_ _) | (with_reducible refine Kd.C_drewN ?_ _) | (with_reducible refine Kd.C_drew ?_))); (case side2 => exact (Kd.R_reads' HO155.out).2.1); (case side3 => repeat (first | exact (Kd.R_reads' HO188.out).2.2 | (with_reducible refine Kd.C_alloc ?_ _) | (with_reducible refine Kd.C_drewN ?_ _) | (with_reducible refine Kd.C_drew ?_))); (case side4 => exact (Kd.R_reads' HO188.out).2.1); rintro e w' ⟨rfl, ⟨nd, rfl⟩⟩) | ((with_reducible refine gate_dst (N := 54) rfl ?_); (try (refine gate_guard (by rfl) ?_; dsimp only)); refine Kd.R_lit (Kd.int .i64) _ 3 ?hg (N := 54) ?hd (xs := ([1, 2, 3, 4] : List Int)) (inner := [.int .i64 1, .int .i64 2, .int .i64 3, .int .i64 4]) (ok := fun _ => True) (okp := fun _ => True) ?hr ?hp (fun _ hk => hk) trivial (Below.refl _ _) (Nat.le_refl _) (by simp) ?_; (case hd => rfl); (case hg => rfl); (case hr => first | (go_simp; done) | (go_simp; rfl)); (case hp => exact (Reps.one (show Kd.M (Kd.int .i64) _ _ _ 1 [.int .i64 1] from rfl) (Reps.one (show Kd.M (Kd.int .i64) _ _ _ 2 [.int .i64 2] from rfl) (Reps.one (show Kd.M (Kd.int .i64) _ _ _ 3 [.int .i64 3] from rfl) (Reps.one (show Kd.M (Kd.int .i64) _ _ _ 4 [.int .i64 4] from rfl) (Reps.none _ _)))))); intro v191 w34 ho35 hb hg_ hnew_; clear hg_ hnew_; (first | rw [← Ny190.out] at ho35 | (simp only [Int.reduceToNat] at ho35; rw [← Ny190.out] at ho35)); have n0_ := Aside0.mk (Kd.N_elder' (by (with_reducible repeat (first | apply Kd.N_alloc | apply Kd.N_drewN | apply Kd.N_drew)); exact HO144.out) (Kd.R_base ho35) hb); have n1_ := Aside0.mk (Kd.R_below (by (with_reducible repeat (first | apply Kd.R_alloc | apply Kd.R_drewN | apply Kd.R_drew)); exact HO148.out) hb); have n2_ := Aside0.mk (Kd.R_elder' (by (with_reducible repeat (first | apply Kd.R_alloc | apply Kd.R_drewN | apply Kd.R_drew)); exact HO152.out) (Kd.R_base ho35) hb); have n3_ := Aside0.mk (Kd.R_elder' (by (with_reducible repeat (first | apply Kd.R_alloc | apply Kd.R_drewN | apply Kd.R_drew)); exact HO155.out) (Kd.R_base ho35) hb); have n4_ := Aside0.mk (Kd.N_elder' (by (with_reducible repeat (first | apply Kd.N_alloc | apply Kd.N_drewN | apply Kd.N_drew)); exact HO159.out) (Kd.R_base ho35) hb); have n5_ := Aside0.mk (Kd.R_below (by (with_reducible repeat (first | apply Kd.R_alloc | apply Kd.R_drewN | apply Kd.R_drew)); exact HO163.out) hb); have n6_ := Aside0.mk (Kd.R_elder' (by (with_reducible repeat (first | apply Kd.R_alloc | apply Kd.R_drewN | apply Kd.R_drew)); exact HO167.out) (Kd.R_base ho35) hb); have n7_ := Aside0.mk (Kd.N_elder' (by (with_reducible repeat (first | apply Kd.N_alloc | apply Kd.N_drewN | apply Kd.N_drew)); exact HO172.out) (Kd.R_base ho35) hb); have n8_ := Aside0.mk (Kd.R_below (by (with_reducible repeat (first | apply Kd.R_alloc | apply Kd.R_drewN | apply Kd.R_drew)); exact HO176.out) hb); have n9_ := Aside0.mk (Kd.R_elder' (by (with_reducible repeat (first | apply Kd.R_alloc | apply Kd.R_drewN | apply Kd.R_drew)); exact HO180.out) (Kd.R_base ho35) hb); have n10_ := Aside0.mk (Kd.R_elder' (by (with_reducible repeat (first | apply Kd.R_alloc | apply Kd.R_drewN | apply Kd.R_drew)); exact HO183.out) (Kd.R_base ho35) hb); have n11_ := Aside0.mk (Kd.R_elder' (by (with_reducible repeat (first | apply Kd.R_alloc | apply Kd.R_drewN | apply Kd.R_drew)); exact HO188.out) (Kd.R_base ho35) hb); have n12_ := Aside0.mk (Kd.R_lower (Kd.R_new' (Kd.R_new' (Kd.R_new' (Kd.R_new' (Kd.R_new' (Kd.R_new' ho35 (Kd.R_lt (by (with_reducible repeat (first | apply Kd.R_alloc | apply Kd.R_drewN | apply Kd.R_drew)); exact HO152.out))) (Kd.R_lt (by (with_reducible repeat (first | apply Kd.R_alloc | apply Kd.R_drewN | apply Kd.R_drew)); exact HO155.out))) (Kd.R_lt (by (with_reducible repeat (first | apply Kd.R_alloc | apply Kd.R_drewN | apply Kd.R_drew)); exact HO167.out))) (Kd.R_lt (by (with_reducible repeat (first | apply Kd.R_alloc | apply Kd.R_drewN | apply Kd.R_drew)); exact HO180.out))) (Kd.R_lt (by (with_reducible repeat (first | apply Kd.R_alloc | apply Kd.R_drewN | apply Kd.R_drew)); exact HO183.out))) (Kd.R_lt (by (with_reducible repeat (first | apply Kd.R_alloc | apply Kd.R_drewN | apply Kd.R_drew)); exact HO188.out))) (below_size (by repeat (first | (with_reducible first | exact HB.out | apply below_alloc | apply pw_below_drewN | apply below_drew1) | exact HB.out)))); have n13_ := Aside0.mk (below_step (by repeat (first | (with_reducible first | exact HB.out | apply below_alloc | apply pw_below_drewN | apply below_drew1) | exact HB.out)) hb); clear HO144; clear HO148; clear HO152; clear HO155; clear HO159; clear HO163; clear HO167; clear HO172; clear HO176; clear HO180; clear HO183; clear HO188; clear HB; have HO144 := n0_; have HO148 := n1_; have HO152 := n2_; have HO155 := n3_; have HO159 := n4_; have HO163 := n5_; have HO167 := n6_; have HO172 := n7_; have HO176 := n8_; have HO180 := n9_; have HO183 := n10_; have HO188 := n11_; have HO192 := n12_; have HB := n13_; clear n0_ n1_ n2_ n3_ n4_ n5_ n6_ n7_ n8_ n9_ n10_ n11_ n12_ n13_; clear hb ho35; obtain ⟨Ao36, co36, eo36⟩ := Kd.R_slice HO183.out; subst eo36; obtain ⟨Ao37, co37, eo37⟩ := Kd.R_slice HO192.out; subst eo37) | (go_at_call 22; (with_reducible refine (swarfkit_EqualInts.calls k _ _ t181 _ _ y190 t193 _ ?side1 ?side2 ?side3 ?side4 A14.out).mono ?_); (case side1 => repeat (first | exact (Kd.R_reads' HO183.out).2.2 | (with_reducible refine Kd.C_alloc ?_ _) | (with_reducible refine Kd.C_drewN ?_ _) | (with_reducible refine Kd.C_drew ?_))); (case side2 => exact (Kd.R_reads' HO183.out).2.1); (case side3 => repeat (first | exact (Kd.R_reads' HO192.out).2.2 | (with_reducible refine Kd.C_alloc ?_ _) | (with_reducible refine Kd.C_drewN ?_ _) | (with_reducible refine Kd.C_drew ?_))); (case side4 => exact (Kd.R_reads' HO192.out).2.1); rintro e w' ⟨rfl, ⟨nd, rfl⟩⟩))
              go_ret
              exact ⟨by first | rfl | (simp [errW_none, errW_some] <;> rfl) | (simp [*, errW_none, errW_some] <;> rfl), by repeat (first | (with_reducible first | exact HB.out | apply below_alloc | apply pw_below_drewN | apply below_drew1) | exact HB.out)⟩
            · replace c13 := Bool.eq_false_iff.mpr c13
              subst c13
              have H1 : (some false) = some r := by rw [if_neg (show ¬ (false = true) by decide)] at H; exact H
              clear H
              have H := H1
              clear H1
              exact absurd ((Option.some.inj H).trans hrt.out) (by decide)
          · rw [if_neg c11] at H
            have c11b0 : (t184 == 74) = false := beq_eq_false_iff_ne.mpr c11
            have c11b1 : (t184 != 74) = true := bne_iff_ne.mpr c11
            exact absurd ((Option.some.inj H).trans hrt.out) (by decide)
        · rw [if_neg c10] at H
          have c10b0 : (t168 == 2) = false := beq_eq_false_iff_ne.mpr c10
          have c10b1 : (t168 != 2) = true := bne_iff_ne.mpr c10
          exact absurd ((Option.some.inj H).trans hrt.out) (by decide)
      · rw [if_neg c9] at H
        have c9b0 : (t185 == 0) = false := beq_eq_false_iff_ne.mpr c9
        have c9b1 : (t185 != 0) = true := bne_iff_ne.mpr c9
        exact absurd ((Option.some.inj H).trans hrt.out) (by decide)
    · rw [if_neg c8] at H
      have c8b0 : (t169 == 0) = false := beq_eq_false_iff_ne.mpr c8
      have c8b1 : (t169 != 0) = true := bne_iff_ne.mpr c8
      exact absurd ((Option.some.inj H).trans hrt.out) (by decide)
  · rw [if_neg c7] at H
    have c7b0 : (t156 == 0) = false := beq_eq_false_iff_ne.mpr c7
    have c7b1 : (t156 != 0) = true := bne_iff_ne.mpr c7
    exact absurd ((Option.some.inj H).trans hrt.out) (by decide)
end Go.Proofs.Ytkkmfcdikkiodaa.PC4
namespace Go.Proofs.Ytkkmfcdikkiodaa.PC4
open Go.RowKit Go.Proofs.YtkkmfcdikkiodaaW.PrintWords Go.Proofs.YtkkmfcdikkiodaaW.PrintLast Go.Proofs.YtkkmfcdikkiodaaW.PrintMore
attribute [local go_sem] max2_int min2_int max_two min_two max_three min_three max_four min_four
set_option linter.unusedVariables false
set_option linter.unusedSimpArgs false
mutual
def swarflaw04_StripClosed.j0 : Nat → List Int → Int → Bool → List (S50) → Int → List (S61) → Int → List Int → Option (Bool)
  | 0, _, _, _, _, _, _, _, _ => none
  | k + 1, x6, x8, x44, x345000, x345001, x345002, x345003, x345004 => if x44 = true then (some false) else (swarflaw04_StripClosed.l0 k x6 x8 true 0 x345000 x345001 x345002 x345003 x345004)
def swarflaw04_StripClosed.l0 : Nat → List Int → Int → Bool → Int → List (S50) → Int → List (S61) → Int → List Int → Option (Bool)
  | 0, _, _, _, _, _, _, _, _, _ => none
  | k + 1, x6, x8, x10, x11, x345000, x345001, x345002, x345003, x345004 => if x11 < (x6.length : Int) then (if x10 = true then (if 0 ≤ x11 then (if x11 < (x345000.length : Int) then (if ((rd_T50 x345000 x11).f1 = true) then (swarflaw04_StripClosed.j2 k x6 x8 ((rd x6 x11) == 1) x11 x345000 x345001 x345002 x345003 x345004) else (swarflaw04_StripClosed.j2 k x6 x8 true x11 x345000 x345001 x345002 x345003 x345004)) else (none)) else (none)) else (swarflaw04_StripClosed.j2 k x6 x8 false x11 x345000 x345001 x345002 x345003 x345004)) else (if ((x8 == 1) == x10) = true then ((swarflaw04_awake.f k).bind fun t351 => (some t351)) else (some false))
def swarflaw04_StripClosed.j2 : Nat → List Int → Int → Bool → Int → List (S50) → Int → List (S61) → Int → List Int → Option (Bool)
  | 0, _, _, _, _, _, _, _, _, _ => none
  | k + 1, x6, x8, x10, x11, x345000, x345001, x345002, x345003, x345004 => swarflaw04_StripClosed.l1 k x6 x8 x10 x11 0 x345000 x345001 x345002 x345003 x345004
def swarflaw04_StripClosed.l1 : Nat → List Int → Int → Bool → Int → Int → List (S50) → Int → List (S61) → Int → List Int → Option (Bool)
  | 0, _, _, _, _, _, _, _, _, _, _ => none
  | k + 1, x6, x8, x10, x11, x12, x345000, x345001, x345002, x345003, x345004 => if 0 ≤ x11 then (if x11 < (x345000.length : Int) then (if x12 < (((rd_T50 x345000 x11).f0).length : Int) then (if 0 ≤ x12 then (if 0 ≤ (rd ((rd_T50 x345000 x11).f0) x12) then (if (rd ((rd_T50 x345000 x11).f0) x12) < (x6.length : Int) then (if x11 < (x6.length : Int) then (if (rd x6 x11) = 1 then (if (rd x6 (rd ((rd_T50 x345000 x11).f0) x12)) = 1 then (if (rd x6 (rd ((rd_T50 x345000 x11).f0) x12)) = 2 then (if (rd x6 x11) = 2 then (swarflaw04_StripClosed.l1 k x6 x8 x10 x11 (wrap64 (x12 + 1)) x345000 x345001 x345002 x345003 x345004) else (some false)) else (swarflaw04_StripClosed.l1 k x6 x8 x10 x11 (wrap64 (x12 + 1)) x345000 x345001 x345002 x345003 x345004)) else (some false)) else (if (rd x6 (rd ((rd_T50 x345000 x11).f0) x12)) = 2 then (if (rd x6 x11) = 2 then (swarflaw04_StripClosed.l1 k x6 x8 x10 x11 (wrap64 (x12 + 1)) x345000 x345001 x345002 x345003 x345004) else (some false)) else (swarflaw04_StripClosed.l1 k x6 x8 x10 x11 (wrap64 (x12 + 1)) x345000 x345001 x345002 x345003 x345004))) else (none)) else (none)) else (none)) else (none)) else (swarflaw04_StripClosed.l0 k x6 x8 x10 (wrap64 (x11 + 1)) x345000 x345001 x345002 x345003 x345004)) else (none)) else (none)
end
def swarflaw04_StripClosed.f (k : Nat) (l0 : List Int) : Option (Bool) := (swarfkit_FeedOf.f l0).bind fun t327 => ((swarfkit_CarOf.f k t327 9 12).bind fun bt329 => ((strip_Out.f bt329.1 bt329.2.1 bt329.2.2.1 bt329.2.2.2.1 bt329.2.2.2.2.1).bind fun bt345 => ((strip_Clean.f bt329.1 bt329.2.1 bt329.2.2.1 bt329.2.2.2.1 bt329.2.2.2.2.1).bind fun bt349 => (if bt345.2 = 0 then (if bt349.2 = 0 then (swarflaw04_StripClosed.j0 k bt345.1 bt349.1 ((bt345.1.length : Int) != (bt329.1.length : Int)) bt329.1 bt329.2.1 bt329.2.2.1 bt329.2.2.2.1 bt329.2.2.2.2.1) else (swarflaw04_StripClosed.j0 k bt345.1 bt349.1 true bt329.1 bt329.2.1 bt329.2.2.1 bt329.2.2.2.1 bt329.2.2.2.2.1)) else (swarflaw04_StripClosed.j0 k bt345.1 bt349.1 true bt329.1 bt329.2.1 bt329.2.2.1 bt329.2.2.2.1 bt329.2.2.2.2.1)))))
theorem swarflaw04_StripClosed.mono_l : ∀ k, (∀ y0 y1 y2 y3 y4 y5 y6 y7, LeO (swarflaw04_StripClosed.j0 k y0 y1 y2 y3 y4 y5 y6 y7) (swarflaw04_StripClosed.j0 (k + 1) y0 y1 y2 y3 y4 y5 y6 y7)) ∧ (∀ y0 y1 y2 y3 y4 y5 y6 y7 y8, LeO (swarflaw04_StripClosed.l0 k y0 y1 y2 y3 y4 y5 y6 y7 y8) (swarflaw04_StripClosed.l0 (k + 1) y0 y1 y2 y3 y4 y5 y6 y7 y8)) ∧ (∀ y0 y1 y2 y3 y4 y5 y6 y7 y8, LeO (swarflaw04_StripClosed.j2 k y0 y1 y2 y3 y4 y5 y6 y7 y8) (swarflaw04_StripClosed.j2 (k + 1) y0 y1 y2 y3 y4 y5 y6 y7 y8)) ∧ (∀ y0 y1 y2 y3 y4 y5 y6 y7 y8 y9, LeO (swarflaw04_StripClosed.l1 k y0 y1 y2 y3 y4 y5 y6 y7 y8 y9) (swarflaw04_StripClosed.l1 (k + 1) y0 y1 y2 y3 y4 y5 y6 y7 y8 y9))
  | 0 => ⟨fun _ _ _ _ _ _ _ _ r h => by simp [swarflaw04_StripClosed.j0] at h, fun _ _ _ _ _ _ _ _ _ r h => by simp [swarflaw04_StripClosed.l0] at h, fun _ _ _ _ _ _ _ _ _ r h => by simp [swarflaw04_StripClosed.j2] at h, fun _ _ _ _ _ _ _ _ _ _ r h => by simp [swarflaw04_StripClosed.l1] at h⟩
  | k + 1 => by
    obtain ⟨ih0, ih1, ih2, ih3⟩ := swarflaw04_StripClosed.mono_l k
    refine ⟨?_, ?_, ?_, ?_⟩
    · intro y0 y1 y2 y3 y4 y5 y6 y7
      unfold swarflaw04_StripClosed.j0
      repeat' first
      | (with_reducible exact ih0 _ _ _ _ _ _ _ _)
      | (with_reducible exact ih1 _ _ _ _ _ _ _ _ _)
      | (with_reducible exact ih2 _ _ _ _ _ _ _ _ _)
      | (with_reducible exact ih3 _ _ _ _ _ _ _ _ _ _)
      | (with_reducible exact swarfkit_CarOf.mono _ _ _ _)
      | (with_reducible exact swarflaw04_awake.mono _)
      | (with_reducible exact LeO.refl _)
      | (with_reducible exact LeO.none _)
      | (with_reducible refine LeO.ite ?_ ?_)
      | (with_reducible refine LeO.bind ?_ (fun _ => ?_))
      | exact ih0 _ _ _ _ _ _ _ _
      | exact ih1 _ _ _ _ _ _ _ _ _
      | exact ih2 _ _ _ _ _ _ _ _ _
      | exact ih3 _ _ _ _ _ _ _ _ _ _
      | exact swarfkit_CarOf.mono _ _ _ _
      | exact swarflaw04_awake.mono _
      | exact LeO.none _
      | refine LeO.ite ?_ ?_
      | refine LeO.bind ?_ (fun _ => ?_)
    · intro y0 y1 y2 y3 y4 y5 y6 y7 y8
      unfold swarflaw04_StripClosed.l0
      repeat' first
      | (with_reducible exact ih0 _ _ _ _ _ _ _ _)
      | (with_reducible exact ih1 _ _ _ _ _ _ _ _ _)
      | (with_reducible exact ih2 _ _ _ _ _ _ _ _ _)
      | (with_reducible exact ih3 _ _ _ _ _ _ _ _ _ _)
      | (with_reducible exact swarfkit_CarOf.mono _ _ _ _)
      | (with_reducible exact swarflaw04_awake.mono _)
      | (with_reducible exact LeO.refl _)
      | (with_reducible exact LeO.none _)
      | (with_reducible refine LeO.ite ?_ ?_)
      | (with_reducible refine LeO.bind ?_ (fun _ => ?_))
      | exact ih0 _ _ _ _ _ _ _ _
      | exact ih1 _ _ _ _ _ _ _ _ _
      | exact ih2 _ _ _ _ _ _ _ _ _
      | exact ih3 _ _ _ _ _ _ _ _ _ _
      | exact swarfkit_CarOf.mono _ _ _ _
      | exact swarflaw04_awake.mono _
      | exact LeO.none _
      | refine LeO.ite ?_ ?_
      | refine LeO.bind ?_ (fun _ => ?_)
    · intro y0 y1 y2 y3 y4 y5 y6 y7 y8
      unfold swarflaw04_StripClosed.j2
      repeat' first
      | (with_reducible exact ih0 _ _ _ _ _ _ _ _)
      | (with_reducible exact ih1 _ _ _ _ _ _ _ _ _)
      | (with_reducible exact ih2 _ _ _ _ _ _ _ _ _)
      | (with_reducible exact ih3 _ _ _ _ _ _ _ _ _ _)
      | (with_reducible exact swarfkit_CarOf.mono _ _ _ _)
      | (with_reducible exact swarflaw04_awake.mono _)
      | (with_reducible exact LeO.refl _)
      | (with_reducible exact LeO.none _)
      | (with_reducible refine LeO.ite ?_ ?_)
      | (with_reducible refine LeO.bind ?_ (fun _ => ?_))
      | exact ih0 _ _ _ _ _ _ _ _
      | exact ih1 _ _ _ _ _ _ _ _ _
      | exact ih2 _ _ _ _ _ _ _ _ _
      | exact ih3 _ _ _ _ _ _ _ _ _ _
      | exact swarfkit_CarOf.mono _ _ _ _
      | exact swarflaw04_awake.mono _
      | exact LeO.none _
      | refine LeO.ite ?_ ?_
      | refine LeO.bind ?_ (fun _ => ?_)
    · intro y0 y1 y2 y3 y4 y5 y6 y7 y8 y9
      unfold swarflaw04_StripClosed.l1
      repeat' first
      | (with_reducible exact ih0 _ _ _ _ _ _ _ _)
      | (with_reducible exact ih1 _ _ _ _ _ _ _ _ _)
      | (with_reducible exact ih2 _ _ _ _ _ _ _ _ _)
      | (with_reducible exact ih3 _ _ _ _ _ _ _ _ _ _)
      | (with_reducible exact swarfkit_CarOf.mono _ _ _ _)
      | (with_reducible exact swarflaw04_awake.mono _)
      | (with_reducible exact LeO.refl _)
      | (with_reducible exact LeO.none _)
      | (with_reducible refine LeO.ite ?_ ?_)
      | (with_reducible refine LeO.bind ?_ (fun _ => ?_))
      | exact ih0 _ _ _ _ _ _ _ _
      | exact ih1 _ _ _ _ _ _ _ _ _
      | exact ih2 _ _ _ _ _ _ _ _ _
      | exact ih3 _ _ _ _ _ _ _ _ _ _
      | exact swarfkit_CarOf.mono _ _ _ _
      | exact swarflaw04_awake.mono _
      | exact LeO.none _
      | refine LeO.ite ?_ ?_
      | refine LeO.bind ?_ (fun _ => ?_)
theorem swarflaw04_StripClosed.mono : ∀ a0 k, LeO (swarflaw04_StripClosed.f k a0) (swarflaw04_StripClosed.f (k + 1) a0) := by
  intro a0 k
  obtain ⟨ih0, ih1, ih2, ih3⟩ := swarflaw04_StripClosed.mono_l k
  unfold swarflaw04_StripClosed.f
  repeat' first
      | (with_reducible exact ih0 _ _ _ _ _ _ _ _)
      | (with_reducible exact ih1 _ _ _ _ _ _ _ _ _)
      | (with_reducible exact ih2 _ _ _ _ _ _ _ _ _)
      | (with_reducible exact ih3 _ _ _ _ _ _ _ _ _ _)
      | (with_reducible exact swarfkit_CarOf.mono _ _ _ _)
      | (with_reducible exact swarflaw04_awake.mono _)
      | (with_reducible exact LeO.refl _)
      | (with_reducible exact LeO.none _)
      | (with_reducible refine LeO.ite ?_ ?_)
      | (with_reducible refine LeO.bind ?_ (fun _ => ?_))
      | exact ih0 _ _ _ _ _ _ _ _
      | exact ih1 _ _ _ _ _ _ _ _ _
      | exact ih2 _ _ _ _ _ _ _ _ _
      | exact ih3 _ _ _ _ _ _ _ _ _ _
      | exact swarfkit_CarOf.mono _ _ _ _
      | exact swarflaw04_awake.mono _
      | exact LeO.none _
      | refine LeO.ite ?_ ?_
      | refine LeO.bind ?_ (fun _ => ?_)
set_option maxHeartbeats 8000000 in
set_option maxRecDepth 100000 in
theorem swarflaw04_StripClosed.calls (k : Nat) (A0 : Option Addr) (c0 : Nat) (l0 : List Int) (r : Bool) (hrt : Aside0 (r = true)) (w : World) (hr0 : Kd.C (Kd.int .i64) w A0 l0.length l0) (hc0 : l0.length ≤ c0) (h : swarflaw04_StripClosed.f k l0 = some r) :
    Calls Try.prog 5 #[.slice A0 l0.length c0] w fun e w' => e = .returned (.bool r) ∧ Below w.heap.size w w' := by
  have hu26 := Try.underlying26
  have HR0 := Aside0.mk hr0
  have HC0 := Aside0.mk hc0
  clear hr0 hc0
  have HB := Aside0.mk (Below.refl w.heap.size w)
  have H : ((swarfkit_FeedOf.f l0).bind fun t327 => ((swarfkit_CarOf.f k t327 9 12).bind fun bt329 => ((strip_Out.f bt329.1 bt329.2.1 bt329.2.2.1 bt329.2.2.2.1 bt329.2.2.2.2.1).bind fun bt345 => ((strip_Clean.f bt329.1 bt329.2.1 bt329.2.2.1 bt329.2.2.2.1 bt329.2.2.2.2.1).bind fun bt349 => (if bt345.2 = 0 then (if bt349.2 = 0 then (swarflaw04_StripClosed.j0 k bt345.1 bt349.1 ((bt345.1.length : Int) != (bt329.1.length : Int)) bt329.1 bt329.2.1 bt329.2.2.1 bt329.2.2.2.1 bt329.2.2.2.2.1) else (swarflaw04_StripClosed.j0 k bt345.1 bt349.1 true bt329.1 bt329.2.1 bt329.2.2.1 bt329.2.2.2.1 bt329.2.2.2.2.1)) else (swarflaw04_StripClosed.j0 k bt345.1 bt349.1 true bt329.1 bt329.2.1 bt329.2.2.1 bt329.2.2.2.1 bt329.2.2.2.2.1)))))) = some r := h
  clear h
  replace H := Option.bind_eq_some_iff.mp H
  obtain ⟨t327, A20, H⟩ := H
  replace H : ((swarfkit_CarOf.f k t327 9 12).bind fun bt329 => ((strip_Out.f bt329.1 bt329.2.1 bt329.2.2.1 bt329.2.2.2.1 bt329.2.2.2.2.1).bind fun bt345 => ((strip_Clean.f bt329.1 bt329.2.1 bt329.2.2.1 bt329.2.2.2.1 bt329.2.2.2.2.1).bind fun bt349 => (if bt345.2 = 0 then (if bt349.2 = 0 then (swarflaw04_StripClosed.j0 k bt345.1 bt349.1 ((bt345.1.length : Int) != (bt329.1.length : Int)) bt329.1 bt329.2.1 bt329.2.2.1 bt329.2.2.2.1 bt329.2.2.2.2.1) else (swarflaw04_StripClosed.j0 k bt345.1 bt349.1 true bt329.1 bt329.2.1 bt329.2.2.1 bt329.2.2.2.1 bt329.2.2.2.2.1)) else (swarflaw04_StripClosed.j0 k bt345.1 bt349.1 true bt329.1 bt329.2.1 bt329.2.2.1 bt329.2.2.2.1 bt329.2.2.2.2.1))))) = some r := H
  have A2 := Aside0.mk A20
  clear A20
  replace H := Option.bind_eq_some_iff.mp H
  obtain ⟨⟨t329, t332, t333, t336, t337, t340, t343⟩, A30, H⟩ := H
  replace H : ((strip_Out.f t329 t332 t333 t336 t337).bind fun bt345 => ((strip_Clean.f t329 t332 t333 t336 t337).bind fun bt349 => (if bt345.2 = 0 then (if bt349.2 = 0 then (swarflaw04_StripClosed.j0 k bt345.1 bt349.1 ((bt345.1.length : Int) != (t329.length : Int)) t329 t332 t333 t336 t337) else (swarflaw04_StripClosed.j0 k bt345.1 bt349.1 true t329 t332 t333 t336 t337)) else (swarflaw04_StripClosed.j0 k bt345.1 bt349.1 true t329 t332 t333 t336 t337)))) = some r := H
  have A3 := Aside0.mk A30
  clear A30
  replace H := Option.bind_eq_some_iff.mp H
  obtain ⟨⟨t345, t348⟩, A40, H⟩ := H
  replace H : ((strip_Clean.f t329 t332 t333 t336 t337).bind fun bt349 => (if t348 = 0 then (if bt349.2 = 0 then (swarflaw04_StripClosed.j0 k t345 bt349.1 ((t345.length : Int) != (t329.length : Int)) t329 t332 t333 t336 t337) else (swarflaw04_StripClosed.j0 k t345 bt349.1 true t329 t332 t333 t336 t337)) else (swarflaw04_StripClosed.j0 k t345 bt349.1 true t329 t332 t333 t336 t337))) = some r := H
  have A4 := Aside0.mk A40
  clear A40
  replace H := Option.bind_eq_some_iff.mp H
  obtain ⟨⟨t349, t350⟩, A50, H⟩ := H
  replace H : (if t348 = 0 then (if t350 = 0 then (swarflaw04_StripClosed.j0 k t345 t349 ((t345.length : Int) != (t329.length : Int)) t329 t332 t333 t336 t337) else (swarflaw04_StripClosed.j0 k t345 t349 true t329 t332 t333 t336 t337)) else (swarflaw04_StripClosed.j0 k t345 t349 true t329 t332 t333 t336 t337)) = some r := H
  have A5 := Aside0.mk A50
  clear A50
  have HC6 := Aside0.mk H
  clear H
  go_enter Try.func5, Try.ntmps5
  go_upto_region 5 with (first | ((with_reducible refine gate_callee (f := 18) rfl ?_); refine goesL_ (some 15) rfl rfl Try.func18 (by kernel_rfl) rfl #[.slice A0 l0.length c0] rfl (by (try simp only [List.map_toArray, List.map_cons, List.map_nil]); first | done | rfl | (simp only [List.length_drop, List.length_take]; rfl)) ?_; (with_reducible refine (swarfkit_FeedOf.calls _ _ l0 t327 w _ ?side1 ?side2 ?side3 A2.out).mono ?_); (case side1 => repeat (first | (with_reducible first | exact HB.out | apply below_alloc | apply pw_below_drewN | apply below_drew1) | exact HB.out)); (case side2 => exact HR0.out); (case side3 => exact HC0.out); rintro e w7 ⟨g328, rfl, hi, hb, hb2⟩; refine ⟨_, rfl, ?_⟩; have n0_ := Aside0.mk (hb); have n1_ := Aside0.mk (hi); clear HB; have HB := n0_; have HI328 := n1_; clear n0_ n1_; (try clear hb); (try clear hb2); (try clear hk); (try clear hi)) | ((with_reducible refine gate_callee (f := 17) rfl ?_); refine goesL_ (some 18) rfl rfl Try.func17 (by kernel_rfl) rfl #[.pointer (some ⟨g328, 0, none⟩), .int .i64 9, .int .i64 12] rfl (by (try simp only [List.map_toArray, List.map_cons, List.map_nil]); first | done | rfl | (simp only [List.length_drop, List.length_take]; rfl)) ?_; (with_reducible refine (swarfkit_CarOf.calls k g328 t327 9 12 t329 t332 t333 t336 t337 t340 t343 w _ ?side1 ?side2 A3.out).mono ?_); (case side1 => repeat (first | (with_reducible first | exact HI328.out | apply IsS79.alloc | apply IsS79.drewN | apply IsS79.drew | apply IsS79.set_0) | exact HI328.out)); (case side2 => repeat (first | (with_reducible first | exact HB.out | apply below_alloc | apply pw_below_drewN | apply below_drew1 | refine below_set ?_ (IsS79.ge HI328.out)) | exact HB.out)); rintro e w8 ⟨v330, v334, v338, v341, rfl, ho0, ho1, ho2, ho3, hi, hb, hk⟩; refine ⟨_, rfl, ?_⟩; have n0_ := Aside0.mk (Kd.S_lower ho0 (below_size (by repeat (first | (with_reducible first | exact HB.out | apply below_alloc | apply pw_below_drewN | apply below_drew1 | refine below_set ?_ (IsS79.ge HI328.out)) | exact HB.out)))); have n1_ := Aside0.mk (Kd.R_lower ho1 (below_size (by repeat (first | (with_reducible first | exact HB.out | apply below_alloc | apply pw_below_drewN | apply below_drew1 | refine below_set ?_ (IsS79.ge HI328.out)) | exact HB.out)))); have n2_ := Aside0.mk (Kd.R_lower ho2 (below_size (by repeat (first | (with_reducible first | exact HB.out | apply below_alloc | apply pw_below_drewN | apply below_drew1 | refine below_set ?_ (IsS79.ge HI328.out)) | exact HB.out)))); have n3_ := Aside0.mk (Kd.R_lower ho3 (below_size (by repeat (first | (with_reducible first | exact HB.out | apply below_alloc | apply pw_below_drewN | apply below_drew1 | refine below_set ?_ (IsS79.ge HI328.out)) | exact HB.out)))); have n4_ := Aside0.mk (hb); have n5_ := Aside0.mk (hi); clear HB; clear HI328; have HO331 := n0_; have HO335 := n1_; have HO339 := n2_; have HO342 := n3_; have HB := n4_; have HI328 := n5_; clear n0_ n1_ n2_ n3_ n4_ n5_; (try clear hb); (try clear hb2); (try clear hk); (try clear hi); (try clear ho0); (try clear ho1); (try clear ho2); (try clear ho3)) | ((with_reducible refine gate_dst (N := 4) rfl ?_); (try (refine gate_guard (by rfl) ?_; dsimp only)); refine box_event ?hg (N := 4) ?hd (cs := #[.slice none 0 0, .int .i64 0, .slice none 0 0, .int .i64 0, .slice none 0 0]) (t := 26) ?hr ?_; (case hd => rfl); (case hg => rfl); (case hr => first | (go_simp; done) | (go_simp; rfl)); intro gb344 hg w9 hbox hb; have n0_ := Aside0.mk (Kd.S_below (by (with_reducible repeat (first | apply Kd.S_alloc | apply Kd.S_drewN | apply Kd.S_drew)); exact HO331.out) hb); have n1_ := Aside0.mk (Kd.R_below (by (with_reducible repeat (first | apply Kd.R_alloc | apply Kd.R_drewN | apply Kd.R_drew)); exact HO335.out) hb); have n2_ := Aside0.mk (Kd.R_below (by (with_reducible repeat (first | apply Kd.R_alloc | apply Kd.R_drewN | apply Kd.R_drew)); exact HO339.out) hb); have n3_ := Aside0.mk (Kd.R_below (by (with_reducible repeat (first | apply Kd.R_alloc | apply Kd.R_drewN | apply Kd.R_drew)); exact HO342.out) hb); have n4_ := Aside0.mk (IsS79.below (by repeat (first | (with_reducible first | exact HI328.out | apply IsS79.alloc | apply IsS79.drewN | apply IsS79.drew | apply IsS79.set_0) | exact HI328.out)) hb); have n5_ := Aside0.mk (below_step (by repeat (first | (with_reducible first | exact HB.out | apply below_alloc | apply pw_below_drewN | apply below_drew1 | refine below_set ?_ (IsS79.ge HI328.out)) | exact HB.out)) hb); have n6_ := Aside0.mk (hbox); have n7_ := Aside0.mk ((by rw [hg]; exact (below_size (by repeat (first | (with_reducible first | exact HB.out | apply below_alloc | apply pw_below_drewN | apply below_drew1 | refine below_set ?_ (IsS79.ge HI328.out)) | exact HB.out))) : w.heap.size ≤ gb344)); have n8_ := Aside0.mk ((by rw [hg]; exact (below_size (by repeat (first | (with_reducible first | exact HB.out | apply below_alloc | apply pw_below_drewN | apply below_drew1 | refine below_set ?_ (IsS79.ge HI328.out)) | exact HB.out))) : w.heap.size ≤ gb344)); have n9_ := Aside0.mk ((by rw [hg]; exact Nat.ne_of_lt (IsS79.lt (show IsS79 w _ g328 t343 from by repeat (first | (with_reducible first | exact HI328.out | apply IsS79.alloc | apply IsS79.drewN | apply IsS79.drew | apply IsS79.set_0) | exact HI328.out))) : g328 ≠ gb344)); have n10_ := Aside0.mk ((by rw [hg]; exact Nat.ne_of_gt (IsS79.lt (show IsS79 w _ g328 t343 from by repeat (first | (with_reducible first | exact HI328.out | apply IsS79.alloc | apply IsS79.drewN | apply IsS79.drew | apply IsS79.set_0) | exact HI328.out))) : gb344 ≠ g328)); clear HO331; clear HO335; clear HO339; clear HO342; clear HI328; clear HB; have HO331 := n0_; have HO335 := n1_; have HO339 := n2_; have HO342 := n3_; have HI328 := n4_; have HB := n5_; have BK344 := n6_; have GW344 := n7_; have GE344 := n8_; have NB328_344 := n9_; have NB344_328 := n10_; clear n0_ n1_ n2_ n3_ n4_ n5_ n6_ n7_ n8_ n9_ n10_; clear hb hbox hg; obtain ⟨Ao10, co10, eo10⟩ := Kd.S_slice HO331.out; subst eo10; have hnb11 := NB344_328.out; have hnc11 := NB328_344.out; have hcz12_0 : w9.cell? ⟨gb344, 0, none⟩ = some (.slice none 0 0) := (blk_cell BK344.out 0).trans rfl; have hcz12_1 : w9.cell? ⟨gb344, 1, none⟩ = some (.int .i64 0) := (blk_cell BK344.out 1).trans rfl; have hcz12_2 : w9.cell? ⟨gb344, 2, none⟩ = some (.slice none 0 0) := (blk_cell BK344.out 2).trans rfl; have hcz12_3 : w9.cell? ⟨gb344, 3, none⟩ = some (.int .i64 0) := (blk_cell BK344.out 3).trans rfl; have hcz12_4 : w9.cell? ⟨gb344, 4, none⟩ = some (.slice none 0 0) := (blk_cell BK344.out 4).trans rfl; have hfz12_0 := blk_frozen BK344.out 0; have hfz12_1 := blk_frozen BK344.out 1; have hfz12_2 := blk_frozen BK344.out 2; have hfz12_3 := blk_frozen BK344.out 3; have hfz12_4 := blk_frozen BK344.out 4; obtain ⟨Ao13, co13, eo13⟩ := Kd.R_slice HO335.out; subst eo13; obtain ⟨Ao14, co14, eo14⟩ := Kd.R_slice HO339.out; subst eo14) | ((with_reducible refine gate_callee (f := 26) rfl ?_); refine goesL_ (some 23) rfl rfl Try.func26 (by kernel_rfl) rfl #[.agg #[.slice Ao10 t329.length co10, .int .i64 t332, .slice Ao13 t333.length co13, .int .i64 t336, .slice Ao14 t337.length co14]] rfl (by (try simp only [List.map_toArray, List.map_cons, List.map_nil]); first | done | rfl | (simp only [List.length_drop, List.length_take]; rfl)) ?_; (with_reducible refine (strip_Out.calls _ _ t329 t332 _ _ t333 t336 _ _ t337 t345 t348 _ ?side1 ?side2 ?side3 ?side4 ?side5 ?side6 A4.out).mono ?_); (case side1 => refine (Kd.S_reads' (e := 50) (base := w.heap.size) (ok := fun k_ => some k_ ≠ (.slice Ao14 t337.length co14 : Value).ownBlock) (n := t329.length) (c := co10) ?_).2.2; exact (by (with_reducible repeat (first | apply Kd.S_alloc | apply Kd.S_drewN | apply Kd.S_drew)); exact (Kd.S_mono (Kd.S_far (p := ⟨gb344, 4, none⟩) (Kd.S_far (p := ⟨gb344, 3, none⟩) (Kd.S_far (p := ⟨gb344, 2, none⟩) (Kd.S_far (p := ⟨gb344, 1, none⟩) (Kd.S_far (p := ⟨gb344, 0, none⟩) (Kd.S_types HO331.out BK344.out (by decide)) (fun _ hk => hk.2) (.slice Ao10 t329.length co10)) (fun _ hk => hk.2) (.int .i64 t332)) (fun _ hk => hk.2) (.slice Ao13 t333.length co13)) (fun _ hk => hk.2) (.int .i64 t336)) (fun _ hk => hk.2) (.slice Ao14 t337.length co14)) (fun _ h_ => h_.1)))); (case side2 => exact (Kd.S_reads' HO331.out).2.1); (case side3 => refine (Kd.R_reads' (e := 61) (base := w.heap.size) (ok := fun k_ => True) (n := t333.length) (c := co13) ?_).2.2; exact (by (with_reducible repeat (first | apply Kd.R_alloc | apply Kd.R_drewN | apply Kd.R_drew)); exact (Kd.R_mono (Kd.R_far (p := ⟨gb344, 4, none⟩) (Kd.R_far (p := ⟨gb344, 3, none⟩) (Kd.R_far (p := ⟨gb344, 2, none⟩) (Kd.R_far (p := ⟨gb344, 1, none⟩) (Kd.R_far (p := ⟨gb344, 0, none⟩) (Kd.R_types HO335.out BK344.out (by decide)) (fun _ hk => hk.2) (.slice Ao10 t329.length co10)) (fun _ hk => hk.2) (.int .i64 t332)) (fun _ hk => hk.2) (.slice Ao13 t333.length co13)) (fun _ hk => hk.2) (.int .i64 t336)) (fun _ hk => hk.2) (.slice Ao14 t337.length co14)) (fun _ h_ => h_.1)))); (case side4 => exact (Kd.R_reads' HO335.out).2.1); (case side5 => refine (Kd.R_reads' (e := 3) (base := w.heap.size) (ok := fun k_ => True) (n := t337.length) (c := co14) ?_).2.2; exact (by (with_reducible repeat (first | apply Kd.R_alloc | apply Kd.R_drewN | apply Kd.R_drew)); exact (Kd.R_mono (Kd.R_far (p := ⟨gb344, 4, none⟩) (Kd.R_far (p := ⟨gb344, 3, none⟩) (Kd.R_far (p := ⟨gb344, 2, none⟩) (Kd.R_far (p := ⟨gb344, 1, none⟩) (Kd.R_far (p := ⟨gb344, 0, none⟩) (Kd.R_types HO339.out BK344.out (by decide)) (fun _ hk => hk.2) (.slice Ao10 t329.length co10)) (fun _ hk => hk.2) (.int .i64 t332)) (fun _ hk => hk.2) (.slice Ao13 t333.length co13)) (fun _ hk => hk.2) (.int .i64 t336)) (fun _ hk => hk.2) (.slice Ao14 t337.length co14)) (fun _ h_ => h_.1)))); (case side6 => exact (Kd.R_reads' HO339.out).2.1); rintro e w15 ⟨v346, rfl, ho0, hb⟩; refine ⟨_, rfl, ?_⟩; have n0_ := Aside0.mk (Kd.S_elder' (by (with_reducible repeat (first | apply Kd.S_alloc | apply Kd.S_drewN | apply Kd.S_drew)); exact (Kd.S_mono (Kd.S_far (p := ⟨gb344, 4, none⟩) (Kd.S_far (p := ⟨gb344, 3, none⟩) (Kd.S_far (p := ⟨gb344, 2, none⟩) (Kd.S_far (p := ⟨gb344, 1, none⟩) (Kd.S_far (p := ⟨gb344, 0, none⟩) (Kd.S_types HO331.out BK344.out (by decide)) (fun _ hk => hk.2) (.slice Ao10 t329.length co10)) (fun _ hk => hk.2) (.int .i64 t332)) (fun _ hk => hk.2) (.slice Ao13 t333.length co13)) (fun _ hk => hk.2) (.int .i64 t336)) (fun _ hk => hk.2) (.slice Ao14 t337.length co14)) (fun _ h_ => h_.1))) (Kd.R_base ho0) hb); have n1_ := Aside0.mk (Kd.R_below (by (with_reducible repeat (first | apply Kd.R_alloc | apply Kd.R_drewN | apply Kd.R_drew)); exact (Kd.R_mono (Kd.R_far (p := ⟨gb344, 4, none⟩) (Kd.R_far (p := ⟨gb344, 3, none⟩) (Kd.R_far (p := ⟨gb344, 2, none⟩) (Kd.R_far (p := ⟨gb344, 1, none⟩) (Kd.R_far (p := ⟨gb344, 0, none⟩) (Kd.R_types HO335.out BK344.out (by decide)) (fun _ hk => hk.2) (.slice Ao10 t329.length co10)) (fun _ hk => hk.2) (.int .i64 t332)) (fun _ hk => hk.2) (.slice Ao13 t333.length co13)) (fun _ hk => hk.2) (.int .i64 t336)) (fun _ hk => hk.2) (.slice Ao14 t337.length co14)) (fun _ h_ => h_.1))) hb); have n2_ := Aside0.mk (Kd.R_elder' (by (with_reducible repeat (first | apply Kd.R_alloc | apply Kd.R_drewN | apply Kd.R_drew)); exact (Kd.R_mono (Kd.R_far (p := ⟨gb344, 4, none⟩) (Kd.R_far (p := ⟨gb344, 3, none⟩) (Kd.R_far (p := ⟨gb344, 2, none⟩) (Kd.R_far (p := ⟨gb344, 1, none⟩) (Kd.R_far (p := ⟨gb344, 0, none⟩) (Kd.R_types HO339.out BK344.out (by decide)) (fun _ hk => hk.2) (.slice Ao10 t329.length co10)) (fun _ hk => hk.2) (.int .i64 t332)) (fun _ hk => hk.2) (.slice Ao13 t333.length co13)) (fun _ hk => hk.2) (.int .i64 t336)) (fun _ hk => hk.2) (.slice Ao14 t337.length co14)) (fun _ h_ => h_.1))) (Kd.R_base ho0) hb); have n3_ := Aside0.mk (Kd.R_below (by (with_reducible repeat (first | apply Kd.R_alloc | apply Kd.R_drewN | apply Kd.R_drew)); exact (Kd.R_mono (Kd.R_far (p := ⟨gb344, 4, none⟩) (Kd.R_far (p := ⟨gb344, 3, none⟩) (Kd.R_far (p := ⟨gb344, 2, none⟩) (Kd.R_far (p := ⟨gb344, 1, none⟩) (Kd.R_far (p := ⟨gb344, 0, none⟩) (Kd.R_types HO342.out BK344.out (by decide)) (fun _ hk => hk.2) (.slice Ao10 t329.length co10)) (fun _ hk => hk.2) (.int .i64 t332)) (fun _ hk => hk.2) (.slice Ao13 t333.length co13)) (fun _ hk => hk.2) (.int .i64 t336)) (fun _ hk => hk.2) (.slice Ao14 t337.length co14)) (fun _ h_ => h_.1))) hb); have n4_ := Aside0.mk (Kd.R_lower (Kd.R_new' ho0 (Kd.R_lt (by (with_reducible repeat (first | apply Kd.R_alloc | apply Kd.R_drewN | apply Kd.R_drew)); exact (Kd.R_mono (Kd.R_far (p := ⟨gb344, 4, none⟩) (Kd.R_far (p := ⟨gb344, 3, none⟩) (Kd.R_far (p := ⟨gb344, 2, none⟩) (Kd.R_far (p := ⟨gb344, 1, none⟩) (Kd.R_far (p := ⟨gb344, 0, none⟩) (Kd.R_types HO339.out BK344.out (by decide)) (fun _ hk => hk.2) (.slice Ao10 t329.length co10)) (fun _ hk => hk.2) (.int .i64 t332)) (fun _ hk => hk.2) (.slice Ao13 t333.length co13)) (fun _ hk => hk.2) (.int .i64 t336)) (fun _ hk => hk.2) (.slice Ao14 t337.length co14)) (fun _ h_ => h_.1))))) (below_size (by repeat (first | (with_reducible first | exact HB.out | apply below_alloc | apply pw_below_drewN | apply below_drew1 | refine below_set ?_ (IsS79.ge HI328.out) | refine below_set ?_ GE344.out) | exact HB.out)))); have n5_ := Aside0.mk (IsS79.below (show IsS79 w (((((w9.setCell ⟨gb344, 0, none⟩ (.slice Ao10 t329.length co10)).setCell ⟨gb344, 1, none⟩ (.int .i64 t332)).setCell ⟨gb344, 2, none⟩ (.slice Ao13 t333.length co13)).setCell ⟨gb344, 3, none⟩ (.int .i64 t336)).setCell ⟨gb344, 4, none⟩ (.slice Ao14 t337.length co14)) g328 t343 from by repeat (first | (with_reducible first | exact HI328.out | apply IsS79.alloc | apply IsS79.drewN | apply IsS79.drew | apply IsS79.set_0 | refine IsS79.far ?_ NB328_344.out _) | exact HI328.out)) hb); have n6_ := Aside0.mk (blk_below (g := gb344) (o := .cells #[.slice Ao10 t329.length co10, .int .i64 t332, .slice Ao13 t333.length co13, .int .i64 t336, .slice Ao14 t337.length co14] 26 (0, 0)) (by (with_reducible repeat (first | refine blk_drewN ?_ _ | refine blk_drew ?_ | refine blk_alloc ?_ _)); refine blk_put (cs := #[.slice Ao10 t329.length co10, .int .i64 t332, .slice Ao13 t333.length co13, .int .i64 t336, .slice none 0 0]) ?_ 4 _ rfl; (with_reducible repeat (first | refine blk_drewN ?_ _ | refine blk_drew ?_ | refine blk_alloc ?_ _)); refine blk_put (cs := #[.slice Ao10 t329.length co10, .int .i64 t332, .slice Ao13 t333.length co13, .int .i64 0, .slice none 0 0]) ?_ 3 _ rfl; (with_reducible repeat (first | refine blk_drewN ?_ _ | refine blk_drew ?_ | refine blk_alloc ?_ _)); refine blk_put (cs := #[.slice Ao10 t329.length co10, .int .i64 t332, .slice none 0 0, .int .i64 0, .slice none 0 0]) ?_ 2 _ rfl; (with_reducible repeat (first | refine blk_drewN ?_ _ | refine blk_drew ?_ | refine blk_alloc ?_ _)); refine blk_put (cs := #[.slice Ao10 t329.length co10, .int .i64 0, .slice none 0 0, .int .i64 0, .slice none 0 0]) ?_ 1 _ rfl; (with_reducible repeat (first | refine blk_drewN ?_ _ | refine blk_drew ?_ | refine blk_alloc ?_ _)); refine blk_put (cs := #[.slice none 0 0, .int .i64 0, .slice none 0 0, .int .i64 0, .slice none 0 0]) ?_ 0 _ rfl; (with_reducible repeat (first | refine blk_drewN ?_ _ | refine blk_drew ?_ | refine blk_alloc ?_ _)); exact BK344.out) hb); have n7_ := Aside0.mk (below_step (by repeat (first | (with_reducible first | exact HB.out | apply below_alloc | apply pw_below_drewN | apply below_drew1 | refine below_set ?_ (IsS79.ge HI328.out) | refine below_set ?_ GE344.out) | exact HB.out)) hb); clear HO331; clear HO335; clear HO339; clear HO342; clear HI328; clear BK344; clear HB; have HO331 := n0_; have HO335 := n1_; have HO339 := n2_; have HO342 := n3_; have HO347 := n4_; have HI328 := n5_; have BK344 := n6_; have HB := n7_; clear n0_ n1_ n2_ n3_ n4_ n5_ n6_ n7_; (try clear hb); (try clear hb2); (try clear hk); (try clear hi); (try clear ho0); have hcz16_0 : w15.cell? ⟨gb344, 0, none⟩ = some (.slice Ao10 t329.length co10) := (blk_cell BK344.out 0).trans rfl; have hcz16_1 : w15.cell? ⟨gb344, 1, none⟩ = some (.int .i64 t332) := (blk_cell BK344.out 1).trans rfl; have hcz16_2 : w15.cell? ⟨gb344, 2, none⟩ = some (.slice Ao13 t333.length co13) := (blk_cell BK344.out 2).trans rfl; have hcz16_3 : w15.cell? ⟨gb344, 3, none⟩ = some (.int .i64 t336) := (blk_cell BK344.out 3).trans rfl; have hcz16_4 : w15.cell? ⟨gb344, 4, none⟩ = some (.slice Ao14 t337.length co14) := (blk_cell BK344.out 4).trans rfl; have hfz16_0 := blk_frozen BK344.out 0; have hfz16_1 := blk_frozen BK344.out 1; have hfz16_2 := blk_frozen BK344.out 2; have hfz16_3 := blk_frozen BK344.out 3; have hfz16_4 := blk_frozen BK344.out 4) | ((with_reducible refine gate_callee (f := 27) rfl ?_); refine goesL_ (some 28) rfl rfl Try.func27 (by kernel_rfl) rfl #[.agg #[.slice Ao10 t329.length co10, .int .i64 t332, .slice Ao13 t333.length co13, .int .i64 t336, .slice Ao14 t337.length co14]] rfl (by (try simp only [List.map_toArray, List.map_cons, List.map_nil]); first | done | rfl | (simp only [List.length_drop, List.length_take]; rfl)) ?_; (with_reducible refine (strip_Clean.calls _ _ t329 t332 _ _ t333 t336 _ _ t337 t349 t350 _ ?side1 ?side2 ?side3 ?side4 ?side5 ?side6 A5.out).mono ?_); (case side1 => repeat (first | exact (Kd.S_reads' HO331.out).2.2 | (with_reducible refine Kd.C_alloc ?_ _) | (with_reducible refine Kd.C_drewN ?_ _) | (with_reducible refine Kd.C_drew ?_))); (case side2 => exact (Kd.S_reads' HO331.out).2.1); (case side3 => repeat (first | exact (Kd.R_reads' HO335.out).2.2 | (with_reducible refine Kd.C_alloc ?_ _) | (with_reducible refine Kd.C_drewN ?_ _) | (with_reducible refine Kd.C_drew ?_))); (case side4 => exact (Kd.R_reads' HO335.out).2.1); (case side5 => repeat (first | exact (Kd.R_reads' HO339.out).2.2 | (with_reducible refine Kd.C_alloc ?_ _) | (with_reducible refine Kd.C_drewN ?_ _) | (with_reducible refine Kd.C_drew ?_))); (case side6 => exact (Kd.R_reads' HO339.out).2.1); rintro e w17 ⟨rfl, hb⟩; refine ⟨_, rfl, ?_⟩; have n0_ := Aside0.mk (Kd.S_below (by (with_reducible repeat (first | apply Kd.S_alloc | apply Kd.S_drewN | apply Kd.S_drew)); exact HO331.out) hb); have n1_ := Aside0.mk (Kd.R_below (by (with_reducible repeat (first | apply Kd.R_alloc | apply Kd.R_drewN | apply Kd.R_drew)); exact HO335.out) hb); have n2_ := Aside0.mk (Kd.R_below (by (with_reducible repeat (first | apply Kd.R_alloc | apply Kd.R_drewN | apply Kd.R_drew)); exact HO339.out) hb); have n3_ := Aside0.mk (Kd.R_below (by (with_reducible repeat (first | apply Kd.R_alloc | apply Kd.R_drewN | apply Kd.R_drew)); exact HO342.out) hb); have n4_ := Aside0.mk (Kd.R_below (by (with_reducible repeat (first | apply Kd.R_alloc | apply Kd.R_drewN | apply Kd.R_drew)); exact HO347.out) hb); have n5_ := Aside0.mk (IsS79.below (by repeat (first | (with_reducible first | exact HI328.out | apply IsS79.alloc | apply IsS79.drewN | apply IsS79.drew | apply IsS79.set_0 | refine IsS79.far ?_ NB328_344.out _) | exact HI328.out)) hb); have n6_ := Aside0.mk (blk_below (g := gb344) (o := .cells #[.slice Ao10 t329.length co10, .int .i64 t332, .slice Ao13 t333.length co13, .int .i64 t336, .slice Ao14 t337.length co14] 26 (0, 0)) (by (with_reducible repeat (first | refine blk_drewN ?_ _ | refine blk_drew ?_ | refine blk_alloc ?_ _)); exact BK344.out) hb); have n7_ := Aside0.mk (below_step (by repeat (first | (with_reducible first | exact HB.out | apply below_alloc | apply pw_below_drewN | apply below_drew1 | refine below_set ?_ (IsS79.ge HI328.out) | refine below_set ?_ GE344.out) | exact HB.out)) hb); clear HO331; clear HO335; clear HO339; clear HO342; clear HO347; clear HI328; clear BK344; clear HB; have HO331 := n0_; have HO335 := n1_; have HO339 := n2_; have HO342 := n3_; have HO347 := n4_; have HI328 := n5_; have BK344 := n6_; have HB := n7_; clear n0_ n1_ n2_ n3_ n4_ n5_ n6_ n7_; (try clear hb); (try clear hb2); (try clear hk); (try clear hi)))
  (try simp only [Act.put, List.setIfInBounds_toArray, List.set_cons_zero, List.set_cons_succ])
  go_cut [44] (fun v44 wc => ∃ (kq : Nat) (x44_5 : Bool), v44 = .bool x44_5 ∧ Aside0 (swarflaw04_StripClosed.j0 kq t345 t349 x44_5 t329 t332 t333 t336 t337 = some r) ∧ Aside0 (kq ≤ k) ∧ Aside0 (Kd.R (Kd.int .i64) 3 wc w.heap.size (fun k_ => some k_ ≠ ((.slice Ao14 t337.length co14) : Value).ownBlock) v346 t345) ∧ Aside0 (Kd.S k50 50 wc w.heap.size (fun k_ => some k_ ≠ (v346 : Value).ownBlock ∧ some k_ ≠ ((.slice Ao14 t337.length co14) : Value).ownBlock) (.slice Ao10 t329.length co10) t329) ∧ Aside0 (Kd.R k61 61 wc w.heap.size (fun _ => True) (.slice Ao13 t333.length co13) t333) ∧ Aside0 (Kd.R (Kd.int .i64) 3 wc w.heap.size (fun k_ => some k_ ≠ (v346 : Value).ownBlock) (.slice Ao14 t337.length co14) t337) ∧ Aside0 (wc.heap[gb344]? = some (.cells #[(.slice Ao10 t329.length co10), .int .i64 t332, (.slice Ao13 t333.length co13), .int .i64 t336, (.slice Ao14 t337.length co14)] 26 (0, 0))) ∧ Aside0 (Below w.heap.size w wc))
  case first =>
    have H := HC6.out
    clear HC6
    by_cases c18 : t348 = 0
    · rw [if_pos c18] at H
      have c18b0 : (t348 == 0) = true := beq_iff_eq.mpr c18
      have c18b1 : (t348 != 0) = false := bne_eq_false_iff_eq.mpr c18
      clear c18
      (first | rw [c18b0] | (simp only [i64_w, i32_w]; rw [c18b0]) | skip)
      by_cases c19 : t350 = 0
      · rw [if_pos c19] at H
        have c19b0 : (t350 == 0) = true := beq_iff_eq.mpr c19
        have c19b1 : (t350 != 0) = false := bne_eq_false_iff_eq.mpr c19
        clear c19
        have H' := Aside0.mk H
        clear H
        obtain ⟨Ao20, co20, eo20⟩ := Kd.R_slice HO347.out
        subst eo20
        have hnb21 := NB344_328.out
        have hnc21 := NB328_344.out
        have hcz22_0 : w17.cell? ⟨gb344, 0, none⟩ = some (.slice Ao10 t329.length co10) := (blk_cell BK344.out 0).trans rfl
        have hcz22_1 : w17.cell? ⟨gb344, 1, none⟩ = some (.int .i64 t332) := (blk_cell BK344.out 1).trans rfl
        have hcz22_2 : w17.cell? ⟨gb344, 2, none⟩ = some (.slice Ao13 t333.length co13) := (blk_cell BK344.out 2).trans rfl
        have hcz22_3 : w17.cell? ⟨gb344, 3, none⟩ = some (.int .i64 t336) := (blk_cell BK344.out 3).trans rfl
        have hcz22_4 : w17.cell? ⟨gb344, 4, none⟩ = some (.slice Ao14 t337.length co14) := (blk_cell BK344.out 4).trans rfl
        have hfz22_0 := blk_frozen BK344.out 0
        have hfz22_1 := blk_frozen BK344.out 1
        have hfz22_2 := blk_frozen BK344.out 2
        have hfz22_3 := blk_frozen BK344.out 3
        have hfz22_4 := blk_frozen BK344.out 4
        go_wp2
        go_meet
        case rel => exact ⟨_, (((t345.length : Int) != (t329.length : Int))), (by first | rfl | (simp; done) | (simp [*]; done)), H', ⟨by first | omega | exact Nat.le_refl _⟩, ⟨by (with_reducible repeat (first | apply Kd.R_alloc | apply Kd.R_drewN | apply Kd.R_drew)); exact Kd.R_mono HO347.out (fun _ hk => hk.2)⟩, ⟨by (with_reducible repeat (first | apply Kd.S_alloc | apply Kd.S_drewN | apply Kd.S_drew)); exact Kd.S_mono HO331.out (fun _ hk => ⟨hk.2, hk.1⟩)⟩, ⟨by (with_reducible repeat (first | apply Kd.R_alloc | apply Kd.R_drewN | apply Kd.R_drew)); exact HO335.out⟩, ⟨by (with_reducible repeat (first | apply Kd.R_alloc | apply Kd.R_drewN | apply Kd.R_drew)); exact Kd.R_mono HO339.out (fun _ hk => hk.2)⟩, ⟨by (with_reducible repeat (first | refine blk_drewN ?_ _ | refine blk_drew ?_ | refine blk_alloc ?_ _)); exact BK344.out⟩, ⟨by repeat (first | (with_reducible first | exact HB.out | apply below_alloc | apply pw_below_drewN | apply below_drew1 | refine below_set ?_ (IsS79.ge HI328.out) | refine below_set ?_ GE344.out) | exact HB.out)⟩⟩
      · rw [if_neg c19] at H
        have c19b0 : (t350 == 0) = false := beq_eq_false_iff_ne.mpr c19
        have c19b1 : (t350 != 0) = true := bne_iff_ne.mpr c19
        have H' := Aside0.mk H
        clear H
        go_wp2
        go_meet
        case rel => exact ⟨_, (true), (by first | rfl | (simp; done) | (simp [*]; done)), H', ⟨by first | omega | exact Nat.le_refl _⟩, ⟨by (with_reducible repeat (first | apply Kd.R_alloc | apply Kd.R_drewN | apply Kd.R_drew)); exact Kd.R_mono HO347.out (fun _ hk => hk.2)⟩, ⟨by (with_reducible repeat (first | apply Kd.S_alloc | apply Kd.S_drewN | apply Kd.S_drew)); exact Kd.S_mono HO331.out (fun _ hk => ⟨hk.2, hk.1⟩)⟩, ⟨by (with_reducible repeat (first | apply Kd.R_alloc | apply Kd.R_drewN | apply Kd.R_drew)); exact HO335.out⟩, ⟨by (with_reducible repeat (first | apply Kd.R_alloc | apply Kd.R_drewN | apply Kd.R_drew)); exact Kd.R_mono HO339.out (fun _ hk => hk.2)⟩, ⟨by (with_reducible repeat (first | refine blk_drewN ?_ _ | refine blk_drew ?_ | refine blk_alloc ?_ _)); exact BK344.out⟩, ⟨by repeat (first | (with_reducible first | exact HB.out | apply below_alloc | apply pw_below_drewN | apply below_drew1 | refine below_set ?_ (IsS79.ge HI328.out) | refine below_set ?_ GE344.out) | exact HB.out)⟩⟩
    · rw [if_neg c18] at H
      have c18b0 : (t348 == 0) = false := beq_eq_false_iff_ne.mpr c18
      have c18b1 : (t348 != 0) = true := bne_iff_ne.mpr c18
      (first | rw [c18b0] | (simp only [i64_w, i32_w]; rw [c18b0]) | skip)
      have H' := Aside0.mk H
      clear H
      go_wp2
      go_meet
      case rel => exact ⟨_, (true), (by first | rfl | (simp; done) | (simp [*]; done)), H', ⟨by first | omega | exact Nat.le_refl _⟩, ⟨by (with_reducible repeat (first | apply Kd.R_alloc | apply Kd.R_drewN | apply Kd.R_drew)); exact Kd.R_mono HO347.out (fun _ hk => hk.2)⟩, ⟨by (with_reducible repeat (first | apply Kd.S_alloc | apply Kd.S_drewN | apply Kd.S_drew)); exact Kd.S_mono HO331.out (fun _ hk => ⟨hk.2, hk.1⟩)⟩, ⟨by (with_reducible repeat (first | apply Kd.R_alloc | apply Kd.R_drewN | apply Kd.R_drew)); exact HO335.out⟩, ⟨by (with_reducible repeat (first | apply Kd.R_alloc | apply Kd.R_drewN | apply Kd.R_drew)); exact Kd.R_mono HO339.out (fun _ hk => hk.2)⟩, ⟨by (with_reducible repeat (first | refine blk_drewN ?_ _ | refine blk_drew ?_ | refine blk_alloc ?_ _)); exact BK344.out⟩, ⟨by repeat (first | (with_reducible first | exact HB.out | apply below_alloc | apply pw_below_drewN | apply below_drew1 | refine below_set ?_ (IsS79.ge HI328.out) | refine below_set ?_ GE344.out) | exact HB.out)⟩⟩
  case rest =>
    clear HC6
    try clear c1
    try clear c2
    try clear p2
    try clear c5
    try clear c11
    try clear c17
    try clear c18
    try clear c18b0
    try clear c18b1
    try clear c19
    try clear c19b0
    try clear c19b1
    try clear c21
    try clear hcz12_0
    try clear hcz12_1
    try clear hcz12_2
    try clear hcz12_3
    try clear hcz12_4
    try clear hcz16_0
    try clear hcz16_1
    try clear hcz16_2
    try clear hcz16_3
    try clear hcz16_4
    try clear hcz22_0
    try clear hcz22_1
    try clear hcz22_2
    try clear hcz22_3
    try clear hcz22_4
    try clear hfz12_0
    try clear hfz12_1
    try clear hfz12_2
    try clear hfz12_3
    try clear hfz12_4
    try clear hfz16_0
    try clear hfz16_1
    try clear hfz16_2
    try clear hfz16_3
    try clear hfz16_4
    try clear hfz22_0
    try clear hfz22_1
    try clear hfz22_2
    try clear hfz22_3
    try clear hfz22_4
    obtain ⟨kq, x44_5, rfl, HA, HJ5, HO_6, HO_345000, HO_345002, HO_345004, BK344, HB⟩ := hcut
    cases kq with
    | zero => exact absurd HA.out (by simp [swarflaw04_StripClosed.j0])
    | succ kj5 =>
      have H := HA.out
      clear HA
      simp only [swarflaw04_StripClosed.j0] at H
      by_cases c23 : x44_5 = true
      · subst c23
        have H1 : (some false) = some r := by rw [if_pos rfl] at H; exact H
        clear H
        have H := H1
        clear H1
        exact absurd ((Option.some.inj H).trans hrt.out) (by decide)
      · replace c23 := Bool.eq_false_iff.mpr c23
        subst c23
        have H1 : (swarflaw04_StripClosed.l0 kj5 t345 t349 true 0 t329 t332 t333 t336 t337) = some r := by rw [if_neg (show ¬ (false = true) by decide)] at H; exact H
        clear H
        have H := H1
        clear H1
        have H' := Aside0.mk H
        clear H
        go_wp2
        go_loopg [10, 11] kj5 (fun kq v10 v11 w' => ∃ (x10_2 : Bool) (x11_2 : Int), v10 = .bool x10_2 ∧ v11 = .int .i64 x11_2 ∧ Aside0 (swarflaw04_StripClosed.l0 kq t345 t349 x10_2 x11_2 t329 t332 t333 t336 t337 = some r) ∧ Aside0 (kq ≤ kj5) ∧ Aside0 (Kd.R (Kd.int .i64) 3 w' w.heap.size (fun k_ => some k_ ≠ ((.slice Ao14 t337.length co14) : Value).ownBlock) v346 t345) ∧ Aside0 (Kd.S k50 50 w' w.heap.size (fun k_ => some k_ ≠ (v346 : Value).ownBlock ∧ some k_ ≠ ((.slice Ao14 t337.length co14) : Value).ownBlock) (.slice Ao10 t329.length co10) t329) ∧ Aside0 (Kd.R k61 61 w' w.heap.size (fun _ => True) (.slice Ao13 t333.length co13) t333) ∧ Aside0 (Kd.R (Kd.int .i64) 3 w' w.heap.size (fun k_ => some k_ ≠ (v346 : Value).ownBlock) (.slice Ao14 t337.length co14) t337) ∧ Aside0 (w'.heap[gb344]? = some (.cells #[(.slice Ao10 t329.length co10), .int .i64 t332, (.slice Ao13 t333.length co13), .int .i64 t336, (.slice Ao14 t337.length co14)] 26 (0, 0))) ∧ Aside0 (Below w.heap.size w w'))
        case atStart => exact ⟨(true), (0), (by first | rfl | (simp; done) | (simp [*]; done)), (by first | rfl | (simp; done) | (simp [*]; done)), H', ⟨Nat.le_refl _⟩, ⟨by (with_reducible repeat (first | apply Kd.R_alloc | apply Kd.R_drewN | apply Kd.R_drew)); exact HO_6.out⟩, ⟨by (with_reducible repeat (first | apply Kd.S_alloc | apply Kd.S_drewN | apply Kd.S_drew)); exact HO_345000.out⟩, ⟨by (with_reducible repeat (first | apply Kd.R_alloc | apply Kd.R_drewN | apply Kd.R_drew)); exact HO_345002.out⟩, ⟨by (with_reducible repeat (first | apply Kd.R_alloc | apply Kd.R_drewN | apply Kd.R_drew)); exact HO_345004.out⟩, ⟨by (with_reducible repeat (first | refine blk_drewN ?_ _ | refine blk_drew ?_ | refine blk_alloc ?_ _)); exact BK344.out⟩, ⟨by repeat (first | (with_reducible first | exact HB.out | apply below_alloc | apply pw_below_drewN | apply below_drew1 | refine below_set ?_ GE344.out) | exact HB.out)⟩⟩
        case round =>
          clear H'
          try clear c1
          try clear c2
          try clear p2
          try clear c5
          try clear c11
          try clear c17
          try clear c18
          try clear c18b0
          try clear c18b1
          try clear c19
          try clear c19b0
          try clear c19b1
          try clear c21
          try clear c23
          try clear hcz12_0
          try clear hcz12_1
          try clear hcz12_2
          try clear hcz12_3
          try clear hcz12_4
          try clear hcz16_0
          try clear hcz16_1
          try clear hcz16_2
          try clear hcz16_3
          try clear hcz16_4
          try clear hcz22_0
          try clear hcz22_1
          try clear hcz22_2
          try clear hcz22_3
          try clear hcz22_4
          try clear hfz12_0
          try clear hfz12_1
          try clear hfz12_2
          try clear hfz12_3
          try clear hfz12_4
          try clear hfz16_0
          try clear hfz16_1
          try clear hfz16_2
          try clear hfz16_3
          try clear hfz16_4
          try clear hfz22_0
          try clear hfz22_1
          try clear hfz22_2
          try clear hfz22_3
          try clear hfz22_4
          try clear p2
          obtain ⟨x10_2, x11_2, rfl, rfl, HA, HK2, HO_6, HO_345000, HO_345002, HO_345004, BK344, HB⟩ := hrel
          cases gk with
          | zero => exact absurd HA.out (by simp [swarflaw04_StripClosed.l0])
          | succ k2 =>
            have H := HA.out
            clear HA
            simp only [swarflaw04_StripClosed.l0] at H
            by_cases c24 : x11_2 < (t345.length : Int)
            · rw [if_pos c24] at H
              have c24b0 : decide (x11_2 < (t345.length : Int)) = true := decide_eq_true c24
              clear c24
              have HC25 := Aside0.mk H
              clear H
              obtain ⟨Ao26, co26, eo26⟩ := Kd.R_slice HO_6.out
              subst eo26
              go_upto_region 11 with (fail)
              go_cut [10] (fun v10 wc => ∃ (kq : Nat) (x10_24 : Bool), v10 = .bool x10_24 ∧ Aside0 (swarflaw04_StripClosed.j2 kq t345 t349 x10_24 x11_2 t329 t332 t333 t336 t337 = some r) ∧ Aside0 (kq ≤ k2) ∧ Aside0 (Kd.R (Kd.int .i64) 3 wc w.heap.size (fun k_ => some k_ ≠ ((.slice Ao14 t337.length co14) : Value).ownBlock) (.slice Ao26 t345.length co26) t345) ∧ Aside0 (Kd.S k50 50 wc w.heap.size (fun k_ => some k_ ≠ ((.slice Ao26 t345.length co26) : Value).ownBlock ∧ some k_ ≠ ((.slice Ao14 t337.length co14) : Value).ownBlock) (.slice Ao10 t329.length co10) t329) ∧ Aside0 (Kd.R k61 61 wc w.heap.size (fun _ => True) (.slice Ao13 t333.length co13) t333) ∧ Aside0 (Kd.R (Kd.int .i64) 3 wc w.heap.size (fun k_ => some k_ ≠ ((.slice Ao26 t345.length co26) : Value).ownBlock) (.slice Ao14 t337.length co14) t337) ∧ Aside0 (wc.heap[gb344]? = some (.cells #[(.slice Ao10 t329.length co10), .int .i64 t332, (.slice Ao13 t333.length co13), .int .i64 t336, (.slice Ao14 t337.length co14)] 26 (0, 0))) ∧ Aside0 (Below w.heap.size w wc))
              case first =>
                have H := HC25.out
                clear HC25
                by_cases c27 : x10_2 = true
                · subst c27
                  have H1 : (if 0 ≤ x11_2 then (if x11_2 < (t329.length : Int) then (if ((rd_T50 t329 x11_2).f1 = true) then (swarflaw04_StripClosed.j2 k2 t345 t349 ((rd t345 x11_2) == 1) x11_2 t329 t332 t333 t336 t337) else (swarflaw04_StripClosed.j2 k2 t345 t349 true x11_2 t329 t332 t333 t336 t337)) else (none)) else (none)) = some r := by rw [if_pos rfl] at H; exact H
                  clear H
                  have H := H1
                  clear H1
                  by_cases c28 : 0 ≤ x11_2
                  · rw [if_pos c28] at H
                    have c28b0 : decide (0 ≤ x11_2) = true := decide_eq_true c28
                    clear c28
                    (first | rw [c28b0] | (simp only [i64_w, i32_w]; rw [c28b0]) | skip)
                    by_cases c29 : x11_2 < (t329.length : Int)
                    · rw [if_pos c29] at H
                      have c29b0 : decide (x11_2 < (t329.length : Int)) = true := decide_eq_true c29
                      clear c29
                      obtain ⟨bq30, hbq30⟩ : ∃ b_ : Bool, b_ = ((rd_T50 t329 x11_2).f1) := ⟨_, rfl⟩
                      replace H : (if (bq30 = true) then (swarflaw04_StripClosed.j2 k2 t345 t349 ((rd t345 x11_2) == 1) x11_2 t329 t332 t333 t336 t337) else (swarflaw04_StripClosed.j2 k2 t345 t349 true x11_2 t329 t332 t333 t336 t337)) = some r := by rw [← hbq30] at H; exact H
                      have Nbq30 := Aside0.mk hbq30
                      clear hbq30
                      by_cases c31 : (bq30 = true)
                      · subst c31
                        have H1 : (swarflaw04_StripClosed.j2 k2 t345 t349 ((rd t345 x11_2) == 1) x11_2 t329 t332 t333 t336 t337) = some r := by rw [if_pos rfl] at H; exact H
                        clear H
                        have H := H1
                        clear H1
                        have H' := Aside0.mk H
                        clear H
                        have hcz32_0 : wr.cell? ⟨gb344, 0, none⟩ = some (.slice Ao10 t329.length co10) := (blk_cell BK344.out 0).trans rfl
                        have hcz32_1 : wr.cell? ⟨gb344, 1, none⟩ = some (.int .i64 t332) := (blk_cell BK344.out 1).trans rfl
                        have hcz32_2 : wr.cell? ⟨gb344, 2, none⟩ = some (.slice Ao13 t333.length co13) := (blk_cell BK344.out 2).trans rfl
                        have hcz32_3 : wr.cell? ⟨gb344, 3, none⟩ = some (.int .i64 t336) := (blk_cell BK344.out 3).trans rfl
                        have hcz32_4 : wr.cell? ⟨gb344, 4, none⟩ = some (.slice Ao14 t337.length co14) := (blk_cell BK344.out 4).trans rfl
                        have hfz32_0 := blk_frozen BK344.out 0
                        have hfz32_1 := blk_frozen BK344.out 1
                        have hfz32_2 := blk_frozen BK344.out 2
                        have hfz32_3 := blk_frozen BK344.out 3
                        have hfz32_4 := blk_frozen BK344.out 4
                        have p352 : 0 ≤ (x11_2 : Int) := of_decide_eq_true (by first | (with_reducible assumption) | assumption)
                        have q352 : x11_2 < (t329.length : Int) := of_decide_eq_true (by first | (with_reducible assumption) | assumption)
                        obtain ⟨ad352, A352_0, c352_0, e352, hx352_0, hx352_1, hx352_2, hx352_3, hl352_0, hi352_0⟩ := at_T50 (Kd.S_reads' HO_345000.out).2.2 x11_2 p352 q352
                        (try rw [← Nbq30.out] at hx352_1)
                        cases e352
                        obtain ⟨ce352, hce352, hMe352, hcc352⟩ := Kd.S_get HO_345000.out z50 x11_2 p352 (by first | exact q352 | exact of_decide_eq_true (by first | (with_reducible assumption) | assumption) | (have e_ := (Kd.S_reads' HO_345000.out).1; omega))
                        obtain ⟨ve352_0, rfl, ge352_0⟩ := k50_openM hMe352
                        have hv352_0 := hcc352 0 _ rfl
                        rw [Nat.add_zero] at hv352_0
                        replace hv352_0 := Option.some.inj (hv352_0.symm.trans hx352_0)
                        rw [hv352_0] at ge352_0
                        have HL352_0 := Aside0.mk (show Kd.R (Kd.int .i64) 3 _ _ _ _ ((rd_T50 t329 x11_2).f0) from ge352_0)
                        clear hv352_0 ge352_0
                        clear hcc352 hce352
                        have HR352_0 := Aside0.mk hi352_0
                        have HC352_0 := Aside0.mk hl352_0
                        clear hi352_0 hl352_0
                        replace p352 := eq_true p352
                        replace q352 := eq_true q352
                        have p353 : 0 ≤ (x11_2 : Int) := of_decide_eq_true (by first | (with_reducible assumption) | assumption)
                        have q353 : x11_2 < (t345.length : Int) := of_decide_eq_true (by first | (with_reducible assumption) | assumption)
                        obtain ⟨ad353, e353, hx353_0⟩ := Kd.at_int (Kd.R_reads' HO_6.out).2.2 x11_2 p353 q353
                        cases e353
                        replace p353 := eq_true p353
                        replace q353 := eq_true q353
                        go_wp2
                        go_meet
                        case rel => exact ⟨_, (((rd t345 x11_2) == 1)), (by first | rfl | (simp; done) | (simp [*]; done)), H', ⟨by have := HJ5.out; have := HK2.out; first | omega | exact Nat.le_refl _⟩, ⟨by (with_reducible repeat (first | apply Kd.R_alloc | apply Kd.R_drewN | apply Kd.R_drew)); exact HO_6.out⟩, ⟨by (with_reducible repeat (first | apply Kd.S_alloc | apply Kd.S_drewN | apply Kd.S_drew)); exact HO_345000.out⟩, ⟨by (with_reducible repeat (first | apply Kd.R_alloc | apply Kd.R_drewN | apply Kd.R_drew)); exact HO_345002.out⟩, ⟨by (with_reducible repeat (first | apply Kd.R_alloc | apply Kd.R_drewN | apply Kd.R_drew)); exact HO_345004.out⟩, ⟨by (with_reducible repeat (first | refine blk_drewN ?_ _ | refine blk_drew ?_ | refine blk_alloc ?_ _)); exact BK344.out⟩, ⟨by repeat (first | (with_reducible first | exact HB.out | apply below_alloc | apply pw_below_drewN | apply below_drew1 | refine below_set ?_ GE344.out) | exact HB.out)⟩⟩
                      · replace c31 := Bool.eq_false_iff.mpr c31
                        subst c31
                        have H1 : (swarflaw04_StripClosed.j2 k2 t345 t349 true x11_2 t329 t332 t333 t336 t337) = some r := by rw [if_neg (show ¬ (false = true) by decide)] at H; exact H
                        clear H
                        have H := H1
                        clear H1
                        have H' := Aside0.mk H
                        clear H
                        have hcz33_0 : wr.cell? ⟨gb344, 0, none⟩ = some (.slice Ao10 t329.length co10) := (blk_cell BK344.out 0).trans rfl
                        have hcz33_1 : wr.cell? ⟨gb344, 1, none⟩ = some (.int .i64 t332) := (blk_cell BK344.out 1).trans rfl
                        have hcz33_2 : wr.cell? ⟨gb344, 2, none⟩ = some (.slice Ao13 t333.length co13) := (blk_cell BK344.out 2).trans rfl
                        have hcz33_3 : wr.cell? ⟨gb344, 3, none⟩ = some (.int .i64 t336) := (blk_cell BK344.out 3).trans rfl
                        have hcz33_4 : wr.cell? ⟨gb344, 4, none⟩ = some (.slice Ao14 t337.length co14) := (blk_cell BK344.out 4).trans rfl
                        have hfz33_0 := blk_frozen BK344.out 0
                        have hfz33_1 := blk_frozen BK344.out 1
                        have hfz33_2 := blk_frozen BK344.out 2
                        have hfz33_3 := blk_frozen BK344.out 3
                        have hfz33_4 := blk_frozen BK344.out 4
                        have p352 : 0 ≤ (x11_2 : Int) := of_decide_eq_true (by first | (with_reducible assumption) | assumption)
                        have q352 : x11_2 < (t329.length : Int) := of_decide_eq_true (by first | (with_reducible assumption) | assumption)
                        obtain ⟨ad352, A352_0, c352_0, e352, hx352_0, hx352_1, hx352_2, hx352_3, hl352_0, hi352_0⟩ := at_T50 (Kd.S_reads' HO_345000.out).2.2 x11_2 p352 q352
                        (try rw [← Nbq30.out] at hx352_1)
                        cases e352
                        obtain ⟨ce352, hce352, hMe352, hcc352⟩ := Kd.S_get HO_345000.out z50 x11_2 p352 (by first | exact q352 | exact of_decide_eq_true (by first | (with_reducible assumption) | assumption) | (have e_ := (Kd.S_reads' HO_345000.out).1; omega))
                        obtain ⟨ve352_0, rfl, ge352_0⟩ := k50_openM hMe352
                        have hv352_0 := hcc352 0 _ rfl
                        rw [Nat.add_zero] at hv352_0
                        replace hv352_0 := Option.some.inj (hv352_0.symm.trans hx352_0)
                        rw [hv352_0] at ge352_0
                        have HL352_0 := Aside0.mk (show Kd.R (Kd.int .i64) 3 _ _ _ _ ((rd_T50 t329 x11_2).f0) from ge352_0)
                        clear hv352_0 ge352_0
                        clear hcc352 hce352
                        have HR352_0 := Aside0.mk hi352_0
                        have HC352_0 := Aside0.mk hl352_0
                        clear hi352_0 hl352_0
                        replace p352 := eq_true p352
                        replace q352 := eq_true q352
                        go_wp2
                        go_meet
                        case rel => exact ⟨_, (true), (by first | rfl | (simp; done) | (simp [*]; done)), H', ⟨by have := HJ5.out; have := HK2.out; first | omega | exact Nat.le_refl _⟩, ⟨by (with_reducible repeat (first | apply Kd.R_alloc | apply Kd.R_drewN | apply Kd.R_drew)); exact HO_6.out⟩, ⟨by (with_reducible repeat (first | apply Kd.S_alloc | apply Kd.S_drewN | apply Kd.S_drew)); exact HO_345000.out⟩, ⟨by (with_reducible repeat (first | apply Kd.R_alloc | apply Kd.R_drewN | apply Kd.R_drew)); exact HO_345002.out⟩, ⟨by (with_reducible repeat (first | apply Kd.R_alloc | apply Kd.R_drewN | apply Kd.R_drew)); exact HO_345004.out⟩, ⟨by (with_reducible repeat (first | refine blk_drewN ?_ _ | refine blk_drew ?_ | refine blk_alloc ?_ _)); exact BK344.out⟩, ⟨by repeat (first | (with_reducible first | exact HB.out | apply below_alloc | apply pw_below_drewN | apply below_drew1 | refine below_set ?_ GE344.out) | exact HB.out)⟩⟩
                    · rw [if_neg c29] at H
                      exact absurd H (by simp)
                  · rw [if_neg c28] at H
                    exact absurd H (by simp)
                · replace c27 := Bool.eq_false_iff.mpr c27
                  subst c27
                  have H1 : (swarflaw04_StripClosed.j2 k2 t345 t349 false x11_2 t329 t332 t333 t336 t337) = some r := by rw [if_neg (show ¬ (false = true) by decide)] at H; exact H
                  clear H
                  have H := H1
                  clear H1
                  have H' := Aside0.mk H
                  clear H
                  go_wp2
                  go_meet
                  case rel => exact ⟨_, (false), (by first | rfl | (simp; done) | (simp [*]; done)), H', ⟨by have := HJ5.out; have := HK2.out; first | omega | exact Nat.le_refl _⟩, ⟨by (with_reducible repeat (first | apply Kd.R_alloc | apply Kd.R_drewN | apply Kd.R_drew)); exact HO_6.out⟩, ⟨by (with_reducible repeat (first | apply Kd.S_alloc | apply Kd.S_drewN | apply Kd.S_drew)); exact HO_345000.out⟩, ⟨by (with_reducible repeat (first | apply Kd.R_alloc | apply Kd.R_drewN | apply Kd.R_drew)); exact HO_345002.out⟩, ⟨by (with_reducible repeat (first | apply Kd.R_alloc | apply Kd.R_drewN | apply Kd.R_drew)); exact HO_345004.out⟩, ⟨by (with_reducible repeat (first | refine blk_drewN ?_ _ | refine blk_drew ?_ | refine blk_alloc ?_ _)); exact BK344.out⟩, ⟨by repeat (first | (with_reducible first | exact HB.out | apply below_alloc | apply pw_below_drewN | apply below_drew1 | refine below_set ?_ GE344.out) | exact HB.out)⟩⟩
              case rest =>
                clear HC25
                try clear c1
                try clear c2
                try clear p2
                try clear c3
                try clear p3
                try clear q3
                try clear hx3
                try clear c5
                try clear c11
                try clear c17
                try clear c18
                try clear c18b0
                try clear c18b1
                try clear c19
                try clear c19b0
                try clear c19b1
                try clear c21
                try clear c23
                try clear c24
                try clear c24b0
                try clear c26
                try clear c27
                try clear c28
                try clear c28b0
                try clear c29
                try clear c29b0
                try clear q30
                try clear c31
                try clear hcz12_0
                try clear hcz12_1
                try clear hcz12_2
                try clear hcz12_3
                try clear hcz12_4
                try clear hcz16_0
                try clear hcz16_1
                try clear hcz16_2
                try clear hcz16_3
                try clear hcz16_4
                try clear hcz22_0
                try clear hcz22_1
                try clear hcz22_2
                try clear hcz22_3
                try clear hcz22_4
                try clear hcz32_0
                try clear hcz32_1
                try clear hcz32_2
                try clear hcz32_3
                try clear hcz32_4
                try clear hcz33_0
                try clear hcz33_1
                try clear hcz33_2
                try clear hcz33_3
                try clear hcz33_4
                try clear hfz12_0
                try clear hfz12_1
                try clear hfz12_2
                try clear hfz12_3
                try clear hfz12_4
                try clear hfz16_0
                try clear hfz16_1
                try clear hfz16_2
                try clear hfz16_3
                try clear hfz16_4
                try clear hfz22_0
                try clear hfz22_1
                try clear hfz22_2
                try clear hfz22_3
                try clear hfz22_4
                try clear hfz32_0
                try clear hfz32_1
                try clear hfz32_2
                try clear hfz32_3
                try clear hfz32_4
                try clear hfz33_0
                try clear hfz33_1
                try clear hfz33_2
                try clear hfz33_3
                try clear hfz33_4
                try clear hx352_0
                try clear hx352_1
                try clear hx352_2
                try clear hx352_3
                try clear hx353_0
                try clear p2
                try clear p352
                try clear p353
                try clear q352
                try clear q353
                obtain ⟨kq, x10_24, rfl, HA, HJ24, HO_6, HO_345000, HO_345002, HO_345004, BK344, HB⟩ := hcut
                cases kq with
                | zero => exact absurd HA.out (by simp [swarflaw04_StripClosed.j2])
                | succ kj24 =>
                  have H := HA.out
                  clear HA
                  simp only [swarflaw04_StripClosed.j2] at H
                  have H' := Aside0.mk H
                  clear H
                  go_wp2
                  go_loopg [12] kj24 (fun kq v12 w' => ∃ (x12_4 : Int), v12 = .int .i64 x12_4 ∧ Aside0 (swarflaw04_StripClosed.l1 kq t345 t349 x10_24 x11_2 x12_4 t329 t332 t333 t336 t337 = some r) ∧ Aside0 (kq ≤ kj24) ∧ Aside0 (Kd.R (Kd.int .i64) 3 w' w.heap.size (fun k_ => some k_ ≠ ((.slice Ao14 t337.length co14) : Value).ownBlock) (.slice Ao26 t345.length co26) t345) ∧ Aside0 (Kd.S k50 50 w' w.heap.size (fun k_ => some k_ ≠ ((.slice Ao26 t345.length co26) : Value).ownBlock ∧ some k_ ≠ ((.slice Ao14 t337.length co14) : Value).ownBlock) (.slice Ao10 t329.length co10) t329) ∧ Aside0 (Kd.R k61 61 w' w.heap.size (fun _ => True) (.slice Ao13 t333.length co13) t333) ∧ Aside0 (Kd.R (Kd.int .i64) 3 w' w.heap.size (fun k_ => some k_ ≠ ((.slice Ao26 t345.length co26) : Value).ownBlock) (.slice Ao14 t337.length co14) t337) ∧ Aside0 (w'.heap[gb344]? = some (.cells #[(.slice Ao10 t329.length co10), .int .i64 t332, (.slice Ao13 t333.length co13), .int .i64 t336, (.slice Ao14 t337.length co14)] 26 (0, 0))) ∧ Aside0 (Below w.heap.size w w'))
                  case atStart => exact ⟨(0), (by first | rfl | (simp; done) | (simp [*]; done)), H', ⟨Nat.le_refl _⟩, ⟨by (with_reducible repeat (first | apply Kd.R_alloc | apply Kd.R_drewN | apply Kd.R_drew)); exact HO_6.out⟩, ⟨by (with_reducible repeat (first | apply Kd.S_alloc | apply Kd.S_drewN | apply Kd.S_drew)); exact HO_345000.out⟩, ⟨by (with_reducible repeat (first | apply Kd.R_alloc | apply Kd.R_drewN | apply Kd.R_drew)); exact HO_345002.out⟩, ⟨by (with_reducible repeat (first | apply Kd.R_alloc | apply Kd.R_drewN | apply Kd.R_drew)); exact HO_345004.out⟩, ⟨by (with_reducible repeat (first | refine blk_drewN ?_ _ | refine blk_drew ?_ | refine blk_alloc ?_ _)); exact BK344.out⟩, ⟨by repeat (first | (with_reducible first | exact HB.out | apply below_alloc | apply pw_below_drewN | apply below_drew1 | refine below_set ?_ GE344.out) | exact HB.out)⟩⟩
                  case round =>
                    clear H'
                    try clear c1
                    try clear c2
                    try clear p2
                    try clear c3
                    try clear p3
                    try clear q3
                    try clear hx3
                    try clear c5
                    try clear c11
                    try clear c17
                    try clear c18
                    try clear c18b0
                    try clear c18b1
                    try clear c19
                    try clear c19b0
                    try clear c19b1
                    try clear c21
                    try clear c23
                    try clear c24
                    try clear c24b0
                    try clear c26
                    try clear c27
                    try clear c28
                    try clear c28b0
                    try clear c29
                    try clear c29b0
                    try clear q30
                    try clear c31
                    try clear hcz12_0
                    try clear hcz12_1
                    try clear hcz12_2
                    try clear hcz12_3
                    try clear hcz12_4
                    try clear hcz16_0
                    try clear hcz16_1
                    try clear hcz16_2
                    try clear hcz16_3
                    try clear hcz16_4
                    try clear hcz22_0
                    try clear hcz22_1
                    try clear hcz22_2
                    try clear hcz22_3
                    try clear hcz22_4
                    try clear hcz32_0
                    try clear hcz32_1
                    try clear hcz32_2
                    try clear hcz32_3
                    try clear hcz32_4
                    try clear hcz33_0
                    try clear hcz33_1
                    try clear hcz33_2
                    try clear hcz33_3
                    try clear hcz33_4
                    try clear hfz12_0
                    try clear hfz12_1
                    try clear hfz12_2
                    try clear hfz12_3
                    try clear hfz12_4
                    try clear hfz16_0
                    try clear hfz16_1
                    try clear hfz16_2
                    try clear hfz16_3
                    try clear hfz16_4
                    try clear hfz22_0
                    try clear hfz22_1
                    try clear hfz22_2
                    try clear hfz22_3
                    try clear hfz22_4
                    try clear hfz32_0
                    try clear hfz32_1
                    try clear hfz32_2
                    try clear hfz32_3
                    try clear hfz32_4
                    try clear hfz33_0
                    try clear hfz33_1
                    try clear hfz33_2
                    try clear hfz33_3
                    try clear hfz33_4
                    try clear hx352_0
                    try clear hx352_1
                    try clear hx352_2
                    try clear hx352_3
                    try clear hx353_0
                    try clear p2
                    try clear p3
                    try clear p352
                    try clear p353
                    try clear q3
                    try clear q30
                    try clear q352
                    try clear q353
                    obtain ⟨x12_4, rfl, HA, HK4, HO_6, HO_345000, HO_345002, HO_345004, BK344, HB⟩ := hrel
                    cases gk with
                    | zero => exact absurd HA.out (by simp [swarflaw04_StripClosed.l1])
                    | succ k4 =>
                      have H := HA.out
                      clear HA
                      simp only [swarflaw04_StripClosed.l1] at H
                      by_cases c34 : 0 ≤ x11_2
                      · rw [if_pos c34] at H
                        have c34b0 : decide (0 ≤ x11_2) = true := decide_eq_true c34
                        clear c34
                        by_cases c35 : x11_2 < (t329.length : Int)
                        · rw [if_pos c35] at H
                          have c35b0 : decide (x11_2 < (t329.length : Int)) = true := decide_eq_true c35
                          clear c35
                          by_cases c36 : x12_4 < (((rd_T50 t329 x11_2).f0).length : Int)
                          · rw [if_pos c36] at H
                            have c36b0 : decide (x12_4 < (((rd_T50 t329 x11_2).f0).length : Int)) = true := decide_eq_true c36
                            clear c36
                            by_cases c37 : 0 ≤ x12_4
                            · rw [if_pos c37] at H
                              have c37b0 : decide (0 ≤ x12_4) = true := decide_eq_true c37
                              clear c37
                              by_cases c38 : 0 ≤ (rd ((rd_T50 t329 x11_2).f0) x12_4)
                              · rw [if_pos c38] at H
                                have c38b0 : decide (0 ≤ (rd ((rd_T50 t329 x11_2).f0) x12_4)) = true := decide_eq_true c38
                                clear c38
                                by_cases c39 : (rd ((rd_T50 t329 x11_2).f0) x12_4) < (t345.length : Int)
                                · rw [if_pos c39] at H
                                  have c39b0 : decide ((rd ((rd_T50 t329 x11_2).f0) x12_4) < (t345.length : Int)) = true := decide_eq_true c39
                                  clear c39
                                  by_cases c40 : x11_2 < (t345.length : Int)
                                  · rw [if_pos c40] at H
                                    have c40b0 : decide (x11_2 < (t345.length : Int)) = true := decide_eq_true c40
                                    clear c40
                                    by_cases c41 : (rd t345 x11_2) = 1
                                    · rw [if_pos c41] at H
                                      have c41b0 : ((rd t345 x11_2) == 1) = true := beq_iff_eq.mpr c41
                                      have c41b1 : ((rd t345 x11_2) != 1) = false := bne_eq_false_iff_eq.mpr c41
                                      clear c41
                                      by_cases c42 : (rd t345 (rd ((rd_T50 t329 x11_2).f0) x12_4)) = 1
                                      · rw [if_pos c42] at H
                                        have c42b0 : ((rd t345 (rd ((rd_T50 t329 x11_2).f0) x12_4)) == 1) = true := beq_iff_eq.mpr c42
                                        have c42b1 : ((rd t345 (rd ((rd_T50 t329 x11_2).f0) x12_4)) != 1) = false := bne_eq_false_iff_eq.mpr c42
                                        clear c42
                                        by_cases c43 : (rd t345 (rd ((rd_T50 t329 x11_2).f0) x12_4)) = 2
                                        · rw [if_pos c43] at H
                                          have c43b0 : ((rd t345 (rd ((rd_T50 t329 x11_2).f0) x12_4)) == 2) = true := beq_iff_eq.mpr c43
                                          have c43b1 : ((rd t345 (rd ((rd_T50 t329 x11_2).f0) x12_4)) != 2) = false := bne_eq_false_iff_eq.mpr c43
                                          clear c43
                                          by_cases c44 : (rd t345 x11_2) = 2
                                          · rw [if_pos c44] at H
                                            have c44b0 : ((rd t345 x11_2) == 2) = true := beq_iff_eq.mpr c44
                                            have c44b1 : ((rd t345 x11_2) != 2) = false := bne_eq_false_iff_eq.mpr c44
                                            clear c44
                                            have H' := Aside0.mk H
                                            clear H
                                            have hcz45_0 : wr.cell? ⟨gb344, 0, none⟩ = some (.slice Ao10 t329.length co10) := (blk_cell BK344.out 0).trans rfl
                                            have hcz45_1 : wr.cell? ⟨gb344, 1, none⟩ = some (.int .i64 t332) := (blk_cell BK344.out 1).trans rfl
                                            have hcz45_2 : wr.cell? ⟨gb344, 2, none⟩ = some (.slice Ao13 t333.length co13) := (blk_cell BK344.out 2).trans rfl
                                            have hcz45_3 : wr.cell? ⟨gb344, 3, none⟩ = some (.int .i64 t336) := (blk_cell BK344.out 3).trans rfl
                                            have hcz45_4 : wr.cell? ⟨gb344, 4, none⟩ = some (.slice Ao14 t337.length co14) := (blk_cell BK344.out 4).trans rfl
                                            have hfz45_0 := blk_frozen BK344.out 0
                                            have hfz45_1 := blk_frozen BK344.out 1
                                            have hfz45_2 := blk_frozen BK344.out 2
                                            have hfz45_3 := blk_frozen BK344.out 3
                                            have hfz45_4 := blk_frozen BK344.out 4
                                            have p354 : 0 ≤ (x11_2 : Int) := of_decide_eq_true (by first | (with_reducible assumption) | assumption)
                                            have q354 : x11_2 < (t329.length : Int) := of_decide_eq_true (by first | (with_reducible assumption) | assumption)
                                            obtain ⟨ad354, A354_0, c354_0, e354, hx354_0, hx354_1, hx354_2, hx354_3, hl354_0, hi354_0⟩ := at_T50 (Kd.S_reads' HO_345000.out).2.2 x11_2 p354 q354
                                            cases e354
                                            obtain ⟨ce354, hce354, hMe354, hcc354⟩ := Kd.S_get HO_345000.out z50 x11_2 p354 (by first | exact q354 | exact of_decide_eq_true (by first | (with_reducible assumption) | assumption) | (have e_ := (Kd.S_reads' HO_345000.out).1; omega))
                                            obtain ⟨ve354_0, rfl, ge354_0⟩ := k50_openM hMe354
                                            have hv354_0 := hcc354 0 _ rfl
                                            rw [Nat.add_zero] at hv354_0
                                            replace hv354_0 := Option.some.inj (hv354_0.symm.trans hx354_0)
                                            rw [hv354_0] at ge354_0
                                            have HL354_0 := Aside0.mk (show Kd.R (Kd.int .i64) 3 _ _ _ _ ((rd_T50 t329 x11_2).f0) from ge354_0)
                                            clear hv354_0 ge354_0
                                            clear hcc354 hce354
                                            have HR354_0 := Aside0.mk hi354_0
                                            have HC354_0 := Aside0.mk hl354_0
                                            clear hi354_0 hl354_0
                                            replace p354 := eq_true p354
                                            replace q354 := eq_true q354
                                            have p355 : 0 ≤ (x11_2 : Int) := of_decide_eq_true (by first | (with_reducible assumption) | assumption)
                                            have q355 : x11_2 < (t329.length : Int) := of_decide_eq_true (by first | (with_reducible assumption) | assumption)
                                            obtain ⟨ad355, A355_0, c355_0, e355, hx355_0, hx355_1, hx355_2, hx355_3, hl355_0, hi355_0⟩ := at_T50 (Kd.S_reads' HO_345000.out).2.2 x11_2 p355 q355
                                            obtain rfl : ad354 = ad355 := (by injection e355)
                                            obtain ⟨ce355, hce355, hMe355, hcc355⟩ := Kd.S_get HO_345000.out z50 x11_2 p355 (by first | exact q355 | exact of_decide_eq_true (by first | (with_reducible assumption) | assumption) | (have e_ := (Kd.S_reads' HO_345000.out).1; omega))
                                            obtain ⟨ve355_0, rfl, ge355_0⟩ := k50_openM hMe355
                                            have hv355_0 := hcc355 0 _ rfl
                                            rw [Nat.add_zero] at hv355_0
                                            replace hv355_0 := Option.some.inj (hv355_0.symm.trans hx355_0)
                                            rw [hv355_0] at ge355_0
                                            have HL355_0 := Aside0.mk (show Kd.R (Kd.int .i64) 3 _ _ _ _ ((rd_T50 t329 x11_2).f0) from ge355_0)
                                            clear hv355_0 ge355_0
                                            clear hcc355 hce355
                                            have HR355_0 := Aside0.mk hi355_0
                                            have HC355_0 := Aside0.mk hl355_0
                                            clear hi355_0 hl355_0
                                            replace p355 := eq_true p355
                                            replace q355 := eq_true q355
                                            have ea_ := Option.some.inj (hx354_0.symm.trans hx355_0)
                                            injection ea_ with ea_ en_ ec_
                                            subst ea_
                                            subst ec_
                                            clear en_
                                            have p356 : 0 ≤ (x12_4 : Int) := of_decide_eq_true (by first | (with_reducible assumption) | assumption)
                                            have q356 : x12_4 < (((rd_T50 t329 x11_2).f0).length : Int) := of_decide_eq_true (by first | (with_reducible assumption) | assumption)
                                            obtain ⟨ad356, e356, hx356_0⟩ := Kd.at_int (by repeat (first | (with_reducible exact HR355_0.out) | (with_reducible refine Kd.C_alloc ?_ _) | (with_reducible refine Kd.C_drewN ?_ _) | (with_reducible refine Kd.C_drew ?_) | exact HR355_0.out)) x12_4 p356 q356
                                            cases e356
                                            replace p356 := eq_true p356
                                            replace q356 := eq_true q356
                                            have p357 : 0 ≤ ((rd ((rd_T50 t329 x11_2).f0) x12_4) : Int) := of_decide_eq_true (by first | (with_reducible assumption) | assumption)
                                            have q357 : (rd ((rd_T50 t329 x11_2).f0) x12_4) < (t345.length : Int) := of_decide_eq_true (by first | (with_reducible assumption) | assumption)
                                            obtain ⟨ad357, e357, hx357_0⟩ := Kd.at_int (Kd.R_reads' HO_6.out).2.2 (rd ((rd_T50 t329 x11_2).f0) x12_4) p357 q357
                                            cases e357
                                            replace p357 := eq_true p357
                                            replace q357 := eq_true q357
                                            have p358 : 0 ≤ (x11_2 : Int) := of_decide_eq_true (by first | (with_reducible assumption) | assumption)
                                            have q358 : x11_2 < (t345.length : Int) := of_decide_eq_true (by first | (with_reducible assumption) | assumption)
                                            obtain ⟨ad358, e358, hx358_0⟩ := Kd.at_int (Kd.R_reads' HO_6.out).2.2 x11_2 p358 q358
                                            obtain rfl : ad357 = ad358 := (by injection e358)
                                            replace p358 := eq_true p358
                                            replace q358 := eq_true q358
                                            have p359 : 0 ≤ (x11_2 : Int) := of_decide_eq_true (by first | (with_reducible assumption) | assumption)
                                            have q359 : x11_2 < (t345.length : Int) := of_decide_eq_true (by first | (with_reducible assumption) | assumption)
                                            obtain ⟨ad359, e359, hx359_0⟩ := Kd.at_int (Kd.R_reads' HO_6.out).2.2 x11_2 p359 q359
                                            obtain rfl : ad357 = ad359 := (by injection e359)
                                            replace p359 := eq_true p359
                                            replace q359 := eq_true q359
                                            go_wp2
                                            go_roundg k4
                                            case measure => have := HJ5.out; have := HK2.out; have := HJ24.out; have := HK4.out; omega
                                            case rel => exact ⟨(wrap64 (x12_4 + 1)), (by first | rfl | (simp; done) | (simp [*]; done)), H', ⟨by have := HJ5.out; have := HK2.out; have := HJ24.out; have := HK4.out; omega⟩, ⟨by (with_reducible repeat (first | apply Kd.R_alloc | apply Kd.R_drewN | apply Kd.R_drew)); exact HO_6.out⟩, ⟨by (with_reducible repeat (first | apply Kd.S_alloc | apply Kd.S_drewN | apply Kd.S_drew)); exact HO_345000.out⟩, ⟨by (with_reducible repeat (first | apply Kd.R_alloc | apply Kd.R_drewN | apply Kd.R_drew)); exact HO_345002.out⟩, ⟨by (with_reducible repeat (first | apply Kd.R_alloc | apply Kd.R_drewN | apply Kd.R_drew)); exact HO_345004.out⟩, ⟨by (with_reducible repeat (first | refine blk_drewN ?_ _ | refine blk_drew ?_ | refine blk_alloc ?_ _)); exact BK344.out⟩, ⟨by repeat (first | (with_reducible first | exact HB.out | apply below_alloc | apply pw_below_drewN | apply below_drew1 | refine below_set ?_ GE344.out) | exact HB.out)⟩⟩
                                          · rw [if_neg c44] at H
                                            have c44b0 : ((rd t345 x11_2) == 2) = false := beq_eq_false_iff_ne.mpr c44
                                            have c44b1 : ((rd t345 x11_2) != 2) = true := bne_iff_ne.mpr c44
                                            exact absurd ((Option.some.inj H).trans hrt.out) (by decide)
                                        · rw [if_neg c43] at H
                                          have c43b0 : ((rd t345 (rd ((rd_T50 t329 x11_2).f0) x12_4)) == 2) = false := beq_eq_false_iff_ne.mpr c43
                                          have c43b1 : ((rd t345 (rd ((rd_T50 t329 x11_2).f0) x12_4)) != 2) = true := bne_iff_ne.mpr c43
                                          have H' := Aside0.mk H
                                          clear H
                                          have hcz47_0 : wr.cell? ⟨gb344, 0, none⟩ = some (.slice Ao10 t329.length co10) := (blk_cell BK344.out 0).trans rfl
                                          have hcz47_1 : wr.cell? ⟨gb344, 1, none⟩ = some (.int .i64 t332) := (blk_cell BK344.out 1).trans rfl
                                          have hcz47_2 : wr.cell? ⟨gb344, 2, none⟩ = some (.slice Ao13 t333.length co13) := (blk_cell BK344.out 2).trans rfl
                                          have hcz47_3 : wr.cell? ⟨gb344, 3, none⟩ = some (.int .i64 t336) := (blk_cell BK344.out 3).trans rfl
                                          have hcz47_4 : wr.cell? ⟨gb344, 4, none⟩ = some (.slice Ao14 t337.length co14) := (blk_cell BK344.out 4).trans rfl
                                          have hfz47_0 := blk_frozen BK344.out 0
                                          have hfz47_1 := blk_frozen BK344.out 1
                                          have hfz47_2 := blk_frozen BK344.out 2
                                          have hfz47_3 := blk_frozen BK344.out 3
                                          have hfz47_4 := blk_frozen BK344.out 4
                                          have p354 : 0 ≤ (x11_2 : Int) := of_decide_eq_true (by first | (with_reducible assumption) | assumption)
                                          have q354 : x11_2 < (t329.length : Int) := of_decide_eq_true (by first | (with_reducible assumption) | assumption)
                                          obtain ⟨ad354, A354_0, c354_0, e354, hx354_0, hx354_1, hx354_2, hx354_3, hl354_0, hi354_0⟩ := at_T50 (Kd.S_reads' HO_345000.out).2.2 x11_2 p354 q354
                                          cases e354
                                          obtain ⟨ce354, hce354, hMe354, hcc354⟩ := Kd.S_get HO_345000.out z50 x11_2 p354 (by first | exact q354 | exact of_decide_eq_true (by first | (with_reducible assumption) | assumption) | (have e_ := (Kd.S_reads' HO_345000.out).1; omega))
                                          obtain ⟨ve354_0, rfl, ge354_0⟩ := k50_openM hMe354
                                          have hv354_0 := hcc354 0 _ rfl
                                          rw [Nat.add_zero] at hv354_0
                                          replace hv354_0 := Option.some.inj (hv354_0.symm.trans hx354_0)
                                          rw [hv354_0] at ge354_0
                                          have HL354_0 := Aside0.mk (show Kd.R (Kd.int .i64) 3 _ _ _ _ ((rd_T50 t329 x11_2).f0) from ge354_0)
                                          clear hv354_0 ge354_0
                                          clear hcc354 hce354
                                          have HR354_0 := Aside0.mk hi354_0
                                          have HC354_0 := Aside0.mk hl354_0
                                          clear hi354_0 hl354_0
                                          replace p354 := eq_true p354
                                          replace q354 := eq_true q354
                                          have p355 : 0 ≤ (x11_2 : Int) := of_decide_eq_true (by first | (with_reducible assumption) | assumption)
                                          have q355 : x11_2 < (t329.length : Int) := of_decide_eq_true (by first | (with_reducible assumption) | assumption)
                                          obtain ⟨ad355, A355_0, c355_0, e355, hx355_0, hx355_1, hx355_2, hx355_3, hl355_0, hi355_0⟩ := at_T50 (Kd.S_reads' HO_345000.out).2.2 x11_2 p355 q355
                                          obtain rfl : ad354 = ad355 := (by injection e355)
                                          obtain ⟨ce355, hce355, hMe355, hcc355⟩ := Kd.S_get HO_345000.out z50 x11_2 p355 (by first | exact q355 | exact of_decide_eq_true (by first | (with_reducible assumption) | assumption) | (have e_ := (Kd.S_reads' HO_345000.out).1; omega))
                                          obtain ⟨ve355_0, rfl, ge355_0⟩ := k50_openM hMe355
                                          have hv355_0 := hcc355 0 _ rfl
                                          rw [Nat.add_zero] at hv355_0
                                          replace hv355_0 := Option.some.inj (hv355_0.symm.trans hx355_0)
                                          rw [hv355_0] at ge355_0
                                          have HL355_0 := Aside0.mk (show Kd.R (Kd.int .i64) 3 _ _ _ _ ((rd_T50 t329 x11_2).f0) from ge355_0)
                                          clear hv355_0 ge355_0
                                          clear hcc355 hce355
                                          have HR355_0 := Aside0.mk hi355_0
                                          have HC355_0 := Aside0.mk hl355_0
                                          clear hi355_0 hl355_0
                                          replace p355 := eq_true p355
                                          replace q355 := eq_true q355
                                          have ea_ := Option.some.inj (hx354_0.symm.trans hx355_0)
                                          injection ea_ with ea_ en_ ec_
                                          subst ea_
                                          subst ec_
                                          clear en_
                                          have p356 : 0 ≤ (x12_4 : Int) := of_decide_eq_true (by first | (with_reducible assumption) | assumption)
                                          have q356 : x12_4 < (((rd_T50 t329 x11_2).f0).length : Int) := of_decide_eq_true (by first | (with_reducible assumption) | assumption)
                                          obtain ⟨ad356, e356, hx356_0⟩ := Kd.at_int (by repeat (first | (with_reducible exact HR355_0.out) | (with_reducible refine Kd.C_alloc ?_ _) | (with_reducible refine Kd.C_drewN ?_ _) | (with_reducible refine Kd.C_drew ?_) | exact HR355_0.out)) x12_4 p356 q356
                                          cases e356
                                          replace p356 := eq_true p356
                                          replace q356 := eq_true q356
                                          have p357 : 0 ≤ ((rd ((rd_T50 t329 x11_2).f0) x12_4) : Int) := of_decide_eq_true (by first | (with_reducible assumption) | assumption)
                                          have q357 : (rd ((rd_T50 t329 x11_2).f0) x12_4) < (t345.length : Int) := of_decide_eq_true (by first | (with_reducible assumption) | assumption)
                                          obtain ⟨ad357, e357, hx357_0⟩ := Kd.at_int (Kd.R_reads' HO_6.out).2.2 (rd ((rd_T50 t329 x11_2).f0) x12_4) p357 q357
                                          cases e357
                                          replace p357 := eq_true p357
                                          replace q357 := eq_true q357
                                          have p358 : 0 ≤ (x11_2 : Int) := of_decide_eq_true (by first | (with_reducible assumption) | assumption)
                                          have q358 : x11_2 < (t345.length : Int) := of_decide_eq_true (by first | (with_reducible assumption) | assumption)
                                          obtain ⟨ad358, e358, hx358_0⟩ := Kd.at_int (Kd.R_reads' HO_6.out).2.2 x11_2 p358 q358
                                          obtain rfl : ad357 = ad358 := (by injection e358)
                                          replace p358 := eq_true p358
                                          replace q358 := eq_true q358
                                          go_wp2
                                          go_roundg k4
                                          case measure => have := HJ5.out; have := HK2.out; have := HJ24.out; have := HK4.out; omega
                                          case rel => exact ⟨(wrap64 (x12_4 + 1)), (by first | rfl | (simp; done) | (simp [*]; done)), H', ⟨by have := HJ5.out; have := HK2.out; have := HJ24.out; have := HK4.out; omega⟩, ⟨by (with_reducible repeat (first | apply Kd.R_alloc | apply Kd.R_drewN | apply Kd.R_drew)); exact HO_6.out⟩, ⟨by (with_reducible repeat (first | apply Kd.S_alloc | apply Kd.S_drewN | apply Kd.S_drew)); exact HO_345000.out⟩, ⟨by (with_reducible repeat (first | apply Kd.R_alloc | apply Kd.R_drewN | apply Kd.R_drew)); exact HO_345002.out⟩, ⟨by (with_reducible repeat (first | apply Kd.R_alloc | apply Kd.R_drewN | apply Kd.R_drew)); exact HO_345004.out⟩, ⟨by (with_reducible repeat (first | refine blk_drewN ?_ _ | refine blk_drew ?_ | refine blk_alloc ?_ _)); exact BK344.out⟩, ⟨by repeat (first | (with_reducible first | exact HB.out | apply below_alloc | apply pw_below_drewN | apply below_drew1 | refine below_set ?_ GE344.out) | exact HB.out)⟩⟩
                                      · rw [if_neg c42] at H
                                        have c42b0 : ((rd t345 (rd ((rd_T50 t329 x11_2).f0) x12_4)) == 1) = false := beq_eq_false_iff_ne.mpr c42
                                        have c42b1 : ((rd t345 (rd ((rd_T50 t329 x11_2).f0) x12_4)) != 1) = true := bne_iff_ne.mpr c42
                                        exact absurd ((Option.some.inj H).trans hrt.out) (by decide)
                                    · rw [if_neg c41] at H
                                      have c41b0 : ((rd t345 x11_2) == 1) = false := beq_eq_false_iff_ne.mpr c41
                                      have c41b1 : ((rd t345 x11_2) != 1) = true := bne_iff_ne.mpr c41
                                      by_cases c49 : (rd t345 (rd ((rd_T50 t329 x11_2).f0) x12_4)) = 2
                                      · rw [if_pos c49] at H
                                        have c49b0 : ((rd t345 (rd ((rd_T50 t329 x11_2).f0) x12_4)) == 2) = true := beq_iff_eq.mpr c49
                                        have c49b1 : ((rd t345 (rd ((rd_T50 t329 x11_2).f0) x12_4)) != 2) = false := bne_eq_false_iff_eq.mpr c49
                                        clear c49
                                        by_cases c50 : (rd t345 x11_2) = 2
                                        · rw [if_pos c50] at H
                                          have c50b0 : ((rd t345 x11_2) == 2) = true := beq_iff_eq.mpr c50
                                          have c50b1 : ((rd t345 x11_2) != 2) = false := bne_eq_false_iff_eq.mpr c50
                                          clear c50
                                          have H' := Aside0.mk H
                                          clear H
                                          have hcz51_0 : wr.cell? ⟨gb344, 0, none⟩ = some (.slice Ao10 t329.length co10) := (blk_cell BK344.out 0).trans rfl
                                          have hcz51_1 : wr.cell? ⟨gb344, 1, none⟩ = some (.int .i64 t332) := (blk_cell BK344.out 1).trans rfl
                                          have hcz51_2 : wr.cell? ⟨gb344, 2, none⟩ = some (.slice Ao13 t333.length co13) := (blk_cell BK344.out 2).trans rfl
                                          have hcz51_3 : wr.cell? ⟨gb344, 3, none⟩ = some (.int .i64 t336) := (blk_cell BK344.out 3).trans rfl
                                          have hcz51_4 : wr.cell? ⟨gb344, 4, none⟩ = some (.slice Ao14 t337.length co14) := (blk_cell BK344.out 4).trans rfl
                                          have hfz51_0 := blk_frozen BK344.out 0
                                          have hfz51_1 := blk_frozen BK344.out 1
                                          have hfz51_2 := blk_frozen BK344.out 2
                                          have hfz51_3 := blk_frozen BK344.out 3
                                          have hfz51_4 := blk_frozen BK344.out 4
                                          have p354 : 0 ≤ (x11_2 : Int) := of_decide_eq_true (by first | (with_reducible assumption) | assumption)
                                          have q354 : x11_2 < (t329.length : Int) := of_decide_eq_true (by first | (with_reducible assumption) | assumption)
                                          obtain ⟨ad354, A354_0, c354_0, e354, hx354_0, hx354_1, hx354_2, hx354_3, hl354_0, hi354_0⟩ := at_T50 (Kd.S_reads' HO_345000.out).2.2 x11_2 p354 q354
                                          cases e354
                                          obtain ⟨ce354, hce354, hMe354, hcc354⟩ := Kd.S_get HO_345000.out z50 x11_2 p354 (by first | exact q354 | exact of_decide_eq_true (by first | (with_reducible assumption) | assumption) | (have e_ := (Kd.S_reads' HO_345000.out).1; omega))
                                          obtain ⟨ve354_0, rfl, ge354_0⟩ := k50_openM hMe354
                                          have hv354_0 := hcc354 0 _ rfl
                                          rw [Nat.add_zero] at hv354_0
                                          replace hv354_0 := Option.some.inj (hv354_0.symm.trans hx354_0)
                                          rw [hv354_0] at ge354_0
                                          have HL354_0 := Aside0.mk (show Kd.R (Kd.int .i64) 3 _ _ _ _ ((rd_T50 t329 x11_2).f0) from ge354_0)
                                          clear hv354_0 ge354_0
                                          clear hcc354 hce354
                                          have HR354_0 := Aside0.mk hi354_0
                                          have HC354_0 := Aside0.mk hl354_0
                                          clear hi354_0 hl354_0
                                          replace p354 := eq_true p354
                                          replace q354 := eq_true q354
                                          have p355 : 0 ≤ (x11_2 : Int) := of_decide_eq_true (by first | (with_reducible assumption) | assumption)
                                          have q355 : x11_2 < (t329.length : Int) := of_decide_eq_true (by first | (with_reducible assumption) | assumption)
                                          obtain ⟨ad355, A355_0, c355_0, e355, hx355_0, hx355_1, hx355_2, hx355_3, hl355_0, hi355_0⟩ := at_T50 (Kd.S_reads' HO_345000.out).2.2 x11_2 p355 q355
                                          obtain rfl : ad354 = ad355 := (by injection e355)
                                          obtain ⟨ce355, hce355, hMe355, hcc355⟩ := Kd.S_get HO_345000.out z50 x11_2 p355 (by first | exact q355 | exact of_decide_eq_true (by first | (with_reducible assumption) | assumption) | (have e_ := (Kd.S_reads' HO_345000.out).1; omega))
                                          obtain ⟨ve355_0, rfl, ge355_0⟩ := k50_openM hMe355
                                          have hv355_0 := hcc355 0 _ rfl
                                          rw [Nat.add_zero] at hv355_0
                                          replace hv355_0 := Option.some.inj (hv355_0.symm.trans hx355_0)
                                          rw [hv355_0] at ge355_0
                                          have HL355_0 := Aside0.mk (show Kd.R (Kd.int .i64) 3 _ _ _ _ ((rd_T50 t329 x11_2).f0) from ge355_0)
                                          clear hv355_0 ge355_0
                                          clear hcc355 hce355
                                          have HR355_0 := Aside0.mk hi355_0
                                          have HC355_0 := Aside0.mk hl355_0
                                          clear hi355_0 hl355_0
                                          replace p355 := eq_true p355
                                          replace q355 := eq_true q355
                                          have ea_ := Option.some.inj (hx354_0.symm.trans hx355_0)
                                          injection ea_ with ea_ en_ ec_
                                          subst ea_
                                          subst ec_
                                          clear en_
                                          have p356 : 0 ≤ (x12_4 : Int) := of_decide_eq_true (by first | (with_reducible assumption) | assumption)
                                          have q356 : x12_4 < (((rd_T50 t329 x11_2).f0).length : Int) := of_decide_eq_true (by first | (with_reducible assumption) | assumption)
                                          obtain ⟨ad356, e356, hx356_0⟩ := Kd.at_int (by repeat (first | (with_reducible exact HR355_0.out) | (with_reducible refine Kd.C_alloc ?_ _) | (with_reducible refine Kd.C_drewN ?_ _) | (with_reducible refine Kd.C_drew ?_) | exact HR355_0.out)) x12_4 p356 q356
                                          cases e356
                                          replace p356 := eq_true p356
                                          replace q356 := eq_true q356
                                          have p357 : 0 ≤ ((rd ((rd_T50 t329 x11_2).f0) x12_4) : Int) := of_decide_eq_true (by first | (with_reducible assumption) | assumption)
                                          have q357 : (rd ((rd_T50 t329 x11_2).f0) x12_4) < (t345.length : Int) := of_decide_eq_true (by first | (with_reducible assumption) | assumption)
                                          obtain ⟨ad357, e357, hx357_0⟩ := Kd.at_int (Kd.R_reads' HO_6.out).2.2 (rd ((rd_T50 t329 x11_2).f0) x12_4) p357 q357
                                          cases e357
                                          replace p357 := eq_true p357
                                          replace q357 := eq_true q357
                                          have p358 : 0 ≤ (x11_2 : Int) := of_decide_eq_true (by first | (with_reducible assumption) | assumption)
                                          have q358 : x11_2 < (t345.length : Int) := of_decide_eq_true (by first | (with_reducible assumption) | assumption)
                                          obtain ⟨ad358, e358, hx358_0⟩ := Kd.at_int (Kd.R_reads' HO_6.out).2.2 x11_2 p358 q358
                                          obtain rfl : ad357 = ad358 := (by injection e358)
                                          replace p358 := eq_true p358
                                          replace q358 := eq_true q358
                                          have p360 : 0 ≤ (x11_2 : Int) := of_decide_eq_true (by first | (with_reducible assumption) | assumption)
                                          have q360 : x11_2 < (t345.length : Int) := of_decide_eq_true (by first | (with_reducible assumption) | assumption)
                                          obtain ⟨ad360, e360, hx360_0⟩ := Kd.at_int (Kd.R_reads' HO_6.out).2.2 x11_2 p360 q360
                                          obtain rfl : ad357 = ad360 := (by injection e360)
                                          replace p360 := eq_true p360
                                          replace q360 := eq_true q360
                                          go_wp2
                                          go_roundg k4
                                          case measure => have := HJ5.out; have := HK2.out; have := HJ24.out; have := HK4.out; omega
                                          case rel => exact ⟨(wrap64 (x12_4 + 1)), (by first | rfl | (simp; done) | (simp [*]; done)), H', ⟨by have := HJ5.out; have := HK2.out; have := HJ24.out; have := HK4.out; omega⟩, ⟨by (with_reducible repeat (first | apply Kd.R_alloc | apply Kd.R_drewN | apply Kd.R_drew)); exact HO_6.out⟩, ⟨by (with_reducible repeat (first | apply Kd.S_alloc | apply Kd.S_drewN | apply Kd.S_drew)); exact HO_345000.out⟩, ⟨by (with_reducible repeat (first | apply Kd.R_alloc | apply Kd.R_drewN | apply Kd.R_drew)); exact HO_345002.out⟩, ⟨by (with_reducible repeat (first | apply Kd.R_alloc | apply Kd.R_drewN | apply Kd.R_drew)); exact HO_345004.out⟩, ⟨by (with_reducible repeat (first | refine blk_drewN ?_ _ | refine blk_drew ?_ | refine blk_alloc ?_ _)); exact BK344.out⟩, ⟨by repeat (first | (with_reducible first | exact HB.out | apply below_alloc | apply pw_below_drewN | apply below_drew1 | refine below_set ?_ GE344.out) | exact HB.out)⟩⟩
                                        · rw [if_neg c50] at H
                                          have c50b0 : ((rd t345 x11_2) == 2) = false := beq_eq_false_iff_ne.mpr c50
                                          have c50b1 : ((rd t345 x11_2) != 2) = true := bne_iff_ne.mpr c50
                                          exact absurd ((Option.some.inj H).trans hrt.out) (by decide)
                                      · rw [if_neg c49] at H
                                        have c49b0 : ((rd t345 (rd ((rd_T50 t329 x11_2).f0) x12_4)) == 2) = false := beq_eq_false_iff_ne.mpr c49
                                        have c49b1 : ((rd t345 (rd ((rd_T50 t329 x11_2).f0) x12_4)) != 2) = true := bne_iff_ne.mpr c49
                                        have H' := Aside0.mk H
                                        clear H
                                        have hcz53_0 : wr.cell? ⟨gb344, 0, none⟩ = some (.slice Ao10 t329.length co10) := (blk_cell BK344.out 0).trans rfl
                                        have hcz53_1 : wr.cell? ⟨gb344, 1, none⟩ = some (.int .i64 t332) := (blk_cell BK344.out 1).trans rfl
                                        have hcz53_2 : wr.cell? ⟨gb344, 2, none⟩ = some (.slice Ao13 t333.length co13) := (blk_cell BK344.out 2).trans rfl
                                        have hcz53_3 : wr.cell? ⟨gb344, 3, none⟩ = some (.int .i64 t336) := (blk_cell BK344.out 3).trans rfl
                                        have hcz53_4 : wr.cell? ⟨gb344, 4, none⟩ = some (.slice Ao14 t337.length co14) := (blk_cell BK344.out 4).trans rfl
                                        have hfz53_0 := blk_frozen BK344.out 0
                                        have hfz53_1 := blk_frozen BK344.out 1
                                        have hfz53_2 := blk_frozen BK344.out 2
                                        have hfz53_3 := blk_frozen BK344.out 3
                                        have hfz53_4 := blk_frozen BK344.out 4
                                        have p354 : 0 ≤ (x11_2 : Int) := of_decide_eq_true (by first | (with_reducible assumption) | assumption)
                                        have q354 : x11_2 < (t329.length : Int) := of_decide_eq_true (by first | (with_reducible assumption) | assumption)
                                        obtain ⟨ad354, A354_0, c354_0, e354, hx354_0, hx354_1, hx354_2, hx354_3, hl354_0, hi354_0⟩ := at_T50 (Kd.S_reads' HO_345000.out).2.2 x11_2 p354 q354
                                        cases e354
                                        obtain ⟨ce354, hce354, hMe354, hcc354⟩ := Kd.S_get HO_345000.out z50 x11_2 p354 (by first | exact q354 | exact of_decide_eq_true (by first | (with_reducible assumption) | assumption) | (have e_ := (Kd.S_reads' HO_345000.out).1; omega))
                                        obtain ⟨ve354_0, rfl, ge354_0⟩ := k50_openM hMe354
                                        have hv354_0 := hcc354 0 _ rfl
                                        rw [Nat.add_zero] at hv354_0
                                        replace hv354_0 := Option.some.inj (hv354_0.symm.trans hx354_0)
                                        rw [hv354_0] at ge354_0
                                        have HL354_0 := Aside0.mk (show Kd.R (Kd.int .i64) 3 _ _ _ _ ((rd_T50 t329 x11_2).f0) from ge354_0)
                                        clear hv354_0 ge354_0
                                        clear hcc354 hce354
                                        have HR354_0 := Aside0.mk hi354_0
                                        have HC354_0 := Aside0.mk hl354_0
                                        clear hi354_0 hl354_0
                                        replace p354 := eq_true p354
                                        replace q354 := eq_true q354
                                        have p355 : 0 ≤ (x11_2 : Int) := of_decide_eq_true (by first | (with_reducible assumption) | assumption)
                                        have q355 : x11_2 < (t329.length : Int) := of_decide_eq_true (by first | (with_reducible assumption) | assumption)
                                        obtain ⟨ad355, A355_0, c355_0, e355, hx355_0, hx355_1, hx355_2, hx355_3, hl355_0, hi355_0⟩ := at_T50 (Kd.S_reads' HO_345000.out).2.2 x11_2 p355 q355
                                        obtain rfl : ad354 = ad355 := (by injection e355)
                                        obtain ⟨ce355, hce355, hMe355, hcc355⟩ := Kd.S_get HO_345000.out z50 x11_2 p355 (by first | exact q355 | exact of_decide_eq_true (by first | (with_reducible assumption) | assumption) | (have e_ := (Kd.S_reads' HO_345000.out).1; omega))
                                        obtain ⟨ve355_0, rfl, ge355_0⟩ := k50_openM hMe355
                                        have hv355_0 := hcc355 0 _ rfl
                                        rw [Nat.add_zero] at hv355_0
                                        replace hv355_0 := Option.some.inj (hv355_0.symm.trans hx355_0)
                                        rw [hv355_0] at ge355_0
                                        have HL355_0 := Aside0.mk (show Kd.R (Kd.int .i64) 3 _ _ _ _ ((rd_T50 t329 x11_2).f0) from ge355_0)
                                        clear hv355_0 ge355_0
                                        clear hcc355 hce355
                                        have HR355_0 := Aside0.mk hi355_0
                                        have HC355_0 := Aside0.mk hl355_0
                                        clear hi355_0 hl355_0
                                        replace p355 := eq_true p355
                                        replace q355 := eq_true q355
                                        have ea_ := Option.some.inj (hx354_0.symm.trans hx355_0)
                                        injection ea_ with ea_ en_ ec_
                                        subst ea_
                                        subst ec_
                                        clear en_
                                        have p356 : 0 ≤ (x12_4 : Int) := of_decide_eq_true (by first | (with_reducible assumption) | assumption)
                                        have q356 : x12_4 < (((rd_T50 t329 x11_2).f0).length : Int) := of_decide_eq_true (by first | (with_reducible assumption) | assumption)
                                        obtain ⟨ad356, e356, hx356_0⟩ := Kd.at_int (by repeat (first | (with_reducible exact HR355_0.out) | (with_reducible refine Kd.C_alloc ?_ _) | (with_reducible refine Kd.C_drewN ?_ _) | (with_reducible refine Kd.C_drew ?_) | exact HR355_0.out)) x12_4 p356 q356
                                        cases e356
                                        replace p356 := eq_true p356
                                        replace q356 := eq_true q356
                                        have p357 : 0 ≤ ((rd ((rd_T50 t329 x11_2).f0) x12_4) : Int) := of_decide_eq_true (by first | (with_reducible assumption) | assumption)
                                        have q357 : (rd ((rd_T50 t329 x11_2).f0) x12_4) < (t345.length : Int) := of_decide_eq_true (by first | (with_reducible assumption) | assumption)
                                        obtain ⟨ad357, e357, hx357_0⟩ := Kd.at_int (Kd.R_reads' HO_6.out).2.2 (rd ((rd_T50 t329 x11_2).f0) x12_4) p357 q357
                                        cases e357
                                        replace p357 := eq_true p357
                                        replace q357 := eq_true q357
                                        have p358 : 0 ≤ (x11_2 : Int) := of_decide_eq_true (by first | (with_reducible assumption) | assumption)
                                        have q358 : x11_2 < (t345.length : Int) := of_decide_eq_true (by first | (with_reducible assumption) | assumption)
                                        obtain ⟨ad358, e358, hx358_0⟩ := Kd.at_int (Kd.R_reads' HO_6.out).2.2 x11_2 p358 q358
                                        obtain rfl : ad357 = ad358 := (by injection e358)
                                        replace p358 := eq_true p358
                                        replace q358 := eq_true q358
                                        go_wp2
                                        go_roundg k4
                                        case measure => have := HJ5.out; have := HK2.out; have := HJ24.out; have := HK4.out; omega
                                        case rel => exact ⟨(wrap64 (x12_4 + 1)), (by first | rfl | (simp; done) | (simp [*]; done)), H', ⟨by have := HJ5.out; have := HK2.out; have := HJ24.out; have := HK4.out; omega⟩, ⟨by (with_reducible repeat (first | apply Kd.R_alloc | apply Kd.R_drewN | apply Kd.R_drew)); exact HO_6.out⟩, ⟨by (with_reducible repeat (first | apply Kd.S_alloc | apply Kd.S_drewN | apply Kd.S_drew)); exact HO_345000.out⟩, ⟨by (with_reducible repeat (first | apply Kd.R_alloc | apply Kd.R_drewN | apply Kd.R_drew)); exact HO_345002.out⟩, ⟨by (with_reducible repeat (first | apply Kd.R_alloc | apply Kd.R_drewN | apply Kd.R_drew)); exact HO_345004.out⟩, ⟨by (with_reducible repeat (first | refine blk_drewN ?_ _ | refine blk_drew ?_ | refine blk_alloc ?_ _)); exact BK344.out⟩, ⟨by repeat (first | (with_reducible first | exact HB.out | apply below_alloc | apply pw_below_drewN | apply below_drew1 | refine below_set ?_ GE344.out) | exact HB.out)⟩⟩
                                  · rw [if_neg c40] at H
                                    exact absurd H (by simp)
                                · rw [if_neg c39] at H
                                  exact absurd H (by simp)
                              · rw [if_neg c38] at H
                                exact absurd H (by simp)
                            · rw [if_neg c37] at H
                              exact absurd H (by simp)
                          · rw [if_neg c36] at H
                            have c36b0 : decide (x12_4 < (((rd_T50 t329 x11_2).f0).length : Int)) = false := decide_eq_false c36
                            clear c36
                            have H' := Aside0.mk H
                            clear H
                            have hcz54_0 : wr.cell? ⟨gb344, 0, none⟩ = some (.slice Ao10 t329.length co10) := (blk_cell BK344.out 0).trans rfl
                            have hcz54_1 : wr.cell? ⟨gb344, 1, none⟩ = some (.int .i64 t332) := (blk_cell BK344.out 1).trans rfl
                            have hcz54_2 : wr.cell? ⟨gb344, 2, none⟩ = some (.slice Ao13 t333.length co13) := (blk_cell BK344.out 2).trans rfl
                            have hcz54_3 : wr.cell? ⟨gb344, 3, none⟩ = some (.int .i64 t336) := (blk_cell BK344.out 3).trans rfl
                            have hcz54_4 : wr.cell? ⟨gb344, 4, none⟩ = some (.slice Ao14 t337.length co14) := (blk_cell BK344.out 4).trans rfl
                            have hfz54_0 := blk_frozen BK344.out 0
                            have hfz54_1 := blk_frozen BK344.out 1
                            have hfz54_2 := blk_frozen BK344.out 2
                            have hfz54_3 := blk_frozen BK344.out 3
                            have hfz54_4 := blk_frozen BK344.out 4
                            have p354 : 0 ≤ (x11_2 : Int) := of_decide_eq_true (by first | (with_reducible assumption) | assumption)
                            have q354 : x11_2 < (t329.length : Int) := of_decide_eq_true (by first | (with_reducible assumption) | assumption)
                            obtain ⟨ad354, A354_0, c354_0, e354, hx354_0, hx354_1, hx354_2, hx354_3, hl354_0, hi354_0⟩ := at_T50 (Kd.S_reads' HO_345000.out).2.2 x11_2 p354 q354
                            cases e354
                            obtain ⟨ce354, hce354, hMe354, hcc354⟩ := Kd.S_get HO_345000.out z50 x11_2 p354 (by first | exact q354 | exact of_decide_eq_true (by first | (with_reducible assumption) | assumption) | (have e_ := (Kd.S_reads' HO_345000.out).1; omega))
                            obtain ⟨ve354_0, rfl, ge354_0⟩ := k50_openM hMe354
                            have hv354_0 := hcc354 0 _ rfl
                            rw [Nat.add_zero] at hv354_0
                            replace hv354_0 := Option.some.inj (hv354_0.symm.trans hx354_0)
                            rw [hv354_0] at ge354_0
                            have HL354_0 := Aside0.mk (show Kd.R (Kd.int .i64) 3 _ _ _ _ ((rd_T50 t329 x11_2).f0) from ge354_0)
                            clear hv354_0 ge354_0
                            clear hcc354 hce354
                            have HR354_0 := Aside0.mk hi354_0
                            have HC354_0 := Aside0.mk hl354_0
                            clear hi354_0 hl354_0
                            replace p354 := eq_true p354
                            replace q354 := eq_true q354
                            go_wp2
                            go_roundg k4
                            case measure => have := HJ5.out; have := HK2.out; have := HJ24.out; have := HK4.out; omega
                            case rel => exact ⟨(x10_24), (wrap64 (x11_2 + 1)), (by first | rfl | (simp; done) | (simp [*]; done)), (by first | rfl | (simp; done) | (simp [*]; done)), H', ⟨by have := HJ5.out; have := HK2.out; have := HJ24.out; have := HK4.out; omega⟩, ⟨by (with_reducible repeat (first | apply Kd.R_alloc | apply Kd.R_drewN | apply Kd.R_drew)); exact HO_6.out⟩, ⟨by (with_reducible repeat (first | apply Kd.S_alloc | apply Kd.S_drewN | apply Kd.S_drew)); exact HO_345000.out⟩, ⟨by (with_reducible repeat (first | apply Kd.R_alloc | apply Kd.R_drewN | apply Kd.R_drew)); exact HO_345002.out⟩, ⟨by (with_reducible repeat (first | apply Kd.R_alloc | apply Kd.R_drewN | apply Kd.R_drew)); exact HO_345004.out⟩, ⟨by (with_reducible repeat (first | refine blk_drewN ?_ _ | refine blk_drew ?_ | refine blk_alloc ?_ _)); exact BK344.out⟩, ⟨by repeat (first | (with_reducible first | exact HB.out | apply below_alloc | apply pw_below_drewN | apply below_drew1 | refine below_set ?_ GE344.out) | exact HB.out)⟩⟩
                        · rw [if_neg c35] at H
                          exact absurd H (by simp)
                      · rw [if_neg c34] at H
                        exact absurd H (by simp)
            · rw [if_neg c24] at H
              have c24b0 : decide (x11_2 < (t345.length : Int)) = false := decide_eq_false c24
              clear c24
              by_cases c55 : ((t349 == 1) == x10_2) = true
              · rw [if_pos c55] at H
                have c55b0 : ((t349 == 1) == x10_2) = true := c55
                (try (have c55b1 : decide ((t349 == 1) = x10_2) = true := by simpa using c55))
                (try (have c55b2 : ((t349 == 1) == x10_2) = true := by simpa using c55))
                clear c55
                replace H := Option.bind_eq_some_iff.mp H
                obtain ⟨t351, A560, H⟩ := H
                replace H : (some t351) = some r := H
                have A56 := Aside0.mk A560
                clear A560
                obtain rfl := Option.some.inj H
                obtain ⟨Ao57, co57, eo57⟩ := Kd.R_slice HO_6.out
                subst eo57
                go_wp2_with (first | (go_at_call 16; (with_reducible refine (swarflaw04_awake.calls k2  t351 _ A56.out).mono ?_); rintro e w58 ⟨rfl, hb⟩; have n0_ := Aside0.mk (Kd.R_below (by (with_reducible repeat (first | apply Kd.R_alloc | apply Kd.R_drewN | apply Kd.R_drew)); exact HO_6.out) hb); have n1_ := Aside0.mk (Kd.S_below (by (with_reducible repeat (first | apply Kd.S_alloc | apply Kd.S_drewN | apply Kd.S_drew)); exact HO_345000.out) hb); have n2_ := Aside0.mk (Kd.R_below (by (with_reducible repeat (first | apply Kd.R_alloc | apply Kd.R_drewN | apply Kd.R_drew)); exact HO_345002.out) hb); have n3_ := Aside0.mk (Kd.R_below (by (with_reducible repeat (first | apply Kd.R_alloc | apply Kd.R_drewN | apply Kd.R_drew)); exact HO_345004.out) hb); have n4_ := Aside0.mk (blk_below (g := gb344) (o := .cells #[.slice Ao10 t329.length co10, .int .i64 t332, .slice Ao13 t333.length co13, .int .i64 t336, .slice Ao14 t337.length co14] 26 (0, 0)) (by (with_reducible repeat (first | refine blk_drewN ?_ _ | refine blk_drew ?_ | refine blk_alloc ?_ _)); exact BK344.out) hb); have n5_ := Aside0.mk (below_step (by repeat (first | (with_reducible first | exact HB.out | apply below_alloc | apply pw_below_drewN | apply below_drew1 | refine below_set ?_ GE344.out) | exact HB.out)) hb); clear HO_6; clear HO_345000; clear HO_345002; clear HO_345004; clear BK344; clear HB; have HO_6 := n0_; have HO_345000 := n1_; have HO_345002 := n2_; have HO_345004 := n3_; have BK344 := n4_; have HB := n5_; clear n0_ n1_ n2_ n3_ n4_ n5_; (try clear hb); (try clear hb2); (try clear hk); (try clear hi)))
                go_ret
                exact ⟨by first | rfl | (simp [errW_none, errW_some] <;> rfl) | (simp [*, errW_none, errW_some] <;> rfl), by repeat (first | (with_reducible first | exact HB.out | apply below_alloc | apply pw_below_drewN | apply below_drew1 | refine below_set ?_ GE344.out) | exact HB.out)⟩
              · rw [if_neg c55] at H
                have c55b0 : ((t349 == 1) == x10_2) = false := by simpa using c55
                (try (have c55b1 : decide ((t349 == 1) = x10_2) = false := by simpa using c55))
                (try (have c55b2 : ((t349 == 1) == x10_2) = false := by simpa using c55))
                (try (have c55b3 : ¬ ((t349 == 1) = x10_2) := by simpa using c55))
                clear c55
                exact absurd ((Option.some.inj H).trans hrt.out) (by decide)
def swarflaw04_StripClosed.Pure : Prop := ∀ (l0 : List Int), l0.length ≤ maxLen → l0.length * 8 ≤ 140737488351232 → (∀ x ∈ l0, (Lit.int .i64 x).wf = true) → ∃ k, swarflaw04_StripClosed.f k l0 = some true
theorem swarflaw04_StripClosed.walk (P : swarflaw04_StripClosed.Pure) (a0 : Option Addr) (len0 cap0 : Nat) (z0 : List Int) (w : World) (w0 : (a0 = none ∧ len0 = 0 ∧ cap0 = 0 ∧ z0 = []) ∨ ∃ x, a0 = some x ∧ len0 ≤ cap0 ∧ cap0 ≤ maxLen ∧ z0.length = cap0 ∧ (∀ i, i < z0.length → w.cell? (x.add i) = some (.int .i64 (z0.getD i 0))) ∧ ∀ n ∈ z0, (Lit.int .i64 n).wf = true) (y0 : len0 * 8 ≤ 140737488351232) :
    Calls Try.prog 5 #[.slice a0 len0 cap0] w fun e w' => e = .returned (.bool true) ∧ Below w.heap.size w w' := by
  obtain ⟨l0, rfl, hr0, hm0, hw0, hc0⟩ := ReadsInt.ofRowC w0
  obtain ⟨k, h⟩ := P l0 hm0 y0 hw0
  refine (swarflaw04_StripClosed.calls k _ _ l0 true ⟨rfl⟩ w (Kd.C_of_reads (d := (0 : Int)) (h1 := fun _ => rfl) hr0) hc0 h).mono ?_
  rintro e w' ⟨rfl, hd⟩
  exact ⟨rfl, hd⟩
end Go.Proofs.Ytkkmfcdikkiodaa.PC4
namespace Go.Proofs.Ytkkmfcdikkiodaa.PC4
set_option linter.unusedVariables false
open Go.RowKit Go.Proofs.YtkkmfcdikkiodaaW.PrintWords Go.Proofs.YtkkmfcdikkiodaaW.PrintLast Go.Proofs.YtkkmfcdikkiodaaW.PrintMore
theorem badGo_bit (l : List S50) : ∀ i s k, (badGo i s l).testBit k = (s.testBit k || (decide (i ≤ k) && (l.getD (k - i) z50).f1)) := by
  induction l with
  | nil => intro i s k; simp [badGo, z50]
  | cons p l ih =>
    intro i s k
    rw [badGo, ih]
    by_cases h1 : i + 1 ≤ k
    · have h2 : i ≤ k := by omega
      have h3 : k - i = (k - (i + 1)) + 1 := by omega
      have hne : ¬ i = k := by omega
      rw [h3, List.getD_cons_succ]
      simp only [h1, h2, decide_true, Bool.true_and]
      cases hp : p.f1 with
      | false => simp
      | true => simp [Nat.testBit_or, Nat.testBit_two_pow, hne]
    · by_cases h2 : i = k
      · subst h2
        simp only [h1, decide_false, Bool.false_and, Bool.or_false, Nat.le_refl, decide_true, Bool.true_and, Nat.sub_self, List.getD_cons_zero]
        cases hp : p.f1 with
        | false => simp
        | true => simp [Nat.testBit_or, Nat.testBit_two_pow]
      · have h3 : ¬ i ≤ k := by omega
        simp only [h1, h3, decide_false, Bool.false_and, Bool.or_false]
        cases hp : p.f1 with
        | false => simp
        | true => simp [Nat.testBit_or, Nat.testBit_two_pow, h2]
theorem badMask_bit (parts : List S50) (k : Nat) : (badMask parts).testBit k = (parts.getD k z50).f1 := by
  unfold badMask
  rw [badGo_bit]
  simp
theorem bad_lt (parts : List S50) (h : parts.length ≤ 16) : badMask parts < 65536 := badGo_lt parts 0 0 (by omega) (by decide)
structure TruthSet (parts : List S50) (T : List Nat) : Prop where
  ne : T ≠ []
  few : parts.length ≤ 9
  pok : ∀ i, i < parts.length → PartOK i (parts.getD i z50)
  lt : ∀ s, s ∈ T → s < 65536
  ok : ∀ s, s ∈ T → ∀ i, i < parts.length → s.testBit i = true → ∀ x, x ∈ (parts.getD i z50).f0 → s.testBit x.toNat = true
def partV (T : List Nat) (i : Nat) : Int := verdictS (setsI T) (rawHas (i : Int))
def carV (parts : List S50) (T : List Nat) : Int := verdictS (setsI T) (rawAll (badMask parts : Nat))
theorem outL_getD (n : Nat) (T : List Nat) {i : Nat} (h : i < n) : (outL n T).getD i 0 = partV T i := by
  have hl : i < (outL n T).length := by rw [outL_len]; exact h
  rw [List.getD, List.getElem?_eq_getElem hl]
  simp [outL, partV]
theorem partV_cases {parts : List S50} {T : List Nat} (h : TruthSet parts T) {i : Nat} (hi : i < parts.length) :
    (partV T i = 1 ∧ ∀ s, s ∈ T → s.testBit i = true) ∨ (partV T i = 2 ∧ T ≠ [] ∧ ∀ s, s ∈ T → s.testBit i = false) ∨ (partV T i = 3 ∧ (∃ s, s ∈ T ∧ s.testBit i = true) ∧ ∃ s, s ∈ T ∧ s.testBit i = false) :=
  verdict_cases T _ (fun s => s.testBit i) (fun s hs => rawHas_eq s i (h.lt s hs) (by have := h.few; omega))
theorem carV_cases {parts : List S50} {T : List Nat} (h : TruthSet parts T) :
    (carV parts T = 1 ∧ ∀ s, s ∈ T → subM (badMask parts) s = true) ∨ (carV parts T = 2 ∧ T ≠ [] ∧ ∀ s, s ∈ T → subM (badMask parts) s = false) ∨ (carV parts T = 3 ∧ (∃ s, s ∈ T ∧ subM (badMask parts) s = true) ∧ ∃ s, s ∈ T ∧ subM (badMask parts) s = false) :=
  verdict_cases T _ (fun s => subM (badMask parts) s) (fun s hs => rawAll_eq s _ (h.lt s hs) (bad_lt parts (by have := h.few; omega)))
theorem some_truth {T : List Nat} (h : T ≠ []) : ∃ s, s ∈ T := List.exists_mem_of_ne_nil T h
theorem partV_one {parts : List S50} {T : List Nat} (h : TruthSet parts T) {i : Nat} (hi : i < parts.length) : partV T i = 1 ↔ ∀ s, s ∈ T → s.testBit i = true := by
  obtain ⟨s, hs⟩ := some_truth h.ne
  rcases partV_cases h hi with ⟨h1, h2⟩ | ⟨h1, _, h2⟩ | ⟨h1, _, t, ht, h2⟩
  · exact ⟨fun _ => h2, fun _ => h1⟩
  · refine ⟨fun e => by omega, fun e => ?_⟩
    have := e s hs
    rw [h2 s hs] at this
    cases this
  · refine ⟨fun e => by omega, fun e => ?_⟩
    have := e t ht
    rw [h2] at this
    cases this
theorem partV_two {parts : List S50} {T : List Nat} (h : TruthSet parts T) {i : Nat} (hi : i < parts.length) : partV T i = 2 ↔ ∀ s, s ∈ T → s.testBit i = false := by
  obtain ⟨s, hs⟩ := some_truth h.ne
  rcases partV_cases h hi with ⟨h1, h2⟩ | ⟨h1, _, h2⟩ | ⟨h1, ⟨t, ht, h2⟩, _⟩
  · refine ⟨fun e => by omega, fun e => ?_⟩
    have := e s hs
    rw [h2 s hs] at this
    cases this
  · exact ⟨fun _ => h2, fun _ => h1⟩
  · refine ⟨fun e => by omega, fun e => ?_⟩
    have := e t ht
    rw [h2] at this
    cases this
theorem sub_bad {parts : List S50} (s : Nat) : subM (badMask parts) s = true ↔ ∀ i, i < parts.length → (parts.getD i z50).f1 = true → s.testBit i = true := by
  rw [subM_iff]
  constructor
  · intro h i _ hb
    exact h i (by rw [badMask_bit]; exact hb)
  · intro h i hb
    rw [badMask_bit] at hb
    refine h i ?_ hb
    rcases Nat.lt_or_ge i parts.length with h1 | h1
    · exact h1
    · rw [List.getD, List.getElem?_eq_none h1] at hb
      cases hb
theorem carV_one {parts : List S50} {T : List Nat} (h : TruthSet parts T) : carV parts T = 1 ↔ ∀ i, i < parts.length → (parts.getD i z50).f1 = true → partV T i = 1 := by
  have hh : carV parts T = 1 ↔ ∀ s, s ∈ T → subM (badMask parts) s = true := by
    obtain ⟨s, hs⟩ := some_truth h.ne
    rcases carV_cases h with ⟨h1, h2⟩ | ⟨h1, _, h2⟩ | ⟨h1, _, t, ht, h2⟩
    · exact ⟨fun _ => h2, fun _ => h1⟩
    · refine ⟨fun e => by omega, fun e => ?_⟩
      have := e s hs
      rw [h2 s hs] at this
      cases this
    · refine ⟨fun e => by omega, fun e => ?_⟩
      have := e t ht
      rw [h2] at this
      cases this
  rw [hh]
  constructor
  · intro h1 i hi hb
    exact (partV_one h hi).2 (fun s hs => (sub_bad s).1 (h1 s hs) i hi hb)
  · intro h1 s hs
    exact (sub_bad s).2 (fun i hi hb => (partV_one h hi).1 (h1 i hi hb) s hs)
theorem partV_before {parts : List S50} {T : List Nat} (h : TruthSet parts T) {i : Nat} (hi : i < parts.length) {x : Int} (hx : x ∈ (parts.getD i z50).f0) : (partV T i = 1 → partV T x.toNat = 1) ∧ (partV T x.toNat = 2 → partV T i = 2) := by
  have hx2 := (h.pok i hi).lt x hx
  have hlt : x.toNat < parts.length := by omega
  refine ⟨fun h1 => (partV_one h hlt).2 (fun s hs => h.ok s hs i hi ((partV_one h hi).1 h1 s hs) x hx), fun h1 => (partV_two h hi).2 (fun s hs => ?_)⟩
  cases hb : s.testBit i with
  | false => rfl
  | true =>
    have h2 := h.ok s hs i hi hb x hx
    rw [(partV_two h hlt).1 h1 s hs] at h2
    cases h2
theorem truthSet {parts : List S50} {looks : List S61} {wrong : Int} (h9 : parts.length ≤ 9) (hp : ∀ i, i < parts.length → PartOK i (parts.getD i z50)) (hne : truthsL parts looks wrong ≠ []) : TruthSet parts (truthsL parts looks wrong) :=
  ⟨hne, h9, hp, fun s hs => by have h1 := ((mem_truths s).1 hs).1; have h2 := pow_le_512 h9; omega, fun s hs => (okM_iff hp s).1 ((mem_truths s).1 hs).2.1⟩
theorem CarGood.set {a1 a2 : Int} {parts : List S50} {swap : Int} {looks : List S61} {wrong : Int} {needs : List Int} {st : List Bool} (h : CarGood a1 a2 parts swap looks wrong needs st) (h9 : a1 ≤ 9) : TruthSet parts (truthsL parts looks wrong) :=
  truthSet (by have := h.few; omega) h.p.ok (fun e => by have := h.truth; rw [e] at this; cases this)
theorem CarGood.out {a1 a2 : Int} {parts : List S50} {swap : Int} {looks : List S61} {wrong : Int} {needs : List Int} {st : List Bool} (h : CarGood a1 a2 parts swap looks wrong needs st) (h9 : a1 ≤ 9) (h12 : a2 ≤ 12) :
    strip_Out.f parts swap looks wrong needs = some (outL parts.length (truthsL parts looks wrong), 0) := by
  unfold strip_Out.f outE
  rw [if_pos (h.fits h9 h12), if_pos (h.check h9 h12), if_neg (h.set h9).ne]
theorem CarGood.clean {a1 a2 : Int} {parts : List S50} {swap : Int} {looks : List S61} {wrong : Int} {needs : List Int} {st : List Bool} (h : CarGood a1 a2 parts swap looks wrong needs st) (h9 : a1 ≤ 9) (h12 : a2 ≤ 12) :
    strip_Clean.f parts swap looks wrong needs = some (carV parts (truthsL parts looks wrong), 0) := by
  unfold strip_Clean.f cleanE
  rw [if_pos (h.fits h9 h12), if_pos (h.check h9 h12), if_neg (h.set h9).ne]
  rfl
end Go.Proofs.Ytkkmfcdikkiodaa.PC4
namespace Go.Proofs.Ytkkmfcdikkiodaa.Pure
set_option linter.unusedVariables false
open Go.RowKit Go.Proofs.Ytkkmfcdikkiodaa.PC4 Go.Proofs.YtkkmfcdikkiodaaW.PrintWords Go.Proofs.YtkkmfcdikkiodaaW.PrintLast
section
variable (parts : List S50) (swap : Int) (looks : List S61) (wrong : Int) (needs : List Int) (out : List Int) (v : Int)
theorem closed_l1 (hl : out.length = parts.length) (h9 : parts.length ≤ 9) (i : Nat) (hi : i < parts.length) (cl : Bool) (hb : (parts.getD i z50).f0.length ≤ 9) (hlt : ∀ x, x ∈ (parts.getD i z50).f0 → 0 ≤ x ∧ x < i)
    (hv : ∀ x, x ∈ (parts.getD i z50).f0 → (out.getD i 0 = 1 → out.getD x.toNat 0 = 1) ∧ (out.getD x.toNat 0 = 2 → out.getD i 0 = 2))
    (hT : Ev (fun K => swarflaw04_StripClosed.l0 K out v cl ((i + 1 : Nat) : Int) parts swap looks wrong needs) true) (d : Nat) :
    ∀ k : Nat, k + d = (parts.getD i z50).f0.length → Ev (fun K => swarflaw04_StripClosed.l1 K out v cl (i : Int) (k : Int) parts swap looks wrong needs) true := by
  have c1 : 0 ≤ (i : Int) := by omega
  have c2 : (i : Int) < (parts.length : Int) := by omega
  have c3 : (i : Int) < (out.length : Int) := by omega
  have hrd : rd_T50 parts (i : Int) = parts.getD i z50 := by simp [rd_T50]
  have hw : wrap64 ((i : Int) + 1) = ((i + 1 : Nat) : Int) := by rw [wrap64_id (by omega) (by omega)]; omega
  generalize parts.getD i z50 = p at *
  induction d with
  | zero =>
    intro k hk
    have c4 : ¬ (k : Int) < (p.f0.length : Int) := by omega
    refine Ev.step (f := fun K => swarflaw04_StripClosed.l0 K out v cl ((i + 1 : Nat) : Int) parts swap looks wrong needs) (fun K => ?_) hT
    simp only [swarflaw04_StripClosed.l1, c1, c2, hrd, c4, if_true, if_false, hw]
  | succ d ih =>
    intro k hk
    have c4 : (k : Int) < (p.f0.length : Int) := by omega
    have c5 : 0 ≤ (k : Int) := by omega
    have hw2 : wrap64 ((k : Int) + 1) = ((k + 1 : Nat) : Int) := by rw [wrap64_id (by omega) (by omega)]; omega
    have hm : p.f0.getD k 0 ∈ p.f0 := by rw [List.getD, List.getElem?_eq_getElem (by omega)]; exact List.getElem_mem _
    have h1 := hlt _ hm
    have h2 := hv _ hm
    have hr0 : rd p.f0 (k : Int) = p.f0.getD k 0 := rd_getD _ _
    have ihk := ih (k + 1) (by omega)
    generalize p.f0.getD k 0 = x at *
    have c6 : 0 ≤ x := h1.1
    have c7 : x < (out.length : Int) := by omega
    have hr1 : rd out (i : Int) = out.getD i 0 := rd_getD _ _
    have hr2 : rd out x = out.getD x.toNat 0 := rfl
    refine Ev.step (f := fun K => swarflaw04_StripClosed.l1 K out v cl (i : Int) ((k + 1 : Nat) : Int) parts swap looks wrong needs) (fun K => ?_) ihk
    simp only [swarflaw04_StripClosed.l1, c1, c2, hrd, c3, c4, c5, hr0, c6, c7, if_true, hw2, hr1, hr2]
    by_cases e1 : out.getD i 0 = 1
    · have e2 := h2.1 e1
      simp only [e1, e2, if_true]
      rw [if_neg (by decide)]
    · by_cases e2 : out.getD x.toNat 0 = 2
      · have e3 := h2.2 e2
        simp only [e1, e2, e3, if_true, if_false]
        rw [if_neg (by decide)]
      · simp only [e1, e2, if_false]
theorem closed_l0 (hl : out.length = parts.length) (h9 : parts.length ≤ 9) (hb : ∀ i, i < parts.length → PartOK i (parts.getD i z50))
    (hv : ∀ i, i < parts.length → ∀ x, x ∈ (parts.getD i z50).f0 → (out.getD i 0 = 1 → out.getD x.toNat 0 = 1) ∧ (out.getD x.toNat 0 = 2 → out.getD i 0 = 2)) (d : Nat) :
    ∀ (i : Nat) (cl : Bool), i + d = parts.length → ((v == 1) = (cl && (List.range' i d).all fun j => !(parts.getD j z50).f1 || out.getD j 0 == 1)) →
      Ev (fun K => swarflaw04_StripClosed.l0 K out v cl (i : Int) parts swap looks wrong needs) true := by
  induction d with
  | zero =>
    intro i cl hi hc
    have c1 : ¬ (i : Int) < (out.length : Int) := by omega
    have hc2 : ((v == 1) == cl) = true := by rw [hc]; simp
    refine Ev.step (f := fun K => (swarflaw04_awake.f K).bind fun t351 => some t351) (fun K => ?_) ?_
    · simp only [swarflaw04_StripClosed.l0, c1, if_false, hc2, if_true]
    · exact Ev.bind awake_ev (Ev.now _)
  | succ d ih =>
    intro i cl hi hc
    have c1 : (i : Int) < (out.length : Int) := by omega
    have c2 : (i : Int) < (parts.length : Int) := by omega
    have c3 : 0 ≤ (i : Int) := by omega
    have hrd : rd_T50 parts (i : Int) = parts.getD i z50 := by simp [rd_T50]
    have hr1 : rd out (i : Int) = out.getD i 0 := rd_getD _ _
    have hpi := hb i (by omega)
    have key : ∀ c, (v == 1) = (c && (List.range' (i + 1) d).all fun j => !(parts.getD j z50).f1 || out.getD j 0 == 1) → Ev (fun K => swarflaw04_StripClosed.j2 K out v c (i : Int) parts swap looks wrong needs) true := by
      intro c hcc
      refine Ev.step (f := fun K => swarflaw04_StripClosed.l1 K out v c (i : Int) ((0 : Nat) : Int) parts swap looks wrong needs) (fun K => ?_) (closed_l1 parts swap looks wrong needs out v hl h9 i (by omega) c (by have := hpi.len; omega) hpi.lt (hv i (by omega)) (ih (i + 1) c (by omega) hcc) _ 0 (Nat.zero_add _))
      simp only [swarflaw04_StripClosed.j2]
      rfl
    rw [List.range'_succ, List.all_cons, ← Bool.and_assoc] at hc
    have k2 := key _ hc
    refine Ev.step (f := fun K => swarflaw04_StripClosed.j2 K out v (cl && (!(parts.getD i z50).f1 || out.getD i 0 == 1)) (i : Int) parts swap looks wrong needs) (fun K => ?_) k2
    simp only [swarflaw04_StripClosed.l0, c1, c2, c3, if_true, hrd, hr1]
    cases cl with
    | false => simp
    | true =>
      cases (parts.getD i z50).f1 with
      | false => simp
      | true => simp
end
theorem StripClosed : swarflaw04_StripClosed.Pure := by
  intro l0 h1 h2 h3
  obtain ⟨r, hev, hg⟩ := carOf_ev (feedAll l0) 9 12 (by decide) (by decide) (by decide) (by decide)
  obtain ⟨parts, swap, looks, wrong, needs, st, s'⟩ := r
  have hG : CarGood 9 12 parts swap looks wrong needs st := hg
  have ho := hG.out (by decide) (by decide)
  have hc := hG.clean (by decide) (by decide)
  have hS := hG.set (by decide)
  have h9 := hS.few
  generalize truthsL parts looks wrong = T at *
  have hlen : (outL parts.length T).length = parts.length := outL_len _ _
  have hgd : ∀ i, i < parts.length → (outL parts.length T).getD i 0 = partV T i := fun i hi => outL_getD _ _ hi
  have hmain : Ev (fun K => swarflaw04_StripClosed.l0 K (outL parts.length T) (carV parts T) true ((0 : Nat) : Int) parts swap looks wrong needs) true := by
    refine closed_l0 parts swap looks wrong needs _ _ hlen h9 hS.pok (fun i hi x hx => ?_) parts.length 0 true (by omega) ?_
    · have hx2 := (hS.pok i hi).lt x hx
      rw [hgd i hi, hgd x.toNat (by omega)]
      exact partV_before hS hi hx
    · rw [Bool.true_and, Bool.eq_iff_iff, beq_iff_eq, carV_one hS, List.all_eq_true]
      constructor
      · intro h j hj
        have hj2 : j < parts.length := by have := List.mem_range'_1.1 hj; omega
        rw [hgd j hj2]
        cases hb : (parts.getD j z50).f1 with
        | false => rfl
        | true => rw [h j hj2 hb]; rfl
      · intro h j hj hb
        have := h j (List.mem_range'_1.2 ⟨by omega, by omega⟩)
        rw [hgd j hj, hb] at this
        simpa using this
  have hl0 : l0.length ≤ 140737488351232 := by omega
  have hne : (((outL parts.length T).length : Int) != (parts.length : Int)) = false := by rw [hlen]; simp
  refine Ev.rounds ?_
  unfold swarflaw04_StripClosed.f swarfkit_FeedOf.f
  simp only [hl0, if_true, Option.bind_some]
  refine Ev.bind hev ?_
  simp only [ho, hc, Option.bind_some, if_true, hne]
  refine Ev.step (f := fun K => swarflaw04_StripClosed.l0 K (outL parts.length T) (carV parts T) true ((0 : Nat) : Int) parts swap looks wrong needs) (fun K => ?_) hmain
  simp only [swarflaw04_StripClosed.j0, Bool.false_eq_true, if_false]
  rfl
end Go.Proofs.Ytkkmfcdikkiodaa.Pure
namespace Go.Proofs.YtkkmfcdikkiodaaW.PrintWords
open Go.ChangeShapes Go.WideShapes
theorem sized_ints {H : Type} {enc : TypeId × Value → H} {P : Program} {W : World} {base : Nat} {spare : Nat → Bool} {held : Bool} {t e : TypeId} {k : IntKind} {a : Option Addr} {len cap : Nat} {d : DataW H} {ps : List MemPlace} {ts : List TypeId} {ds : List (DataW H)} {j : Nat}
    (hsz : (DataW.weightsEach P ts ds).all (· ≤ reachBytes) = true) (ht : ts[j]? = some t) (hd : ds[j]? = some d) (hu : P.underlying t = some (.slice e)) (he : P.underlying e = some (.int k)) (hc : P.cellsOf e = 1) {B : Nat} (hB : P.bytesOf e = B)
    (h : DataW.Trod enc P W base spare held t (.slice a len cap) d ps) : len * B ≤ 140737488351232 := by
  obtain ⟨fuel, hf⟩ := h
  rcases open_ints hu he hc hf with ⟨hcs, _⟩ | ⟨x, l, c, zs, hcs, _, hl, _, hz, hx, _, _⟩
  · simp [Value.cells] at hcs
    obtain ⟨rfl, rfl, rfl⟩ := hcs
    simp
  · simp [Value.cells] at hcs
    obtain ⟨rfl, rfl, rfl⟩ := hcs
    obtain ⟨hx, _⟩ := Prod.mk.inj hx
    subst hx
    have z := sized_slice hsz ht hd hu
    rw [hB] at z
    have hl2 : len ≤ zs.length := by
      rw [hz]
      split
      · exact hl
      · exact Nat.le_refl _
    have h1 : (lits (H := H) k (zs.take len)).length + (lits (H := H) k (zs.drop len)).length = zs.length := by
      simp [lits]
      omega
    rw [h1] at z
    exact Nat.le_trans (Nat.mul_le_mul_right _ hl2) z
end Go.Proofs.YtkkmfcdikkiodaaW.PrintWords
namespace Go.Proofs.Ytkkmfcdikkiodaa.stripClosed
open Go.ChangeShapes Go.WideShapes Go.ChangeAt Go.RowKit
open Go.ChangeMaps (open_string shut_string)
set_option linter.unusedVariables false
theorem own : ownKnob Try.prog.godebug = none := by kernel_rfl
theorem laidOut : laidOutB Try.prog = true := by kernel_rfl
def IsRow (k : IntKind) (w : World) (a : Option Addr) (len cap : Nat) (zs : List Int) : Prop :=
  (a = none ∧ len = 0 ∧ cap = 0 ∧ zs = []) ∨
  ∃ x, a = some x ∧ len ≤ cap ∧ cap ≤ maxLen ∧ zs.length = cap ∧ (∀ i, i < zs.length → w.cell? (x.add i) = some (.int k (zs.getD i 0))) ∧ ∀ n ∈ zs, (Lit.int k n).wf = true
set_option maxRecDepth 100000 in
theorem lifted (os : Os) (started : os.Started) (H : Type) (enc : TypeId × Value → H) :
    ReturnsInHanded {} Try.checked os 5 .any (Rows.stripClosedSpec.pre6 enc Try.prog Try.f5 Rows.stripClosedRow.domain false) (Rows.stripClosedSpec.post enc Try.prog Try.f5 false true false false) := by
  refine returnsInHanded_of_change_sized (C := Try.checked) own started (by kernel_rfl) Try.func5
    (ChangeSpec.witness6 (enc := enc) (C := Try.checked) false ⟨#[], #[.slice none 0 0], []⟩ 8 (by kernel_rfl) (by kernel_rfl) (by kernel_rfl) (by kernel_rfl)) ?_
  intro W base args ds gs before hval0 hW hcnd hsz0 _
  have hsz : (DataW.weightsEach Try.prog (Try.f5.params.toList ++ Rows.stripClosedSpec.plain.varTypes Try.prog) (ds ++ gs)).all (· ≤ reachBytes) = true := hsz0
  have hval : ∀ (j : Nat) t v, Try.f5.params[j]? = some t → args[j]? = some v → Value.okWide Try.prog W .any base t v := hval0
  have hW' := hW
  obtain ⟨p, q, hA0, hV, rfl, hfz, hnd⟩ := hW
  have hA : DataW.TrodAll enc Try.prog W 0 (fun _ => true) true Try.f5.params.toList args.toList ds p := hA0
  rw [Try.params5] at hA hval hsz
  obtain ⟨v0, vs0, d0, ds0, p0, q0, hargs, rfl, rfl, h0, r0⟩ := trodAll_cons hA
  obtain ⟨rfl, rfl, rfl⟩ := trodAll_nil r0
  obtain rfl : args = #[v0] := by cases args; simp_all
  obtain ⟨rfl, rfl⟩ := trodVars_none hV
  obtain ⟨a0, len0, cap0, rfl⟩ := okWide_slice Try.underlying24 (hval 0 24 v0 rfl rfl)
  have k0 := h0
  have lt0 : ∀ x ∈ p0, x.block < W.heap.size := by obtain ⟨m, hm⟩ := k0; exact DataW.trod_lt m _ _ _ hm
  obtain ⟨z0, w0⟩ : ∃ zs, IsRow .i64 W a0 len0 cap0 zs := by
    obtain ⟨fuel, hf⟩ := h0
    rcases open_ints Try.underlying24 Try.underlying3 (by kernel_rfl) hf with ⟨hcs, _⟩ | ⟨x, l, c, zs, hcs, _, hl, hm, hz, _, hcell, hwz⟩
    · simp [Value.cells] at hcs
      obtain ⟨rfl, rfl, rfl⟩ := hcs
      exact ⟨[], .inl ⟨rfl, rfl, rfl, rfl⟩⟩
    · simp [Value.cells] at hcs
      obtain ⟨rfl, rfl, rfl⟩ := hcs
      exact ⟨zs, .inr ⟨_, rfl, hl, hm, by simpa using hz, hcell, hwz⟩⟩
  have y0 : len0 * 8 ≤ 140737488351232 := Go.Proofs.YtkkmfcdikkiodaaW.PrintWords.sized_ints hsz (j := 0) (t := 24) rfl rfl Try.underlying24 Try.underlying3 (by kernel_rfl) (by kernel_rfl) h0
  clear hA0 hval0 hsz0 hsz
  refine (PC4.swarflaw04_StripClosed.walk Pure.StripClosed a0 len0 cap0 z0 W w0 y0).mono fun e W' ⟨he, bel⟩ => ?_
  subst he
  exact ⟨_, rfl, _, _, _, [], _, [], hW', trodAll_mk1 (shut_bool Try.underlying4 _), (trodAll_cons_mk (Below.trod laidOut (by kernel_rfl) (of_decide_eq_true (by kernel_rfl)) k0 bel lt0) trodAll_mk0), rfl, bel.frame _, fun h => by cases h⟩
theorem over : Rows.stripClosedRow.holds Try.pinned (OpenSpec.ofChange Rows.stripClosedSpec) :=
  OpenClaim.holds_of_wide 5 Try.f5 rfl rfl rfl rfl rfl rfl rfl ⟨rfl, rfl, rfl, rfl, rfl⟩ rfl rfl rfl rfl rfl (by kernel_rfl) Try.func5 (by kernel_rfl)
    (of_decide_eq_true (by kernel_rfl)) (by unfold Func.isWrapper; first | (rw [if_pos (by decide +kernel)]; kernel_rfl) | (rw [if_neg (by decide +kernel)]; exact ⟨rfl, rfl⟩))
    (fun os started H enc _ => lifted os started H enc)
theorem proved : Rows.StripClosedSaid := over
#print axioms proved
end Go.Proofs.Ytkkmfcdikkiodaa.stripClosed
namespace Go.Proofs.Ytkkmfcdikkiodaa
theorem stripClosed_holds : Rows.StripClosedSaid := stripClosed.proved
end Go.Proofs.Ytkkmfcdikkiodaa
