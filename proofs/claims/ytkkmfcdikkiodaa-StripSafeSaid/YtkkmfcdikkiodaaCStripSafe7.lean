/- No car that Crush lets go is not clean, in any truth, and none goes without its papers: for every list of numbers of the size that Go can hold. -/
import Derived.Test.YtkkmfcdikkiodaaCStripSafe6
import Derived.Test.YtkkmfcdikkiodaaCStripSafe5
import Derived.SizedLaws
import Derived.ChangeSlices
import Derived.Test.YtkkmfcdikkiodaaRows
import Derived.WalkKit
import Derived.ProofKit
import Derived.OpenShut
import Derived.ShutString
import Derived.ChangeOld
import Derived.Below
namespace Go.Proofs.Ytkkmfcdikkiodaa.PC4
set_option linter.unusedVariables false
set_option linter.unusedSimpArgs false
open Go.RowKit Go.Proofs.YtkkmfcdikkiodaaW.PrintWords Go.Proofs.YtkkmfcdikkiodaaW.PrintLast Go.Proofs.YtkkmfcdikkiodaaW.PrintMore
def goOn (p : S50) (st : List Bool) : List (List Bool) := (st ++ [false]) :: (if p.f0.all (fun x => st.getD x.toNat false) then [st ++ [true]] else [])
def stepR (p : S50) (L : List (List Bool)) : List (List Bool) := L.flatMap (goOn p)
def statesI (parts : List S50) (i : Nat) : List (List Bool) := (parts.take i).foldl (fun L p => stepR p L) [[]]
def statesR (parts : List S50) : List (List Bool) := statesI parts parts.length
theorem rdL (L : List (List Bool)) (k : Nat) : rd_L5 L (k : Int) = L.getD k [] := by simp [rd_L5]
theorem statesI_succ (parts : List S50) (i : Nat) (h : i < parts.length) : statesI parts (i + 1) = stepR (parts.getD i z50) (statesI parts i) := by
  unfold statesI
  rw [List.take_succ_eq_append_getElem h, List.foldl_append, getD_get _ _ _ h]
  rfl
theorem goOn_len (p : S50) (st : List Bool) : (goOn p st).length ≤ 2 := by
  unfold goOn
  split <;> simp
theorem stepR_len (p : S50) (L : List (List Bool)) : (stepR p L).length ≤ 2 * L.length := by
  unfold stepR
  induction L with
  | nil => simp
  | cons st L ih =>
    rw [List.flatMap_cons, List.length_append, List.length_cons]
    have := goOn_len p st
    omega
theorem stepR_take (p : S50) (L : List (List Bool)) (k : Nat) (h : k < L.length) : stepR p (L.take (k + 1)) = stepR p (L.take k) ++ goOn p (L.getD k []) := by
  unfold stepR
  rw [List.take_succ_eq_append_getElem h, List.flatMap_append, getD_get _ _ _ h]
  simp
theorem statesI_len (parts : List S50) : ∀ i, i ≤ parts.length → (statesI parts i).length ≤ 2 ^ i := by
  intro i
  induction i with
  | zero => intro _; simp [statesI]
  | succ i ih =>
    intro h
    have h1 := ih (by omega)
    have h2 := stepR_len (parts.getD i z50) (statesI parts i)
    rw [statesI_succ _ _ (by omega), Nat.pow_succ]
    omega
section
variable (parts : List S50) (swap : Int) (looks : List S61) (wrong : Int) (needs : List Int)
theorem states_l2 (L : List (List Bool)) (i : Nat) (hi : i < parts.length) (x5 : List (List Bool)) (h5 : x5.length ≤ 100000) (k : Nat) (hk : k < L.length) (hl : L.length ≤ 100000) (hst : (L.getD k []).length = i) (h1000 : i ≤ 1000) (hbl : (parts.getD i z50).f0.length ≤ 1000) (hx : ∀ x, x ∈ (parts.getD i z50).f0 → 0 ≤ x ∧ x < i)
    {r : List (List Bool)} (d : Nat) : ∀ (b : Nat) (may : Bool), b + d = (parts.getD i z50).f0.length →
      Ev (fun K => swarfref04_States.l1 K L (i : Int) (x5 ++ (((L.getD k []) ++ [false]) :: (if (may && ((parts.getD i z50).f0.drop b).all (fun x => (L.getD k []).getD x.toNat false)) = true then [(L.getD k []) ++ [true]] else []))) ((k + 1 : Nat) : Int) parts swap looks wrong needs) r →
      Ev (fun K => swarfref04_States.l2 K L (i : Int) x5 (k : Int) may (b : Int) parts swap looks wrong needs) r := by
  have hrd := rd50 parts i
  have hrl := rdL L k
  generalize parts.getD i z50 = p at *
  generalize hs : L.getD k [] = st at *
  induction d with
  | zero =>
    intro b may hb h
    rw [List.drop_of_length_le (by omega), List.all_nil, Bool.and_true] at h
    refine Ev.succ ?_
    simp (disch := omega) only [swarfref04_States.l2, if_pos, if_neg, hrd, hrl, wrapS, Option.bind_some, List.length_nil, List.nil_append, List.length_append, List.length_cons, Nat.zero_add, if_true]
    cases may with
    | true =>
      simp only [if_true] at h ⊢
      rw [List.append_assoc]
      exact h
    | false =>
      simp only [Bool.false_eq_true, if_false] at h ⊢
      exact h
  | succ d ih =>
    intro b may hb h
    rw [drop_cons_rd _ b (by omega) 0, List.all_cons, ← Bool.and_assoc] at h
    have hxk := hx _ (getD_mem p.f0 b 0 (by omega))
    have ihk := ih (b + 1) _ (by omega) h
    have hq : rdOf false st (p.f0.getD b 0) = st.getD (p.f0.getD b 0).toNat false := rfl
    refine Ev.succ ?_
    cases may with
    | false =>
      simp (disch := omega) only [swarfref04_States.l2, if_pos, hrd, hrl, wrapS, Bool.false_eq_true, if_false]
      exact ihk
    | true =>
      simp (disch := omega) only [swarfref04_States.l2, if_pos, hrd, hrl, wrapS, if_true, rd_getD, hq]
      exact ihk
theorem states_l1 (L : List (List Bool)) (i : Nat) (hi : i < parts.length) (hl : L.length ≤ 10000) (hst : ∀ st, st ∈ L → st.length = i) (h1000 : i ≤ 1000) (hbl : (parts.getD i z50).f0.length ≤ 1000) (hx : ∀ x, x ∈ (parts.getD i z50).f0 → 0 ≤ x ∧ x < i)
    {r : List (List Bool)} (hT : Ev (fun K => swarfref04_States.l0 K (stepR (parts.getD i z50) L) ((i + 1 : Nat) : Int) parts swap looks wrong needs) r) (d : Nat) : ∀ (k : Nat), k + d = L.length →
      Ev (fun K => swarfref04_States.l1 K L (i : Int) (stepR (parts.getD i z50) (L.take k)) (k : Int) parts swap looks wrong needs) r := by
  induction d with
  | zero =>
    intro k hk
    refine Ev.succ ?_
    simp (disch := omega) only [swarfref04_States.l1, if_neg, wrapS]
    rw [List.take_of_length_le (by omega)]
    exact hT
  | succ d ih =>
    intro k hk
    have ihk := ih (k + 1) (by omega)
    have hlen := stepR_len (parts.getD i z50) (L.take k)
    have htk : (L.take k).length ≤ k := List.length_take_le _ _
    refine Ev.succ ?_
    simp (disch := omega) only [swarfref04_States.l1, if_pos]
    refine states_l2 parts swap looks wrong needs L i hi _ (by omega) k (by omega) (by omega) (hst _ (getD_mem L k [] (by omega))) h1000 hbl hx _ 0 true (Nat.zero_add _) ?_
    rw [stepR_take _ _ _ (by omega)] at ihk
    exact ihk
theorem states_l0 (h9 : parts.length ≤ 9) (hp : ∀ i, i < parts.length → (parts.getD i z50).f0.length ≤ 1000 ∧ ∀ x, x ∈ (parts.getD i z50).f0 → 0 ≤ x ∧ x < i) (hst : ∀ i, i ≤ parts.length → ∀ st, st ∈ statesI parts i → st.length = i) (d : Nat) : ∀ (i : Nat), i + d = parts.length →
      Ev (fun K => swarfref04_States.l0 K (statesI parts i) (i : Int) parts swap looks wrong needs) (statesR parts) := by
  induction d with
  | zero =>
    intro i hi
    obtain rfl : i = parts.length := by omega
    refine Ev.succ ?_
    simp (disch := omega) only [swarfref04_States.l0, if_neg]
    exact Ev.now _
  | succ d ih =>
    intro i hi
    have hi2 : i < parts.length := by omega
    have ihk := ih (i + 1) (by omega)
    have hlen := statesI_len parts i (by omega)
    have hpow : 2 ^ i ≤ 2 ^ 9 := Nat.pow_le_pow_right (by decide) (by omega)
    rw [statesI_succ _ _ hi2] at ihk
    refine Ev.succ ?_
    simp (disch := omega) only [swarfref04_States.l0, if_pos]
    exact states_l1 parts swap looks wrong needs _ i hi2 (by omega) (hst i (by omega)) (by omega) (hp i hi2).1 (hp i hi2).2 ihk _ 0 (Nat.zero_add _)
end
theorem mem_stepR (p : S50) (L : List (List Bool)) (st : List Bool) : st ∈ stepR p L ↔ ∃ t, t ∈ L ∧ (st = t ++ [false] ∨ (p.f0.all (fun x => t.getD x.toNat false) = true ∧ st = t ++ [true])) := by
  unfold stepR goOn
  rw [List.mem_flatMap]
  refine exists_congr fun t => and_congr_right fun _ => ?_
  rw [List.mem_cons]
  refine or_congr Iff.rfl ?_
  cases p.f0.all (fun x => t.getD x.toNat false) <;> simp
theorem mem_statesI {parts : List S50} (hp : ∀ i, i < parts.length → ∀ x, x ∈ (parts.getD i z50).f0 → 0 ≤ x ∧ x < i) : ∀ i, i ≤ parts.length → ∀ st, st ∈ statesI parts i ↔ st.length = i ∧ ∀ j, j < i → st.getD j false = true → ∀ x, x ∈ (parts.getD j z50).f0 → st.getD x.toNat false = true := by
  intro i
  induction i with
  | zero =>
    intro _ st
    simp only [statesI, List.take_zero, List.foldl_nil, List.mem_singleton]
    constructor
    · rintro rfl; exact ⟨rfl, fun j hj => by omega⟩
    · rintro ⟨h, _⟩; exact List.eq_nil_of_length_eq_zero h
  | succ i ih =>
    intro hi st
    rw [statesI_succ _ _ (by omega), mem_stepR]
    constructor
    · rintro ⟨t, ht, h⟩
      obtain ⟨h1, h2⟩ := (ih (by omega) t).1 ht
      have key : ∀ b : Bool, (b = true → (parts.getD i z50).f0.all (fun x => t.getD x.toNat false) = true) → (t ++ [b]).length = i + 1 ∧ ∀ j, j < i + 1 → (t ++ [b]).getD j false = true → ∀ x, x ∈ (parts.getD j z50).f0 → (t ++ [b]).getD x.toNat false = true := by
        intro b hb
        refine ⟨by simp [h1], fun j hj hjb x hx => ?_⟩
        have hx2 := hp j (by omega) x hx
        rw [getD_snoc_lt _ _ _ (by omega)]
        by_cases e : j = i
        · subst e
          rw [← h1, getD_snoc_eq] at hjb
          have := hb hjb
          rw [List.all_eq_true] at this
          exact this x hx
        · rw [getD_snoc_lt _ _ _ (by omega)] at hjb
          exact h2 j (by omega) hjb x hx
      rcases h with rfl | ⟨ha, rfl⟩
      · exact key false (by simp)
      · exact key true (fun _ => ha)
    · rintro ⟨h1, h2⟩
      have hne : st ≠ [] := fun e => by rw [e] at h1; cases h1
      have hd := List.dropLast_concat_getLast hne
      generalize st.dropLast = t at hd
      generalize st.getLast hne = b at hd
      subst hd
      have hl : t.length = i := by simpa using h1
      refine ⟨t, (ih (by omega) t).2 ⟨hl, fun j hj hb x hx => ?_⟩, ?_⟩
      · have hx2 := hp j (by omega) x hx
        have := h2 j (by omega) (by rw [getD_snoc_lt _ _ _ (by omega)]; exact hb) x hx
        rwa [getD_snoc_lt _ _ _ (by omega)] at this
      · cases b with
        | false => exact .inl rfl
        | true =>
          refine .inr ⟨List.all_eq_true.2 (fun x hx => ?_), rfl⟩
          have hx2 := hp i (by omega) x hx
          have := h2 i (by omega) (by rw [← hl, getD_snoc_eq]) x hx
          rwa [getD_snoc_lt _ _ _ (by omega)] at this
def truthsR (parts : List S50) (looks : List S61) (wrong : Int) : List (List Bool) := (statesR parts).filter fun st => decide ((wrongB st looks : Int) ≤ wrong)
theorem mem_truthsR {parts : List S50} {looks : List S61} {wrong : Int} (hp : ∀ i, i < parts.length → PartOK i (parts.getD i z50)) (st : List Bool) : st ∈ truthsR parts looks wrong ↔ st.length = parts.length ∧ stM st ∈ truthsL parts looks wrong := by
  unfold truthsR statesR
  rw [List.mem_filter, mem_statesI (fun i hi => (hp i hi).lt) _ (Nat.le_refl _), mem_truths, okM_iff hp, wrongM_st, decide_eq_true_eq]
  constructor
  · rintro ⟨⟨h1, h2⟩, h3⟩
    refine ⟨h1, by rw [← h1]; exact stM_lt st, fun i hi hb x hx => ?_, h3⟩
    rw [stM_bit] at hb ⊢
    exact h2 i hi hb x hx
  · rintro ⟨h1, _, h2, h3⟩
    refine ⟨⟨h1, fun i hi hb x hx => ?_⟩, h3⟩
    have := h2 i hi (by rw [stM_bit]; exact hb) x hx
    rwa [stM_bit] at this
theorem truthsR_of {parts : List S50} {looks : List S61} {wrong : Int} (hp : ∀ i, i < parts.length → PartOK i (parts.getD i z50)) {s : Nat} (hs : s ∈ truthsL parts looks wrong) : ∃ st, st ∈ truthsR parts looks wrong ∧ stM st = s := by
  have h1 := ((mem_truths s).1 hs).1
  exact ⟨bitsTo parts.length parts.length s, (mem_truthsR hp _).2 ⟨bitsTo_len _ _ _, by rw [stM_bits h1]; exact hs⟩, stM_bits h1⟩
theorem truthsR_len (parts : List S50) (looks : List S61) (wrong : Int) (h9 : parts.length ≤ 9) : (truthsR parts looks wrong).length ≤ 512 := by
  have h1 := statesI_len parts parts.length (Nat.le_refl _)
  have h2 : 2 ^ parts.length ≤ 2 ^ 9 := Nat.pow_le_pow_right (by decide) h9
  have h3 := List.length_filter_le (fun st => decide ((wrongB st looks : Int) ≤ wrong)) (statesR parts)
  have h4 : (statesR parts).length = (statesI parts parts.length).length := rfl
  unfold truthsR
  omega
section
variable (parts : List S50) (swap : Int) (looks : List S61) (wrong : Int) (needs : List Int)
theorem states_ev (h9 : parts.length ≤ 9) (hp : ∀ i, i < parts.length → PartOK i (parts.getD i z50)) : Ev (fun K => swarfref04_States.f K parts swap looks wrong needs) (statesR parts) := by
  have h := states_l0 parts swap looks wrong needs h9 (fun i hi => ⟨by have := (hp i hi).len; omega, (hp i hi).lt⟩) (fun i hi st hs => ((mem_statesI (fun i hi => (hp i hi).lt) i hi st).1 hs).1) parts.length 0 (by omega)
  exact h
theorem truths_l0 (hll : looks.length ≤ 1000) (hlk : ∀ l, l ∈ looks → 0 ≤ l.f0 ∧ l.f0 < parts.length) (L : List (List Bool)) (hL : L.length ≤ 512) (hst : ∀ st, st ∈ L → st.length = parts.length) (d : Nat) : ∀ k : Nat, k + d = L.length →
    Ev (fun K => swarfref04_Truths.l0 K ((L.take k).filter fun st => decide ((wrongB st looks : Int) ≤ wrong)) L (k : Int) parts swap looks wrong needs) (L.filter fun st => decide ((wrongB st looks : Int) ≤ wrong)) := by
  induction d with
  | zero =>
    intro k hk
    refine Ev.succ ?_
    simp (disch := omega) only [swarfref04_Truths.l0, if_neg]
    rw [List.take_of_length_le (by omega)]
    exact Ev.now _
  | succ d ih =>
    intro k hk
    have ihk := ih (k + 1) (by omega)
    have hk2 : k < L.length := by omega
    have hs := hst _ (getD_mem L k [] hk2)
    have hwr := wrongs_ev parts swap looks wrong needs (L.getD k []) hll (by rw [hs]; exact hlk)
    have hle := List.length_filter_le (fun st => decide ((wrongB st looks : Int) ≤ wrong)) (L.take k)
    have htk : (L.take k).length ≤ k := List.length_take_le _ _
    rw [List.take_succ_eq_append_getElem hk2, List.filter_append] at ihk
    rw [← getD_get L k [] hk2] at ihk
    refine Ev.succ ?_
    simp (disch := omega) only [swarfref04_Truths.l0, if_pos, rdL, wrapS]
    refine Ev.bind hwr ?_
    by_cases hw : (wrongB (L.getD k []) looks : Int) ≤ wrong
    · simp only [hw, if_true]
      simp only [List.filter_cons, List.filter_nil, decide_eq_true hw, if_true] at ihk
      exact ihk
    · simp only [hw, if_false]
      simp only [List.filter_cons, List.filter_nil, decide_eq_false hw, Bool.false_eq_true, if_false, List.append_nil] at ihk
      exact ihk
theorem truths_ev (h9 : parts.length ≤ 9) (hp : ∀ i, i < parts.length → PartOK i (parts.getD i z50)) (hll : looks.length ≤ 1000) (hlk : ∀ l, l ∈ looks → 0 ≤ l.f0 ∧ l.f0 < parts.length) : Ev (fun K => swarfref04_Truths.f K parts swap looks wrong needs) (truthsR parts looks wrong) := by
  have h1 := statesI_len parts parts.length (Nat.le_refl _)
  have h2 : 2 ^ parts.length ≤ 2 ^ 9 := Nat.pow_le_pow_right (by decide) h9
  have h4 : (statesR parts).length = (statesI parts parts.length).length := rfl
  unfold swarfref04_Truths.f
  refine Ev.bind (states_ev parts swap looks wrong needs h9 hp) ?_
  exact truths_l0 parts swap looks wrong needs hll hlk (statesR parts) (by omega) (fun st hs => ((mem_statesI (fun i hi => (hp i hi).lt) _ (Nat.le_refl _) st).1 hs).1) (statesR parts).length 0 (by omega)
end
end Go.Proofs.Ytkkmfcdikkiodaa.PC4
namespace Go.Proofs.Ytkkmfcdikkiodaa.PC4
set_option linter.unusedVariables false
set_option linter.unusedSimpArgs false
open Go.RowKit Go.Proofs.YtkkmfcdikkiodaaW.PrintWords Go.Proofs.YtkkmfcdikkiodaaW.PrintLast
theorem among_l0 (l : List Int) (hl : l.length ≤ 100000) (x : Int) (d : Nat) : ∀ i : Nat, i + d = l.length → Ev (fun K => swarfkit_Among.l0 K l x (i : Int)) ((l.drop i).any fun y => y == x) := by
  induction d with
  | zero =>
    intro i hi
    refine Ev.succ ?_
    simp (disch := omega) only [swarfkit_Among.l0, if_neg]
    rw [List.drop_of_length_le (by omega)]
    exact Ev.now _
  | succ d ih =>
    intro i hi
    have ihk := ih (i + 1) (by omega)
    refine Ev.succ ?_
    rw [drop_cons_rd l i (by omega) 0, List.any_cons]
    simp (disch := omega) only [swarfkit_Among.l0, if_pos, rd_getD, wrapS]
    by_cases e : l.getD i 0 = x
    · simp only [e, if_true, beq_self_eq_true, Bool.true_or]
      exact Ev.now _
    · simp only [e, if_false, beq_eq_false_iff_ne.2 e, Bool.false_or]
      exact ihk
theorem among_ev (l : List Int) (hl : l.length ≤ 100000) (x : Int) : Ev (fun K => swarfkit_Among.f K l x) (l.any fun y => y == x) := among_l0 l hl x l.length 0 (by omega)
theorem order_l0 (d : Nat) : ∀ (i : Nat) (l : List Int) (s : Int), i + d = l.length → l.length ≤ 100000 → Res (fun K => swarfkit_Feed_Order.l0 K l (i : Int) s) (fun r => r.1.length = l.length) := by
  induction d with
  | zero =>
    intro i l s hi hl
    refine Res.succ ?_
    simp (disch := omega) only [swarfkit_Feed_Order.l0, if_neg]
    exact Res.now rfl
  | succ d ih =>
    intro i l s hi hl
    obtain ⟨r, s2, hb, h0, h1⟩ := below_ok s ((i + 1 : Nat) : Int) (by omega) (by omega)
    refine Res.succ ?_
    simp (disch := omega) only [swarfkit_Feed_Order.l0, if_pos, wrapS]
    refine Res.take hb ?_
    simp (disch := omega) only [if_pos, wrapS]
    refine (ih (i + 1) _ _ (by simp; omega) (by simpa using hl)).mono (fun q h => ?_)
    rw [h]; simp
theorem order_ok (s : Int) (n : Nat) (h : n ≤ 1000) : Res (fun K => swarfkit_Feed_Order.f K s (n : Int)) (fun r => r.1.length = n) := by
  have hm : mx 0 (n : Int) = n := by unfold mx; omega
  unfold swarfkit_Feed_Order.f
  simp (disch := omega) only [hm, if_pos, Int.toNat_natCast]
  refine (order_l0 n 0 (List.replicate n 0) s (by simp) (by simp; omega)).mono (fun q h => ?_)
  rw [h]; simp
theorem CarGood.setBad {a1 a2 : Int} {parts : List S50} {swap : Int} {looks : List S61} {wrong : Int} {needs : List Int} {st : List Bool} (h : CarGood a1 a2 parts swap looks wrong needs st) {i : Nat} (hi : i < parts.length) (b : Bool) :
    CarGood a1 a2 (parts.set i ⟨(parts.getD i z50).f0, b, (parts.getD i z50).f2, (parts.getD i z50).f3⟩) swap looks wrong needs st := by
  have hl : (parts.set i ⟨(parts.getD i z50).f0, b, (parts.getD i z50).f2, (parts.getD i z50).f3⟩).length = parts.length := List.length_set
  have hg : ∀ j, j < parts.length → ((parts.set i ⟨(parts.getD i z50).f0, b, (parts.getD i z50).f2, (parts.getD i z50).f3⟩).getD j z50).f0 = (parts.getD j z50).f0 ∧ ((parts.set i ⟨(parts.getD i z50).f0, b, (parts.getD i z50).f2, (parts.getD i z50).f3⟩).getD j z50).f2 = (parts.getD j z50).f2 ∧ ((parts.set i ⟨(parts.getD i z50).f0, b, (parts.getD i z50).f2, (parts.getD i z50).f3⟩).getD j z50).f3 = (parts.getD j z50).f3 := by
    intro j hj
    rw [getD_get _ _ _ (by rw [hl]; exact hj), List.getElem_set]
    by_cases e : i = j
    · subst e; simp
    · rw [if_neg e, getD_get _ _ _ hj]; exact ⟨rfl, rfl, rfl⟩
  generalize parts.set i ⟨(parts.getD i z50).f0, b, (parts.getD i z50).f2, (parts.getD i z50).f3⟩ = ps at *
  refine ⟨⟨by rw [hl]; exact h.p.len, fun j hj => ?_, fun j hj => ?_⟩, by rw [hl]; exact h.one, by rw [hl]; exact h.few, h.sw, by rw [hl]; exact h.lk, h.ll, h.wr, h.nd, h.nl⟩
  · rw [hl] at hj
    have hp := h.p.ok j hj
    obtain ⟨e1, e2, e3⟩ := hg j hj
    exact ⟨by rw [e1]; exact hp.ris, by rw [e1]; exact hp.lt, by rw [e1]; exact hp.len, by rw [e2]; exact hp.tool, by rw [e3]; exact hp.min⟩
  · rw [hl] at hj
    rw [(hg j hj).1]
    exact h.p.st j hj
section
variable (st : List Bool) (papers : List Int) {parts : List S50} {swap : Int} {looks : List S61} {wrong : Int} {needs : List Int}
theorem safe_l2 (hG : CarGood 5 12 parts swap looks wrong needs st) (cr : Int) (hs : Bool)
    (hcr : cr = if hs = true then (if (truthsR parts looks wrong).all (fun t => subM (badMask parts) (stM t)) = true then 0 else 15) else 14) (d : Nat) :
    ∀ k : Nat, k + d = (truthsR parts looks wrong).length → Ev (fun K => swarflaw04_StripSafe.l2 K st cr hs (((truthsR parts looks wrong).take k).all fun t => subM (badMask parts) (stM t)) (truthsR parts looks wrong) (k : Int) parts swap looks wrong needs) true := by
  have hfew := hG.few
  have htl := truthsR_len parts looks wrong (by omega)
  have hclean := isClean_ev parts swap looks wrong needs
  induction d with
  | zero =>
    intro k hk
    rw [List.take_of_length_le (by omega)]
    refine Ev.succ ?_
    simp (disch := omega) only [swarflaw04_StripSafe.l2, if_neg]
    cases hs with
    | false =>
      simp only [Bool.false_eq_true, if_false] at hcr ⊢
      simp only [hcr, if_true]
      exact Ev.tail awake_ev
    | true =>
      simp only [if_true] at hcr ⊢
      cases hall : (truthsR parts looks wrong).all (fun t => subM (badMask parts) (stM t)) with
      | false =>
        rw [hall] at hcr
        simp only [Bool.false_eq_true, if_false] at hcr ⊢
        simp only [hcr, if_true]
        exact Ev.tail awake_ev
      | true =>
        have hst : subM (badMask parts) (stM st) = true := (List.all_eq_true.1 hall) st ((mem_truthsR hG.p.ok st).2 ⟨hG.p.len, hG.truth⟩)
        rw [hall] at hcr
        simp only [if_true] at hcr ⊢
        simp only [hcr, if_true]
        refine Ev.bind (hclean st hG.p.len (by omega)) ?_
        simp only [hst, if_true]
        exact Ev.tail awake_ev
  | succ d ih =>
    intro k hk
    have hk2 : k < (truthsR parts looks wrong).length := by omega
    have ihk := ih (k + 1) (by omega)
    rw [List.take_succ_eq_append_getElem hk2, List.all_append, ← getD_get _ _ [] hk2] at ihk
    simp only [List.all_cons, List.all_nil, Bool.and_true] at ihk
    have hmem := (mem_truthsR hG.p.ok _).1 (getD_mem (truthsR parts looks wrong) k [] hk2)
    refine Ev.succ ?_
    simp (disch := omega) only [swarflaw04_StripSafe.l2, if_pos, rdL, wrapS]
    cases hall : ((truthsR parts looks wrong).take k).all fun t => subM (badMask parts) (stM t) with
    | false =>
      rw [hall, Bool.false_and] at ihk
      simp only [Bool.false_eq_true, if_false]
      exact ihk
    | true =>
      rw [hall, Bool.true_and] at ihk
      simp only [if_true]
      exact Ev.bind (hclean _ hmem.1 (by omega)) ihk
theorem safe_l1 (hG : CarGood 5 12 parts swap looks wrong needs st) (hp : papers.length ≤ 1000) (cr : Int)
    (hcr : cr = if (needs.all fun n => papers.any fun y => y == n) = true then (if (truthsR parts looks wrong).all (fun t => subM (badMask parts) (stM t)) = true then 0 else 15) else 14) (d : Nat) :
    ∀ k : Nat, k + d = needs.length → Ev (fun K => swarflaw04_StripSafe.l1 K st papers cr ((needs.take k).all fun n => papers.any fun y => y == n) (k : Int) parts swap looks wrong needs) true := by
  have hfew := hG.few
  have hll := hG.ll
  have hnl := hG.nl
  induction d with
  | zero =>
    intro k hk
    rw [List.take_of_length_le (by omega)]
    refine Ev.succ ?_
    simp (disch := omega) only [swarflaw04_StripSafe.l1, if_neg]
    refine Ev.bind (truths_ev parts swap looks wrong needs (by omega) hG.p.ok (by omega) hG.lk) ?_
    exact safe_l2 st hG cr _ hcr _ 0 (Nat.zero_add _)
  | succ d ih =>
    intro k hk
    have hk2 : k < needs.length := by omega
    have ihk := ih (k + 1) (by omega)
    rw [List.take_succ_eq_append_getElem hk2, List.all_append, ← getD_get _ _ 0 hk2] at ihk
    simp only [List.all_cons, List.all_nil, Bool.and_true] at ihk
    refine Ev.succ ?_
    simp (disch := omega) only [swarflaw04_StripSafe.l1, if_pos, rd_getD, wrapS]
    cases hall : (needs.take k).all fun n => papers.any fun y => y == n with
    | false =>
      rw [hall, Bool.false_and] at ihk
      simp only [Bool.false_eq_true, if_false]
      exact ihk
    | true =>
      rw [hall, Bool.true_and] at ihk
      simp only [if_true]
      exact Ev.bind (among_ev papers (by omega) _) ihk
theorem crush_val (hG : CarGood 5 12 parts swap looks wrong needs st) : crushE parts swap looks wrong needs papers = if (needs.all fun n => papers.any fun y => y == n) = true then (if (truthsR parts looks wrong).all (fun t => subM (badMask parts) (stM t)) = true then 0 else 15) else 14 := by
  have hS := hG.set (by decide)
  have hc := hG.clean (by decide) (by decide)
  unfold strip_Clean.f at hc
  rw [if_pos (hG.fits (by decide) (by decide))] at hc
  have hc2 := Option.some.inj hc
  unfold crushE
  rw [if_pos (hG.check (by decide) (by decide)), hc2]
  have hn : needs.any (needB papers) = !(needs.all fun n => papers.any fun y => y == n) := by
    rw [List.not_all_eq_any_not]
    rfl
  rw [hn]
  cases (needs.all fun n => papers.any fun y => y == n) with
  | false => rfl
  | true =>
    simp only [Bool.not_true, Bool.false_eq_true, if_false, if_true]
    have hv : carV parts (truthsL parts looks wrong) = 1 ↔ (truthsR parts looks wrong).all (fun t => subM (badMask parts) (stM t)) = true := by
      rw [List.all_eq_true]
      constructor
      · intro h t ht
        rcases carV_cases hS with ⟨_, e⟩ | ⟨e, _⟩ | ⟨e, _⟩
        · exact e _ ((mem_truthsR hG.p.ok t).1 ht).2
        · omega
        · omega
      · intro h
        have h2 : ∀ s, s ∈ truthsL parts looks wrong → subM (badMask parts) s = true := fun s hs => by
          obtain ⟨t, ht, rfl⟩ := truthsR_of hG.p.ok hs
          exact h t ht
        obtain ⟨s, hs⟩ := some_truth hS.ne
        rcases carV_cases hS with ⟨e, _⟩ | ⟨_, _, e⟩ | ⟨_, _, t, ht, e⟩
        · exact e
        · have := h2 s hs; rw [e s hs] at this; cases this
        · have := h2 t ht; rw [e] at this; cases this
    by_cases h : carV parts (truthsL parts looks wrong) = 1
    · rw [if_pos h, if_pos (hv.1 h)]
    · rw [if_neg h, if_neg (fun e => h (hv.2 e))]
end
theorem safe_l0 (st : List Bool) {swap : Int} {looks : List S61} {wrong : Int} {needs : List Int} (d : Nat) : ∀ (i : Nat) (s : Int) (parts : List S50), i + d = parts.length → CarGood 5 12 parts swap looks wrong needs st → Ev (fun K => swarflaw04_StripSafe.l0 K st (i : Int) s parts swap looks wrong needs) true := by
  induction d with
  | zero =>
    intro i s parts hi hG
    refine Ev.succ ?_
    simp (disch := omega) only [swarflaw04_StripSafe.l0, if_neg]
    obtain ⟨⟨l, s2⟩, hev, hl⟩ := order_ok s 9 (by decide)
    have hl9 : l.length = 9 := hl
    refine Ev.bind hev ?_
    obtain ⟨r, s3, hb, h0, h1⟩ := between_ok s2 0 9 (by decide) (by decide) (by decide)
    refine Ev.take hb ?_
    have htk : (l.take r.toNat).length ≤ r.toNat := List.length_take_le _ _
    have hcr : strip_Crush.f parts swap looks wrong needs (l.take r.toNat) = some (crushE parts swap looks wrong needs (l.take r.toNat)) := by
      unfold strip_Crush.f
      rw [if_pos ⟨hG.fits (by decide) (by decide), by omega⟩]
    simp (disch := omega) only [if_pos, Option.bind_some]
    refine Ev.take hcr ?_
    rw [crush_val st (l.take r.toNat) hG]
    exact safe_l1 st (l.take r.toNat) hG (by omega) _ rfl needs.length 0 (by omega)
  | succ d ih =>
    intro i s parts hi hG
    have hi2 : i < parts.length := by omega
    have hfew := hG.few
    refine Ev.succ ?_
    simp (disch := omega) only [swarflaw04_StripSafe.l0, if_pos, rd50, wrapS, Int.toNat_natCast]
    have hnext : ∀ b s2, Ev (fun K => swarflaw04_StripSafe.l0 K st ((i + 1 : Nat) : Int) s2 (parts.set i ⟨(parts.getD i z50).f0, b, (parts.getD i z50).f2, (parts.getD i z50).f3⟩) swap looks wrong needs) true :=
      fun b s2 => ih (i + 1) s2 _ (by rw [List.length_set]; omega) (hG.setBad hi2 b)
    cases hb : (parts.getD i z50).f1 with
    | true =>
      simp only [if_true]
      obtain ⟨b, s2, ho⟩ := often_ok s 2 3 (by decide) (by decide)
      refine Ev.take ho ?_
      exact hnext b s2
    | false =>
      simp only [Bool.false_eq_true, if_false]
      exact hnext false s
theorem stripSafe_pure : swarflaw04_StripSafe.Pure := by
  intro l0 h1 h2 h3
  obtain ⟨r, hev, hg⟩ := carOf_ev (feedAll l0) 5 12 (by decide) (by decide) (by decide) (by decide)
  obtain ⟨parts, swap, looks, wrong, needs, st, s'⟩ := r
  have hG : CarGood 5 12 parts swap looks wrong needs st := hg
  have hl0 : l0.length ≤ 140737488351232 := by omega
  refine Ev.rounds (r := true) ?_
  unfold swarflaw04_StripSafe.f swarfkit_FeedOf.f
  simp only [hl0, if_true, Option.bind_some]
  refine Ev.bind hev ?_
  exact safe_l0 st parts.length 0 s' parts (by omega) hG
end Go.Proofs.Ytkkmfcdikkiodaa.PC4
namespace Go.Proofs.Ytkkmfcdikkiodaa.Pure
open Go.Proofs.Ytkkmfcdikkiodaa.PC4
theorem StripSafe : swarflaw04_StripSafe.Pure := stripSafe_pure
end Go.Proofs.Ytkkmfcdikkiodaa.Pure
namespace Go.Proofs.YtkkmfcdikkiodaaW.PrintWords
open Go.ChangeShapes Go.WideShapes
theorem sized_ints {H : Type} {enc : TypeId × Value → H} {P : Program} {W : World} {base : Nat} {spare : Nat → Bool} {held : Bool} {t e : TypeId} {k : IntKind} {a : Option Addr} {len cap : Nat} {d : DataW H} {ps : List MemPlace} {ts : List TypeId} {ds : List (DataW H)} {j : Nat}
    (hsz : (DataW.weightsEach P ts ds).all (· ≤ reachBytes) = true) (ht : ts[j]? = some t) (hd : ds[j]? = some d) (hu : P.underlying t = some (.slice e)) (he : P.underlying e = some (.int k)) (hc : P.cellsOf e = 1) {B : Nat} (hB : P.bytesOf e = B)
    (h : DataW.Trod enc P W base spare held t (.slice a len cap) d ps) : len * B ≤ 140737488351232 := by
  obtain ⟨fuel, hf⟩ := h
  rcases open_ints hu he hc hf with ⟨hcs, _⟩ | ⟨x, l, c, zs, hcs, _, hl, _, hz, hx, _, _⟩
  · simp [Value.cells] at hcs
    obtain ⟨rfl, rfl, rfl⟩ := hcs
    simp
  · simp [Value.cells] at hcs
    obtain ⟨rfl, rfl, rfl⟩ := hcs
    obtain ⟨hx, _⟩ := Prod.mk.inj hx
    subst hx
    have z := sized_slice hsz ht hd hu
    rw [hB] at z
    have hl2 : len ≤ zs.length := by
      rw [hz]
      split
      · exact hl
      · exact Nat.le_refl _
    have h1 : (lits (H := H) k (zs.take len)).length + (lits (H := H) k (zs.drop len)).length = zs.length := by
      simp [lits]
      omega
    rw [h1] at z
    exact Nat.le_trans (Nat.mul_le_mul_right _ hl2) z
end Go.Proofs.YtkkmfcdikkiodaaW.PrintWords
namespace Go.Proofs.Ytkkmfcdikkiodaa.stripSafe
open Go.ChangeShapes Go.WideShapes Go.ChangeAt Go.RowKit
open Go.ChangeMaps (open_string shut_string)
set_option linter.unusedVariables false
theorem own : ownKnob Try.prog.godebug = none := by kernel_rfl
theorem laidOut : laidOutB Try.prog = true := by kernel_rfl
def IsRow (k : IntKind) (w : World) (a : Option Addr) (len cap : Nat) (zs : List Int) : Prop :=
  (a = none ∧ len = 0 ∧ cap = 0 ∧ zs = []) ∨
  ∃ x, a = some x ∧ len ≤ cap ∧ cap ≤ maxLen ∧ zs.length = cap ∧ (∀ i, i < zs.length → w.cell? (x.add i) = some (.int k (zs.getD i 0))) ∧ ∀ n ∈ zs, (Lit.int k n).wf = true
set_option maxRecDepth 100000 in
theorem lifted (os : Os) (started : os.Started) (H : Type) (enc : TypeId × Value → H) :
    ReturnsInHanded {} Try.checked os 11 .any (Rows.stripSafeSpec.pre6 enc Try.prog Try.f11 Rows.stripSafeRow.domain false) (Rows.stripSafeSpec.post enc Try.prog Try.f11 false true false false) := by
  refine returnsInHanded_of_change_sized (C := Try.checked) own started (by kernel_rfl) Try.func11
    (ChangeSpec.witness6 (enc := enc) (C := Try.checked) false ⟨#[], #[.slice none 0 0], []⟩ 8 (by kernel_rfl) (by kernel_rfl) (by kernel_rfl) (by kernel_rfl)) ?_
  intro W base args ds gs before hval0 hW hcnd hsz0 _
  have hsz : (DataW.weightsEach Try.prog (Try.f11.params.toList ++ Rows.stripSafeSpec.plain.varTypes Try.prog) (ds ++ gs)).all (· ≤ reachBytes) = true := hsz0
  have hval : ∀ (j : Nat) t v, Try.f11.params[j]? = some t → args[j]? = some v → Value.okWide Try.prog W .any base t v := hval0
  have hW' := hW
  obtain ⟨p, q, hA0, hV, rfl, hfz, hnd⟩ := hW
  have hA : DataW.TrodAll enc Try.prog W 0 (fun _ => true) true Try.f11.params.toList args.toList ds p := hA0
  rw [Try.params11] at hA hval hsz
  obtain ⟨v0, vs0, d0, ds0, p0, q0, hargs, rfl, rfl, h0, r0⟩ := trodAll_cons hA
  obtain ⟨rfl, rfl, rfl⟩ := trodAll_nil r0
  obtain rfl : args = #[v0] := by cases args; simp_all
  obtain ⟨rfl, rfl⟩ := trodVars_none hV
  obtain ⟨a0, len0, cap0, rfl⟩ := okWide_slice Try.underlying24 (hval 0 24 v0 rfl rfl)
  have k0 := h0
  have lt0 : ∀ x ∈ p0, x.block < W.heap.size := by obtain ⟨m, hm⟩ := k0; exact DataW.trod_lt m _ _ _ hm
  obtain ⟨z0, w0⟩ : ∃ zs, IsRow .i64 W a0 len0 cap0 zs := by
    obtain ⟨fuel, hf⟩ := h0
    rcases open_ints Try.underlying24 Try.underlying3 (by kernel_rfl) hf with ⟨hcs, _⟩ | ⟨x, l, c, zs, hcs, _, hl, hm, hz, _, hcell, hwz⟩
    · simp [Value.cells] at hcs
      obtain ⟨rfl, rfl, rfl⟩ := hcs
      exact ⟨[], .inl ⟨rfl, rfl, rfl, rfl⟩⟩
    · simp [Value.cells] at hcs
      obtain ⟨rfl, rfl, rfl⟩ := hcs
      exact ⟨zs, .inr ⟨_, rfl, hl, hm, by simpa using hz, hcell, hwz⟩⟩
  have y0 : len0 * 8 ≤ 140737488351232 := Go.Proofs.YtkkmfcdikkiodaaW.PrintWords.sized_ints hsz (j := 0) (t := 24) rfl rfl Try.underlying24 Try.underlying3 (by kernel_rfl) (by kernel_rfl) h0
  clear hA0 hval0 hsz0 hsz
  refine (PC4.swarflaw04_StripSafe.walk Pure.StripSafe a0 len0 cap0 z0 W w0 y0).mono fun e W' ⟨he, bel⟩ => ?_
  subst he
  exact ⟨_, rfl, _, _, _, [], _, [], hW', trodAll_mk1 (shut_bool Try.underlying4 _), (trodAll_cons_mk (Below.trod laidOut (by kernel_rfl) (of_decide_eq_true (by kernel_rfl)) k0 bel lt0) trodAll_mk0), rfl, bel.frame _, fun h => by cases h⟩
theorem over : Rows.stripSafeRow.holds Try.pinned (OpenSpec.ofChange Rows.stripSafeSpec) :=
  OpenClaim.holds_of_wide 11 Try.f11 rfl rfl rfl rfl rfl rfl rfl ⟨rfl, rfl, rfl, rfl, rfl⟩ rfl rfl rfl rfl rfl (by kernel_rfl) Try.func11 (by kernel_rfl)
    (of_decide_eq_true (by kernel_rfl)) (by unfold Func.isWrapper; first | (rw [if_pos (by decide +kernel)]; kernel_rfl) | (rw [if_neg (by decide +kernel)]; exact ⟨rfl, rfl⟩))
    (fun os started H enc _ => lifted os started H enc)
theorem proved : Rows.StripSafeSaid := over
#print axioms proved
end Go.Proofs.Ytkkmfcdikkiodaa.stripSafe
namespace Go.Proofs.Ytkkmfcdikkiodaa
theorem stripSafe_holds : Rows.StripSafeSaid := stripSafe.proved
end Go.Proofs.Ytkkmfcdikkiodaa
