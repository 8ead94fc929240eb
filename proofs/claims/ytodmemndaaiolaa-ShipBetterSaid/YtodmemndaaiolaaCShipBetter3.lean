/- Lemmas on the way to this: what is known better -/
import Derived.Test.YtodmemndaaiolaaCShipBetter2
import Derived.Test.YtodmemndaaiolaaCShipBetter1
import Derived.Outline
import Derived.RegionTactic
import Derived.BigRegion
import Derived.ChangeAlike
import Derived.Deep.DeepCutAuto
import Derived.Deep.CutRange
import Derived.WalkMore
import Derived.RowKit
import Derived.RangeFuncNested
import Derived.RangeFuncBound
import Derived.RangeFuncCalls
import Derived.RangeFuncLeaves
import Derived.Shelf.Abstract
import Derived.Shelf.RegionOpen
import Derived.OwnWalkIn
import Derived.TacticsInMore
import Derived.LoopNIn
import Derived.LoopIn
import Derived.Laws.CopyOwn
import Derived.Laws.MakeOwn
import Derived.Lib.SliceRun
import Derived.BigQuiet
import Derived.Deep.LoopGhost
import Derived.OrdersIn
import Derived.TacticsIn
namespace Go.Proofs.Ytodmemndaaiolaa.PC7
set_option linter.unusedVariables false
set_option linter.unusedSimpArgs false
open Go.RowKit Go.Proofs.YtodmemndaaiolaaW.PrintWords Go.Proofs.YtodmemndaaiolaaW.PrintLast Go.Proofs.YtodmemndaaiolaaW.PrintMore
theorem wrap64_id {n : Int} (h0 : -9223372036854775808 ≤ n) (h : n ≤ 9223372036854775807) : wrap64 n = n := IntWalk.wrap64_in n ⟨h0, h⟩
theorem wrapS {i : Nat} (h : i < 4611686018427387904) : wrap64 ((i : Int) + 1) = ((i + 1 : Nat) : Int) := by rw [wrap64_id (by omega) (by omega)]; omega
theorem wrapP {i : Nat} (h0 : 0 < i) (h : i < 4611686018427387904) : wrap64 ((i : Int) - 1) = ((i - 1 : Nat) : Int) := by rw [wrap64_id (by omega) (by omega)]; omega
theorem getD_mem {α : Type} (l : List α) (k : Nat) (d : α) (h : k < l.length) : l.getD k d ∈ l := by
  rw [List.getD, List.getElem?_eq_getElem h]; exact List.getElem_mem h
theorem getD_get {α : Type} (l : List α) (k : Nat) (d : α) (h : k < l.length) : l.getD k d = l[k] := by
  rw [List.getD, List.getElem?_eq_getElem h]; rfl
theorem getD_snoc_lt {α : Type} (l : List α) (x d : α) {i : Nat} (h : i < l.length) : (l ++ [x]).getD i d = l.getD i d := by
  rw [List.getD, List.getD, List.getElem?_append_left h]
theorem getD_snoc_eq {α : Type} (l : List α) (x d : α) : (l ++ [x]).getD l.length d = x := by
  rw [List.getD, List.getElem?_append_right (Nat.le_refl _)]; simp
def Res {α : Type} (g : Nat → Option α) (P : α → Prop) : Prop := ∃ r, Ev g r ∧ P r
theorem Ev.succ {α : Type} {g : Nat → Option α} {r : α} (h : Ev (fun k => g (k + 1)) r) : Ev g r := Ev.step (fun _ => rfl) h
theorem Res.step {α : Type} {g f : Nat → Option α} {P : α → Prop} (h : ∀ k, g (k + 1) = f k) (k : Res f P) : Res g P := by
  obtain ⟨r, h1, h2⟩ := k
  exact ⟨r, Ev.step h h1, h2⟩
theorem Res.succ {α : Type} {g : Nat → Option α} {P : α → Prop} (h : Res (fun k => g (k + 1)) P) : Res g P := Res.step (fun _ => rfl) h
theorem Res.now {α : Type} {P : α → Prop} {r : α} (hp : P r) : Res (fun _ => some r) P := ⟨r, Ev.now r, hp⟩
theorem Res.mono {α : Type} {g : Nat → Option α} {P Q : α → Prop} (h : Res g P) (k : ∀ r, P r → Q r) : Res g Q := by
  obtain ⟨r, h1, h2⟩ := h
  exact ⟨r, h1, k r h2⟩
theorem Res.bind {α β : Type} {g : Nat → Option α} {f : Nat → α → Option β} {P : β → Prop} {a : α} (h : Ev g a) (k : Res (fun n => f n a) P) : Res (fun n => (g n).bind (f n)) P := by
  obtain ⟨r, h1, h2⟩ := k
  exact ⟨r, Ev.bind h h1, h2⟩
theorem Ev.tail {α : Type} {g : Nat → Option α} {r : α} (h : Ev g r) : Ev (fun k => (g k).bind fun t => some t) r := Ev.bind h (Ev.now r)
theorem Ev.take {α β : Type} {o : Option α} {a : α} {f : Nat → α → Option β} {r : β} (h : o = some a) (k : Ev (fun n => f n a) r) : Ev (fun n => o.bind (f n)) r := by subst h; exact k
theorem Res.take {α β : Type} {o : Option α} {a : α} {f : Nat → α → Option β} {P : β → Prop} (h : o = some a) (k : Res (fun n => f n a) P) : Res (fun n => o.bind (f n)) P := by subst h; exact k
theorem u64_bd (n : Int) : 0 ≤ IntKind.u64.wrap n ∧ IntKind.u64.wrap n < 18446744073709551616 := by
  have : IntKind.u64.wrap n = n % 18446744073709551616 := by simp [IntKind.wrap, IntKind.bits, IntKind.signed]
  omega
theorem u64_id {n : Int} (h0 : 0 ≤ n) (h : n < 18446744073709551616) : IntKind.u64.wrap n = n := by
  have : IntKind.u64.wrap n = n % 18446744073709551616 := by simp [IntKind.wrap, IntKind.bits, IntKind.signed]
  omega
theorem below_ok (s n : Int) (h1 : 1 ≤ n) (h : n ≤ 1000000000) : ∃ r s', swarfkit_Feed_Below.f s n = some (r, s') ∧ 0 ≤ r ∧ r < n := by
  unfold swarfkit_Feed_Below.f
  by_cases h2 : n < 2
  · rw [if_pos h2]
    exact ⟨0, s, rfl, by omega, by omega⟩
  · rw [if_neg h2]
    unfold swarfkit_Feed_next.f
    simp only [Option.bind_some]
    rw [u64_id (by omega) (by omega), if_neg (by omega)]
    refine ⟨_, _, rfl, ?_⟩
    obtain ⟨ha, hb⟩ := u64_bd (feedN s * 2685821657736338717)
    have hm : feedM (feedN s) = IntKind.u64.wrap (feedN s * 2685821657736338717) := rfl
    rw [hm]
    generalize IntKind.u64.wrap (feedN s * 2685821657736338717) = x at *
    have hx : 0 ≤ x / 256 := by omega
    rw [Int.tmod_eq_emod_of_nonneg hx]
    have h3 := Int.emod_nonneg (x / 256) (show n ≠ 0 by omega)
    have h4 := Int.emod_lt_of_pos (x / 256) (show 0 < n by omega)
    rw [wrap64_id (by omega) (by omega)]
    exact ⟨h3, h4⟩
theorem between_ok (s lo hi : Int) (h : lo ≤ hi) (h0 : -1000 ≤ lo) (h1 : hi ≤ 1000000) : ∃ r s', swarfkit_Feed_Between.f s lo hi = some (r, s') ∧ lo ≤ r ∧ r ≤ hi := by
  obtain ⟨r, s', h2, h3, h4⟩ := below_ok s (hi - lo + 1) (by omega) (by omega)
  refine ⟨lo + r, s', ?_, by omega, by omega⟩
  unfold swarfkit_Feed_Between.f
  rw [wrap64_id (n := hi - lo) (by omega) (by omega), wrap64_id (by omega) (by omega), h2]
  simp only [Option.bind_some]
  rw [wrap64_id (by omega) (by omega)]
theorem either_ok (s : Int) (l : List Int) (h0 : l ≠ []) (h : l.length ≤ 1000) : ∃ r s', swarfkit_Feed_Either.f s l = some (r, s') ∧ r ∈ l := by
  have hl : 0 < l.length := List.length_pos_iff.2 h0
  obtain ⟨r, s', h2, h3, h4⟩ := below_ok s l.length (by omega) (by omega)
  refine ⟨rd l r, s', ?_, ?_⟩
  · unfold swarfkit_Feed_Either.f
    rw [if_neg (by omega), h2]
    simp only [Option.bind_some]
    rw [if_pos h3, if_pos h4]
  · obtain ⟨k, rfl⟩ : ∃ k : Nat, r = k := ⟨r.toNat, by omega⟩
    have hk : k < l.length := by omega
    have e : rd l (k : Int) = l.getD k 0 := by simp [rd]
    rw [e]
    exact getD_mem _ _ _ hk
theorem mn_cases (a b : Int) : (mn a b = a ∧ a ≤ b) ∨ (mn a b = b ∧ b ≤ a) := by
  unfold mn
  by_cases h : b < a
  · rw [if_pos h]; exact .inr ⟨rfl, by omega⟩
  · rw [if_neg h]; exact .inl ⟨rfl, by omega⟩
theorem range_ok (s lo hi : Int) (h : lo ≤ hi) (h0 : 0 ≤ lo) (h1 : hi ≤ 1000000) : ∃ a b s', swarfkit_Feed_Range.f s lo hi = some (a, b, s') ∧ lo ≤ a ∧ a ≤ b ∧ b ≤ hi := by
  obtain ⟨x, s1, e1, x1, x2⟩ := between_ok s lo hi h (by omega) h1
  obtain ⟨d, s2, e2, d1, d2⟩ := below_ok s1 4 (by decide) (by decide)
  obtain ⟨y, s3, e3, y1, y2⟩ := between_ok s2 x hi x2 (by omega) h1
  obtain ⟨u, hu⟩ : ∃ u, u = mn hi (wrap64 (x + d)) := ⟨_, rfl⟩
  have hw : wrap64 (x + d) = x + d := wrap64_id (by omega) (by omega)
  have hub : x ≤ u ∧ u ≤ hi := by
    rw [hu, hw]
    rcases mn_cases hi (x + d) with ⟨e, h⟩ | ⟨e, h⟩ <;> omega
  obtain ⟨z, s4, e4, hz⟩ := either_ok s3 [x, u, y] (by simp) (show 3 ≤ 1000 by decide)
  rw [hu] at e4
  refine ⟨x, z, s4, ?_, x1, ?_⟩
  · unfold swarfkit_Feed_Range.f
    refine Option.bind_eq_some_iff.2 ⟨_, e1, ?_⟩
    refine Option.bind_eq_some_iff.2 ⟨_, e2, ?_⟩
    refine Option.bind_eq_some_iff.2 ⟨_, e3, ?_⟩
    exact Option.bind_eq_some_iff.2 ⟨_, e4, rfl⟩
  · rcases List.mem_cons.1 hz with e | hz
    · omega
    rcases List.mem_cons.1 hz with e | hz
    · omega
    rcases List.mem_cons.1 hz with e | hz
    · omega
    · cases hz
structure LevsOK (T fr : Int) (l : List S62) : Prop where
  bd : ∀ i, i < l.length → 0 ≤ (l.getD i z62).f0 ∧ (l.getD i z62).f0 < fr ∧ 0 ≤ (l.getD i z62).f1.f0 ∧ (l.getD i z62).f1.f0 ≤ (l.getD i z62).f1.f1 ∧ (l.getD i z62).f1.f1 ≤ 12 + 2 * T
  up : ∀ i, i + 1 < l.length → (l.getD i z62).f0 < (l.getD (i + 1) z62).f0
  zero : 0 < l.length → (l.getD 0 z62).f0 = 0
  first : l.length = 0 → fr = 0
  lim : 0 ≤ fr ∧ fr ≤ 9 * l.length
theorem LevsOK.nil (T : Int) : LevsOK T 0 [] := ⟨fun i h => by simp at h, fun i h => by simp at h, fun h => by simp at h, fun _ => rfl, by simp⟩
theorem LevsOK.snoc {T fr : Int} {l : List S62} (h : LevsOK T fr l) {a b st : Int} (ha : 0 ≤ a) (hab : a ≤ b) (hb : b ≤ 12 + 2 * T) (h1 : 1 ≤ st) (h9 : st ≤ 9) : LevsOK T (fr + st) (l ++ [⟨fr, ⟨a, b⟩⟩]) := by
  have hl := h.lim
  refine ⟨fun i hi => ?_, fun i hi => ?_, fun _ => ?_, fun hh => by simp at hh, ?_⟩
  · rw [List.length_append, List.length_singleton] at hi
    by_cases e : i = l.length
    · subst e; rw [getD_snoc_eq]; exact ⟨hl.1, by show fr < fr + st; omega, ha, hab, hb⟩
    · rw [getD_snoc_lt _ _ _ (by omega)]
      obtain ⟨a1, a2, a3⟩ := h.bd i (by omega)
      exact ⟨a1, by omega, a3⟩
  · rw [List.length_append, List.length_singleton] at hi
    rw [getD_snoc_lt _ _ _ (by omega)]
    by_cases e : i + 1 = l.length
    · rw [e, getD_snoc_eq]; exact (h.bd i (by omega)).2.1
    · rw [getD_snoc_lt _ _ _ (by omega)]; exact h.up i (by omega)
  · by_cases e : l.length = 0
    · have e2 := getD_snoc_eq l (⟨fr, ⟨a, b⟩⟩ : S62) z62
      rw [e] at e2
      rw [e2]
      exact h.first e
    · rw [getD_snoc_lt _ _ _ (by omega)]; exact h.zero (by omega)
  · rw [List.length_append, List.length_singleton]; omega
def SillV (T : Int) (s : S59) : Prop := 0 ≤ s.f0.f0 ∧ s.f0.f0 ≤ s.f0.f1 ∧ s.f0.f1 ≤ 12 ∧ 1 ≤ s.f1.length ∧ s.f1.length ≤ 4 ∧ ∃ fr, LevsOK T fr s.f1
def HoldV (T : Int) (h : S85) : Prop := 0 ≤ h.f0 ∧ h.f0 ≤ 3 * T ∧ 0 ≤ h.f1 ∧ h.f1 < 1500 ∧ 0 ≤ h.f2 ∧ h.f2 < 1500
def LotV (T : Int) (c : S79) : Prop := 0 ≤ c.f0.f0 ∧ c.f0.f0 ≤ c.f0.f1 ∧ c.f0.f1 ≤ T ∧ 0 ≤ c.f1 ∧ c.f1 < 30
structure VoyOK (H S L : Nat) (T : Int) (light under trim : Int) (holds : List S85) (leaves : Int) (sills : List S59) (lots : List S79) : Prop where
  light : 0 ≤ light ∧ light < 9
  under : 0 ≤ under ∧ under < 4
  trim : 0 ≤ trim ∧ trim ≤ 40
  leaves : 0 ≤ leaves ∧ leaves < 9
  hn : 1 ≤ holds.length ∧ holds.length ≤ H
  ho : ∀ h, h ∈ holds → HoldV T h
  sn : sills.length ≤ S
  si : ∀ s, s ∈ sills → SillV T s
  ln : lots.length ≤ L
  lo : ∀ c, c ∈ lots → LotV T c
theorem mem_snoc {α : Type} {P : α → Prop} {l : List α} {x : α} (h : ∀ y, y ∈ l → P y) (hx : P x) : ∀ y, y ∈ l ++ [x] → P y := by
  intro y hy
  rcases List.mem_append.1 hy with hy | hy
  · exact h y hy
  · rw [List.mem_singleton.1 hy]; exact hx
abbrev VoyT := Int × Int × Int × (List (S85)) × Int × (List (S59)) × (List (S79)) × Int
theorem voy_l3 (T L U R V : Int) (holds : List S85) (sills : List S59) (hT : 0 ≤ T) (hT2 : T ≤ 1000) (P : VoyT → Prop) (M : Nat) (hM : M ≤ 1000)
    (hP : ∀ lots s, (∀ c, c ∈ lots → LotV T c) → lots.length = M → P (L, U, R, holds, V, sills, lots, s)) :
    ∀ (d : Nat) (s : Int) (lots : List S79), (∀ c, c ∈ lots → LotV T c) → lots.length + d = M → Res (fun k => swarfkit_VoyageOf.l3 k T (d : Int) s L U R holds V sills lots) P := by
  intro d
  induction d with
  | zero =>
    intro s lots hl hm
    refine Res.succ ?_
    simp (disch := omega) only [swarfkit_VoyageOf.l3, if_neg]
    exact Res.now (hP lots s hl (by omega))
  | succ d ih =>
    intro s lots hl hm
    refine Res.succ ?_
    simp (disch := omega) only [swarfkit_VoyageOf.l3, if_pos]
    obtain ⟨a, b, s1, e1, a1, a2, a3⟩ := range_ok s 0 T (by omega) (by omega) (by omega)
    obtain ⟨c, s2, e2, c1, c2⟩ := below_ok s1 30 (by decide) (by decide)
    refine Res.take e1 (Res.take e2 ?_)
    rw [wrapP (by omega) (by omega)]
    exact ih s2 _ (mem_snoc hl ⟨a1, a2, a3, c1, c2⟩) (by simp; omega)
theorem voy_l2 (T L U R V : Int) (H : Nat) (x3 : Int) (holds : List S85) (sills : List S59) (hT : 0 ≤ T) (hT2 : T ≤ 1000) (hs : sills.length ≤ 1000) (a b x13 : Int) (P : VoyT → Prop) (N : Nat) (hN : N ≤ 4)
    (hP : ∀ lv s fr, LevsOK T fr lv → lv.length = N → Res (fun k => swarfkit_VoyageOf.l1 k x3 T (wrap64 (x13 - 1)) s L U R holds V (sills ++ [⟨⟨a, b⟩, lv⟩])) P) :
    ∀ (d : Nat) (fr s : Int) (lv : List S62), LevsOK T fr lv → lv.length + d = N → Res (fun k => swarfkit_VoyageOf.l2 k x3 T x13 fr (d : Int) s L U R holds V sills a b lv) P := by
  intro d
  induction d with
  | zero =>
    intro fr s lv hl hm
    refine Res.succ ?_
    simp (disch := omega) only [swarfkit_VoyageOf.l2, if_neg, if_pos]
    exact hP lv s fr hl (by omega)
  | succ d ih =>
    intro fr s lv hl hm
    refine Res.succ ?_
    have hlim := hl.lim
    obtain ⟨c, s1, e1, c1, c2⟩ := below_ok s 12 (by decide) (by decide)
    obtain ⟨p, q, s2, e2, p1, p2, p3⟩ := range_ok s1 c (12 + 2 * T) (by omega) (by omega) (by omega)
    obtain ⟨st, s3, e3, t1, t2⟩ := between_ok s2 1 9 (by decide) (by decide) (by decide)
    have hw : wrap64 (12 + wrap64 (2 * T)) = 12 + 2 * T := by rw [wrap64_id (n := 2 * T) (by omega) (by omega)]; exact wrap64_id (by omega) (by omega)
    have hw2 : wrap64 (fr + st) = fr + st := wrap64_id (by omega) (by omega)
    simp (disch := omega) only [swarfkit_VoyageOf.l2, if_pos]
    refine Res.take e1 ?_
    dsimp only
    rw [hw]
    refine Res.take e2 (Res.take e3 ?_)
    dsimp only
    rw [wrapP (by omega) (by omega), hw2]
    exact ih (fr + st) s3 _ (hl.snoc (by omega) p2 p3 t1 t2) (by simp; omega)
theorem voy_l1 (T L U R V : Int) (holds : List S85) (x3 : Nat) (hx3 : x3 ≤ 100) (hT : 0 ≤ T) (hT2 : T ≤ 1000) (P : VoyT → Prop) (M : Nat) (hM : M ≤ 1000)
    (hP : ∀ sills lots s, (∀ c, c ∈ sills → SillV T c) → sills.length = M → (∀ c, c ∈ lots → LotV T c) → lots.length ≤ x3 → P (L, U, R, holds, V, sills, lots, s)) :
    ∀ (d : Nat) (s : Int) (sills : List S59), (∀ c, c ∈ sills → SillV T c) → sills.length + d = M → Res (fun k => swarfkit_VoyageOf.l1 k x3 T (d : Int) s L U R holds V sills) P := by
  intro d
  induction d with
  | zero =>
    intro s sills hs hm
    refine Res.succ ?_
    obtain ⟨r, s1, e1, r1, r2⟩ := below_ok s ((x3 : Int) + 1) (by omega) (by omega)
    simp (disch := omega) only [swarfkit_VoyageOf.l1, if_neg]
    rw [wrapS (by omega), show ((x3 + 1 : Nat) : Int) = (x3 : Int) + 1 by omega]
    refine Res.take e1 ?_
    obtain ⟨n, rfl⟩ := Int.eq_ofNat_of_zero_le r1
    exact voy_l3 T L U R V holds sills hT hT2 P n (by omega) (fun lots s2 hl hn => hP sills lots s2 hs (by omega) hl (by omega)) n s1 [] (fun _ h => by cases h) (by simp)
  | succ d ih =>
    intro s sills hs hm
    refine Res.succ ?_
    obtain ⟨c, s1, e1, hc⟩ := either_ok s [3, 12] (by simp) (show 2 ≤ 1000 by decide)
    have hcb : 3 ≤ c ∧ c ≤ 12 := by
      rcases List.mem_cons.1 hc with rfl | hc
      · omega
      · rw [List.mem_singleton.1 hc]; omega
    obtain ⟨a, b, s2, e2, a1, a2, a3⟩ := range_ok s1 0 c (by omega) (by omega) (by omega)
    obtain ⟨n, s3, e3, n1, n2⟩ := between_ok s2 1 4 (by decide) (by decide) (by decide)
    simp (disch := omega) only [swarfkit_VoyageOf.l1, if_pos]
    refine Res.take e1 (Res.take e2 (Res.take e3 ?_))
    dsimp only
    obtain ⟨m, rfl⟩ := Int.eq_ofNat_of_zero_le (show 0 ≤ n by omega)
    refine voy_l2 T L U R V 0 x3 holds sills hT hT2 (by omega) a b _ P m (by omega) (fun lv s4 fr hl hn => ?_) m 0 s3 [] (LevsOK.nil T) (by simp)
    rw [wrapP (by omega) (by omega)]
    exact ih s4 _ (mem_snoc hs ⟨a1, a2, by show b ≤ 12; omega, by show 1 ≤ lv.length; omega, by show lv.length ≤ 4; omega, fr, hl⟩) (by simp; omega)
theorem voy_l0 (T L U R V : Int) (x2 x3 : Nat) (hx2 : x2 ≤ 100) (hx3 : x3 ≤ 100) (hT : 1 ≤ T) (hT2 : T ≤ 1000) (P : VoyT → Prop) (M : Nat) (hM : M ≤ 1000)
    (hP : ∀ holds sills lots s, (∀ h, h ∈ holds → HoldV T h) → holds.length = M → (∀ c, c ∈ sills → SillV T c) → sills.length ≤ x2 → (∀ c, c ∈ lots → LotV T c) → lots.length ≤ x3 → P (L, U, R, holds, V, sills, lots, s)) :
    ∀ (d : Nat) (s : Int) (holds : List S85), (∀ h, h ∈ holds → HoldV T h) → holds.length + d = M → Res (fun k => swarfkit_VoyageOf.l0 k x2 x3 T (d : Int) s L U R holds V) P := by
  intro d
  induction d with
  | zero =>
    intro s holds hh hm
    refine Res.succ ?_
    obtain ⟨r, s1, e1, r1, r2⟩ := below_ok s ((x2 : Int) + 1) (by omega) (by omega)
    simp (disch := omega) only [swarfkit_VoyageOf.l0, if_neg]
    rw [wrapS (by omega), show ((x2 + 1 : Nat) : Int) = (x2 : Int) + 1 by omega]
    refine Res.take e1 ?_
    obtain ⟨n, rfl⟩ := Int.eq_ofNat_of_zero_le r1
    exact voy_l1 T L U R V holds x3 hx3 (by omega) hT2 P n (by omega) (fun sills lots s2 hs hn hl hln => hP holds sills lots s2 hh (by omega) hs (by omega) hl hln) n s1 [] (fun _ h => by cases h) (by simp)
  | succ d ih =>
    intro s holds hh hm
    refine Res.succ ?_
    have hw : wrap64 (3 * T) = 3 * T := wrap64_id (by omega) (by omega)
    obtain ⟨c, s1, e1, c1, c2⟩ := below_ok s (3 * T) (by omega) (by omega)
    obtain ⟨r, s2, e2, hr⟩ := either_ok s1 [T, 3 * T, c] (by simp) (show 3 ≤ 1000 by decide)
    have hrb : 0 ≤ r ∧ r ≤ 3 * T := by
      rcases List.mem_cons.1 hr with rfl | hr
      · omega
      rcases List.mem_cons.1 hr with rfl | hr
      · omega
      · rw [List.mem_singleton.1 hr]; omega
    obtain ⟨p, s3, e3, p1, p2⟩ := below_ok s2 1500 (by decide) (by decide)
    obtain ⟨q, s4, e4, q1, q2⟩ := below_ok s3 1500 (by decide) (by decide)
    simp (disch := omega) only [swarfkit_VoyageOf.l0, if_pos, hw]
    refine Res.take e1 (Res.take e2 (Res.take e3 (Res.take e4 ?_)))
    dsimp only
    rw [wrapP (by omega) (by omega)]
    exact ih s4 _ (mem_snoc hh ⟨hrb.1, hrb.2, p1, p2, q1, q2⟩) (by simp; omega)
theorem voyageOf_res (s : Int) (H S L : Nat) (T : Int) (hH : 1 ≤ H) (hH2 : H ≤ 100) (hS : S ≤ 100) (hL : L ≤ 100) (hT : 1 ≤ T) (hT2 : T ≤ 1000) :
    Res (fun k => swarfkit_VoyageOf.f k s H S L T) (fun r => VoyOK H S L T r.1 r.2.1 r.2.2.1 r.2.2.2.1 r.2.2.2.2.1 r.2.2.2.2.2.1 r.2.2.2.2.2.2.1) := by
  obtain ⟨a, s1, e1, a1, a2⟩ := below_ok s 9 (by decide) (by decide)
  obtain ⟨b, s2, e2, b1, b2⟩ := below_ok s1 4 (by decide) (by decide)
  obtain ⟨c, s3, e3, c1, c2⟩ := below_ok s2 9 (by decide) (by decide)
  obtain ⟨d, s4, e4, hd⟩ := either_ok s3 [c, 40] (by simp) (show 2 ≤ 1000 by decide)
  have hdb : 0 ≤ d ∧ d ≤ 40 := by
    rcases List.mem_cons.1 hd with rfl | hd
    · omega
    · rw [List.mem_singleton.1 hd]; omega
  obtain ⟨e, s5, e5, l1, l2⟩ := below_ok s4 9 (by decide) (by decide)
  obtain ⟨n, s6, e6, n1, n2⟩ := between_ok s5 1 (H : Int) (by omega) (by decide) (by omega)
  unfold swarfkit_VoyageOf.f
  refine Res.take e1 (Res.take e2 (Res.take e3 (Res.take e4 (Res.take e5 (Res.take e6 ?_)))))
  dsimp only
  obtain ⟨m, rfl⟩ := Int.eq_ofNat_of_zero_le (show 0 ≤ n by omega)
  exact voy_l0 T a b d e S L hS hL hT hT2 _ m (by omega) (fun holds sills lots s7 h1 h2 h3 h4 h5 h6 => ⟨⟨a1, a2⟩, ⟨b1, b2⟩, hdb, ⟨l1, l2⟩, ⟨by show 1 ≤ holds.length; omega, by show holds.length ≤ H; omega⟩, h1, h4, h3, h6, h5⟩) m s6 [] (fun _ h => by cases h) (by simp)
theorem rd62 (l : List S62) (k : Nat) : rd_T62 l (k : Int) = l.getD k z62 := by simp [rd_T62]
theorem rd59 (l : List S59) (k : Nat) : rd_T59 l (k : Int) = l.getD k z59 := by simp [rd_T59]
theorem rd85 (l : List S85) (k : Nat) : rd_T85 l (k : Int) = l.getD k z85 := by simp [rd_T85]
theorem rd79 (l : List S79) (k : Nat) : rd_T79 l (k : Int) = l.getD k z79 := by simp [rd_T79]
theorem rdI (l : List Int) (k : Nat) : rd l (k : Int) = l.getD k 0 := by simp [rd]
theorem in_t {a lo hi : Int} (h1 : lo ≤ a) (h2 : a ≤ hi) : ship_in.f a lo hi = some true := by
  unfold ship_in.f; rw [if_pos h1, decide_eq_true h2]
theorem many_ok {n : Nat} {m : Int} (h1 : 1 ≤ n) (h2 : (n : Int) ≤ m) : ship_many.f (n : Int) m = some 0 := by
  unfold ship_many.f; rw [if_neg (by omega), if_neg (by omega)]
theorem checkRange_ev {a b hi : Int} (h0 : 0 ≤ a) (h1 : a ≤ b) (h2 : b ≤ hi) : Ev (fun k => ship_checkRange.f k a b hi) 0 := by
  unfold ship_checkRange.f
  refine Ev.take (in_t h0 (by omega)) ?_
  simp only [if_true]
  refine Ev.take (in_t (by omega) h2) ?_
  refine Ev.succ ?_
  simp (disch := omega) only [ship_checkRange.j0, Bool.not_true, Bool.false_eq_true, if_false, if_neg]
  exact Ev.now _
theorem checkSill_l0 (l : List S62) (p q : Int) (hl : l.length ≤ 1000) (hb : ∀ i, i < l.length → 0 ≤ (l.getD i z62).f0 ∧ (l.getD i z62).f0 ≤ 2880 ∧ 0 ≤ (l.getD i z62).f1.f0 ∧ (l.getD i z62).f1.f0 ≤ (l.getD i z62).f1.f1 ∧ (l.getD i z62).f1.f1 ≤ 10000)
    (hu : ∀ i, i + 1 < l.length → (l.getD i z62).f0 < (l.getD (i + 1) z62).f0) (hz : 0 < l.length → (l.getD 0 z62).f0 = 0) (d : Nat) :
    ∀ i : Nat, i + d = l.length → Ev (fun k => ship_checkSill.l0 k l (l.length : Int) (i : Int) p q l) 0 := by
  induction d with
  | zero =>
    intro i hi
    refine Ev.succ ?_
    simp (disch := omega) only [ship_checkSill.l0, if_neg]
    exact Ev.now _
  | succ d ih =>
    intro i hi
    obtain ⟨b1, b2, b3, b4, b5⟩ := hb i (by omega)
    have ihk := ih (i + 1) (by omega)
    have hend : ∀ {b : Bool}, b = false → Ev (fun k => ship_checkSill.j2 k l (l.length : Int) (i : Int) b p q l (l.getD i z62).f0 (l.getD i z62).f1.f0 (l.getD i z62).f1.f1) 0 := by
      rintro b rfl
      refine Ev.succ ?_
      simp only [ship_checkSill.j2, Bool.false_eq_true, if_false]
      refine Ev.bind (checkRange_ev b3 b4 b5) ?_
      simp only [if_true]
      rw [wrapS (by omega)]
      exact ihk
    have hj1 : ∀ {b : Bool}, b = false → Ev (fun k => ship_checkSill.j1 k (i : Int) l (l.length : Int) (i : Int) b p q l (l.getD i z62).f0 (l.getD i z62).f1.f0 (l.getD i z62).f1.f1) 0 := by
      rintro b rfl
      refine Ev.succ ?_
      simp only [ship_checkSill.j1, Bool.false_eq_true, if_false]
      cases i with
      | zero =>
        simp (disch := omega) only [if_neg]
        exact hend rfl
      | succ i =>
        have hup := hu i (by omega)
        simp (disch := omega) only [if_pos, wrapP, Nat.add_sub_cancel, rd62]
        exact hend (decide_eq_false (by omega))
    refine Ev.succ ?_
    simp (disch := omega) only [ship_checkSill.l0, if_pos, rd62]
    refine Ev.take (in_t b1 b2) ?_
    simp only [if_true]
    cases i with
    | zero =>
      simp (disch := omega) only [if_pos]
      refine hj1 ?_
      rw [hz (by omega)]; rfl
    | succ i =>
      simp (disch := omega) only [if_neg]
      exact hj1 rfl
theorem checkSill_ev {T : Int} {s : S59} (h : SillV T s) (hT : T ≤ 1000) : Ev (fun k => ship_checkSill.f k s.f0.f0 s.f0.f1 s.f1) 0 := by
  obtain ⟨h1, h2, h3, h4, h5, fr, hl⟩ := h
  unfold ship_checkSill.f
  refine Ev.bind (checkRange_ev h1 h2 (by omega)) ?_
  simp only [if_true]
  refine Ev.take (many_ok h4 (by omega)) ?_
  simp only [if_true]
  have hlim := hl.lim
  exact checkSill_l0 s.f1 _ _ (by omega) (fun i hi => by obtain ⟨a, b, c, d, e⟩ := hl.bd i hi; exact ⟨a, by omega, c, d, by omega⟩) hl.up hl.zero s.f1.length 0 (by omega)
theorem check_l2 {T : Int} (lots : List S79) (hl : lots.length ≤ 1000) (ho : ∀ c, c ∈ lots → LotV T c) (hT : T ≤ 1000) (d : Nat) : ∀ i : Nat, i + d = lots.length → Ev (fun k => ship_Check.l2 k lots (lots.length : Int) (i : Int)) 0 := by
  induction d with
  | zero =>
    intro i hi
    refine Ev.succ ?_
    simp (disch := omega) only [ship_Check.l2, if_neg]
    exact Ev.now _
  | succ d ih =>
    intro i hi
    obtain ⟨b1, b2, b3, b4, b5⟩ := ho _ (getD_mem lots i z79 (by omega))
    refine Ev.succ ?_
    simp (disch := omega) only [ship_Check.l2, if_pos, rd79]
    refine Ev.bind (checkRange_ev b1 b2 (by omega)) ?_
    simp only [if_true]
    refine Ev.take (in_t b4 (by omega)) ?_
    simp only [if_true]
    rw [wrapS (by omega)]
    exact ih (i + 1) (by omega)
theorem check_l1 {T : Int} (L U R V : Int) (holds : List S85) (sills : List S59) (lots : List S79) (hs : sills.length ≤ 1000) (si : ∀ s, s ∈ sills → SillV T s) (hl : lots.length ≤ 6) (ho : ∀ c, c ∈ lots → LotV T c) (hT : T ≤ 1000) (d : Nat) :
    ∀ i : Nat, i + d = sills.length → Ev (fun k => ship_Check.l1 k sills (sills.length : Int) (i : Int) L U R holds V sills lots) 0 := by
  induction d with
  | zero =>
    intro i hi
    refine Ev.succ ?_
    simp (disch := omega) only [ship_Check.l1, if_neg]
    exact check_l2 lots (by omega) ho hT lots.length 0 (by omega)
  | succ d ih =>
    intro i hi
    refine Ev.succ ?_
    simp (disch := omega) only [ship_Check.l1, if_pos, rd59]
    refine Ev.bind (checkSill_ev (si _ (getD_mem sills i z59 (by omega))) hT) ?_
    simp only [if_true]
    rw [wrapS (by omega)]
    exact ih (i + 1) (by omega)
theorem check_l0 {T : Int} (L U R V : Int) (holds : List S85) (sills : List S59) (lots : List S79) (hh : holds.length ≤ 1000) (hd : ∀ h, h ∈ holds → HoldV T h) (hV : 0 ≤ V ∧ V ≤ 2880) (hs : sills.length ≤ 4) (si : ∀ s, s ∈ sills → SillV T s) (hl : lots.length ≤ 6) (ho : ∀ c, c ∈ lots → LotV T c) (hT : T ≤ 1000) (d : Nat) :
    ∀ i : Nat, i + d = holds.length → Ev (fun k => ship_Check.l0 k holds (holds.length : Int) (i : Int) L U R holds V sills lots) 0 := by
  induction d with
  | zero =>
    intro i hi
    refine Ev.succ ?_
    simp (disch := omega) only [ship_Check.l0, if_neg]
    refine Ev.take (in_t hV.1 hV.2) ?_
    simp only [if_true]
    exact check_l1 L U R V holds sills lots (by omega) si hl ho hT sills.length 0 (by omega)
  | succ d ih =>
    intro i hi
    obtain ⟨b1, b2, b3, b4, b5, b6⟩ := hd _ (getD_mem holds i z85 (by omega))
    refine Ev.succ ?_
    simp (disch := omega) only [ship_Check.l0, if_pos, rd85]
    refine Ev.take (in_t b1 (by omega)) ?_
    simp only [if_true]
    refine Ev.take (in_t b3 (by omega)) ?_
    simp only [if_true]
    refine Ev.take (in_t b5 (by omega)) ?_
    simp only [if_true]
    rw [wrapS (by omega)]
    exact ih (i + 1) (by omega)
theorem check_ev {H S L' : Nat} {T L U R V : Int} {holds : List S85} {sills : List S59} {lots : List S79} (h : VoyOK H S L' T L U R holds V sills lots) (hH : H ≤ 3) (hS : S ≤ 4) (hL : L' ≤ 6) (hT : T ≤ 1000) :
    Ev (fun k => ship_Check.f k L U R holds V sills lots) 0 := by
  have h1 := h.light; have h2 := h.under; have h3 := h.trim; have h4 := h.leaves; have h5 := h.hn; have h6 := h.sn; have h7 := h.ln
  unfold ship_Check.f
  refine Ev.take (in_t h1.1 (by omega)) ?_
  simp only [if_true]
  refine Ev.take (in_t h2.1 (by omega)) ?_
  simp only [if_true]
  refine Ev.take (in_t h3.1 (by omega)) ?_
  refine Ev.succ ?_
  simp only [ship_Check.j0, Bool.not_true, Bool.false_eq_true, if_false]
  refine Ev.take (many_ok h5.1 (by omega)) ?_
  simp only [if_true]
  exact check_l0 L U R V holds sills lots (by omega) h.ho ⟨h4.1, by omega⟩ (by omega) h.si (by omega) h.lo hT holds.length 0 (by omega)
def used (lots : List S79) (h : Int) : Nat → List Int → Int
  | _, [] => 0
  | i, a :: t => (if a = h then (lots.getD i z79).f0.f1 else 0) + used lots h (i + 1) t
theorem used_snoc (lots : List S79) (h a : Int) : ∀ (l : List Int) (i : Nat), used lots h i (l ++ [a]) = used lots h i l + if a = h then (lots.getD (i + l.length) z79).f0.f1 else 0
  | [], i => by simp [used]
  | x :: l, i => by
    simp only [List.cons_append, used, used_snoc lots h a l (i + 1), List.length_cons]
    rw [show i + 1 + l.length = i + (l.length + 1) by omega]
    omega
structure StowOK (holds : List S85) (lots : List S79) (s : List Int) : Prop where
  len : s.length = lots.length
  rg : ∀ y, y ∈ s → -1 ≤ y ∧ y < (holds.length : Int)
  room : ∀ h : Nat, h < holds.length → used lots h 0 s ≤ (holds.getD h z85).f0
end Go.Proofs.Ytodmemndaaiolaa.PC7
namespace Go.Proofs.Ytodmemndaaiolaa.PC7
open Go.RowKit Go.Proofs.YtodmemndaaiolaaW.PrintWords Go.Proofs.YtodmemndaaiolaaW.PrintLast Go.Proofs.YtodmemndaaiolaaW.PrintMore
attribute [local go_sem] max2_int min2_int max_two min_two max_three min_three max_four min_four
set_option linter.unusedVariables false
set_option linter.unusedSimpArgs false
mutual
def swarfkit_StowageOf.l0 : Nat → List Int → List Int → Int → Int → Int → Int → Int → List (S85) → Int → List (S59) → List (S79) → Option (List Int × Int)
 | 0, _, _, _, _, _, _, _, _, _, _, _ => none
 | k + 1, x5, x6, x7, x1000, x363000, x363001, x363002, x363003, x363004, x363005, x363006 => if x7 < (x363006.length : Int) then ((swarfkit_Feed_Between.f x1000 (-1) (wrap64 ((x363003.length : Int) - 1))).bind fun bt366 => (if bt366.1 ≥ 0 then (if 0 ≤ bt366.1 then (if bt366.1 < (x6.length : Int) then (if 0 ≤ x7 then (if bt366.1 < (x363003.length : Int) then (swarfkit_StowageOf.j1 k x5 x6 x7 bt366.1 (decide ((wrap64 ((rd x6 bt366.1) + ((rd_T79 x363006 x7).f0.f1))) > ((rd_T85 x363003 bt366.1).f0))) bt366.2 x363000 x363001 x363002 x363003 x363004 x363005 x363006) else (none)) else (none)) else (none)) else (none)) else (swarfkit_StowageOf.j1 k x5 x6 x7 bt366.1 false bt366.2 x363000 x363001 x363002 x363003 x363004 x363005 x363006))) else (some (x5, x1000))
def swarfkit_StowageOf.j1 : Nat → List Int → List Int → Int → Int → Bool → Int → Int → Int → Int → List (S85) → Int → List (S59) → List (S79) → Option (List Int × Int)
 | 0, _, _, _, _, _, _, _, _, _, _, _, _, _ => none
 | k + 1, x5, x6, x7, x8, x48, x1000, x363000, x363001, x363002, x363003, x363004, x363005, x363006 => if x48 = true then (if (-1) ≥ 0 then (if 0 ≤ (-1) then (if (-1) < (x6.length : Int) then (if 0 ≤ x7 then (if x7 < (x363006.length : Int) then (if x5.length < 17592186044416 then (swarfkit_StowageOf.l0 k (x5 ++ [(-1)]) (x6.set ((-1) : Int).toNat (wrap64 ((rd x6 (-1)) + ((rd_T79 x363006 x7).f0.f1)))) (wrap64 (x7 + 1)) x1000 x363000 x363001 x363002 x363003 x363004 x363005 x363006) else (none)) else (none)) else (none)) else (none)) else (none)) else (if x5.length < 17592186044416 then (swarfkit_StowageOf.l0 k (x5 ++ [(-1)]) x6 (wrap64 (x7 + 1)) x1000 x363000 x363001 x363002 x363003 x363004 x363005 x363006) else (none))) else (if x8 ≥ 0 then (if 0 ≤ x8 then (if x8 < (x6.length : Int) then (if 0 ≤ x7 then (if x7 < (x363006.length : Int) then (if x5.length < 17592186044416 then (swarfkit_StowageOf.l0 k (x5 ++ [x8]) (x6.set (x8 : Int).toNat (wrap64 ((rd x6 x8) + ((rd_T79 x363006 x7).f0.f1)))) (wrap64 (x7 + 1)) x1000 x363000 x363001 x363002 x363003 x363004 x363005 x363006) else (none)) else (none)) else (none)) else (none)) else (none)) else (if x5.length < 17592186044416 then (swarfkit_StowageOf.l0 k (x5 ++ [x8]) x6 (wrap64 (x7 + 1)) x1000 x363000 x363001 x363002 x363003 x363004 x363005 x363006) else (none)))
end
def swarfkit_StowageOf.f (k : Nat) (s0_0 : Int) (a1_0 : Int) (a1_1 : Int) (a1_2 : Int) (l1_3 : List (S85)) (a1_4 : Int) (l1_5 : List (S59)) (l1_6 : List (S79)) : Option (List Int × Int) := if 0 ≤ (l1_3.length : Int) then (if ((l1_3.length : Int) : Int).toNat ≤ 35184372088832 then (swarfkit_StowageOf.l0 k ([] : List Int) (List.replicate ((l1_3.length : Int) : Int).toNat 0) 0 s0_0 a1_0 a1_1 a1_2 l1_3 a1_4 l1_5 l1_6) else (none)) else (none)
def swarfkit_StowageOf.T7 : Bool × List (List Nat × List Nat) := (true, [([], []), ([0], [0]), ([1], [1]), ([2], [2]), ([2], [2]), ([3, 4, 2], [2, 3, 4]), ([5, 2], [2, 5]), ([2], [2]), ([7, 2], [2, 7]), ([2], [2]), ([8, 9, 2], [2, 8, 9]), ([10, 2], [2, 10]), ([11, 2], [2, 11]), ([12, 2], [2, 12]), ([6, 13, 2], [2, 6, 13]), ([2], [2]), ([15, 2], [2, 15]), ([2], [2]), ([16, 17, 2], [2, 16, 17]), ([18, 2], [2, 18]), ([19, 2], [2, 19]), ([14, 20, 2], [2, 14, 20]), ([2, 21], [2, 21])])
def swarfkit_StowageOf.B7 : List Nat := [0, 1, 3, 7, 7, 31, 63, 7, 135, 7, 903, 1927, 3975, 8071, 16383, 7, 32775, 7, 229383, 491527, 1015815, 2097151, 4194303]
theorem swarfkit_StowageOf.tab7 : rtab .any (opsOf Try.f19 7) = swarfkit_StowageOf.T7 := by kernel_rfl
theorem swarfkit_StowageOf.bits7 : waitsOk swarfkit_StowageOf.T7.2 swarfkit_StowageOf.B7 = true := by kernel_rfl
def swarfkit_StowageOf.T10 : Bool × List (List Nat × List Nat) := (true, [([], []), ([], []), ([], []), ([], []), ([2, 3], [2, 3]), ([4], [4]), ([], []), ([6], [6]), ([], []), ([7, 8], [7, 8]), ([9], [9]), ([10], [10]), ([11], [11]), ([5, 12], [5, 12]), ([0, 1, 0, 1, 2, 3, 4, 5, 6, 7, 8, 9, 10, 11, 12, 13], [0, 1]), ([14, 13, 0, 1, 2, 3, 4, 5, 6, 7, 8, 9, 10, 11, 12, 13], [13, 14])])
def swarfkit_StowageOf.B10 : List Nat := [0, 0, 0, 0, 12, 28, 0, 64, 0, 448, 960, 1984, 4032, 8188, 16383, 32767]
theorem swarfkit_StowageOf.tab10 : rtab .any (opsOf Try.f19 10) = swarfkit_StowageOf.T10 := by kernel_rfl
theorem swarfkit_StowageOf.bits10 : waitsOk swarfkit_StowageOf.T10.2 swarfkit_StowageOf.B10 = true := by kernel_rfl
set_option maxHeartbeats 8000000 in
set_option maxRecDepth 100000 in
theorem swarfkit_StowageOf.calls (k : Nat) (g : Nat) (s0_0 : Int) (a1_0 : Int) (a1_1 : Int) (a1_2 : Int) (A1_3 : Option Addr) (c1_3 : Nat) (l1_3 : List (S85)) (a1_4 : Int) (A1_5 : Option Addr) (c1_5 : Nat) (l1_5 : List (S59)) (A1_6 : Option Addr) (c1_6 : Nat) (l1_6 : List (S79)) (r1 : List Int) (r2 : Int) (w0 w : World) (hI : IsS90 w0 w g s0_0) (hB : Below w0.heap.size w0 w) (hr1_3 : ∀ W_, KeepBut w W_ g none → Kd.C k85 W_ A1_3 l1_3.length l1_3) (hc1_3 : l1_3.length ≤ c1_3) (hr1_5 : ∀ W_, KeepBut w W_ g none → Kd.C k59 W_ A1_5 l1_5.length l1_5) (hc1_5 : l1_5.length ≤ c1_5) (hr1_6 : ∀ W_, KeepBut w W_ g none → Kd.C k79 W_ A1_6 l1_6.length l1_6) (hc1_6 : l1_6.length ≤ c1_6) (h : swarfkit_StowageOf.f k s0_0 a1_0 a1_1 a1_2 l1_3 a1_4 l1_5 l1_6 = some (r1, r2)) :
  Calls Try.prog 19 #[.pointer (some ⟨g, 0, none⟩), .agg #[.int .i64 a1_0, .int .i64 a1_1, .int .i64 a1_2, .slice A1_3 l1_3.length c1_3, .int .i64 a1_4, .slice A1_5 l1_5.length c1_5, .slice A1_6 l1_6.length c1_6]] w fun e w' => ∃ v0_ : Value, e = .returned (v0_) ∧ Kd.R (Kd.int .i64) 3 w' w.heap.size (fun _ => True) v0_ r1 ∧ IsS90 w0 w' g r2 ∧ Below w0.heap.size w0 w' ∧ KeepBut w w' g none := by
 have hu26 := Try.underlying26
 have HR1_3 := Aside0.mk hr1_3
 have HC1_3 := Aside0.mk hc1_3
 clear hr1_3 hc1_3
 have HR1_5 := Aside0.mk hr1_5
 have HC1_5 := Aside0.mk hc1_5
 clear hr1_5 hc1_5
 have HR1_6 := Aside0.mk hr1_6
 have HC1_6 := Aside0.mk hc1_6
 clear hr1_6 hc1_6
 have HI0 := Aside0.mk hI
 have HK := Aside0.mk (KeepBut.refl w g none)
 have HL := Aside0.mk hB.size
 clear hI
 have HW0 := Aside0.mk hB.size
 have HB := Aside0.mk hB
 clear hB
 have H : (if 0 ≤ (l1_3.length : Int) then (if ((l1_3.length : Int) : Int).toNat ≤ 35184372088832 then (swarfkit_StowageOf.l0 k ([] : List Int) (List.replicate ((l1_3.length : Int) : Int).toNat 0) 0 s0_0 a1_0 a1_1 a1_2 l1_3 a1_4 l1_5 l1_6) else (none)) else (none)) = some (r1, r2) := h
 clear h
 by_cases c3 : 0 ≤ (l1_3.length : Int)
 ·
  rw [if_pos c3] at H
  have c3b0 := eq_true c3
  have c3b1 : decide (0 ≤ (l1_3.length : Int)) = true := decide_eq_true c3
  clear c3
  by_cases c4 : ((l1_3.length : Int) : Int).toNat ≤ 35184372088832
  ·
   rw [if_pos c4] at H
   have c4b0 := eq_true c4
   have c4b1 : decide (((l1_3.length : Int) : Int).toNat ≤ 35184372088832) = true := decide_eq_true c4
   clear c4
   obtain ⟨y363, hy363⟩ : ∃ y_ : List Int, y_ = (List.replicate ((l1_3.length : Int) : Int).toNat 0) := ⟨_, rfl⟩
   replace H : (swarfkit_StowageOf.l0 k ([] : List Int) y363 0 s0_0 a1_0 a1_1 a1_2 l1_3 a1_4 l1_5 l1_6) = some (r1, r2) := by first | (rw [hy363]; with_reducible exact H) | (have H2_ := (Option.bind_some _ _).symm.trans H; rw [hy363]; with_reducible exact H2_) | (have H2_ := (Option.bind_some _ _).symm.trans H; with_reducible exact H2_) | with_reducible exact H | (rw [hy363]; exact H) | exact H
   have Ny363 := Aside0.mk hy363
   clear hy363
   have H' := Aside0.mk H
   clear H
   go_enter Try.func19, Try.ntmps19
   go_wp2_with (first | ((with_reducible refine gate_dst (N := 3) rfl ?_); refine box_event ?hg (N := 3) ?hd (cs := #[.int .i64 a1_0, .int .i64 a1_1, .int .i64 a1_2, .slice A1_3 l1_3.length c1_3, .int .i64 a1_4, .slice A1_5 l1_5.length c1_5, .slice A1_6 l1_6.length c1_6]) (t := 26) ?hr ?_; (case hd => rfl); (case hg => rfl); (case hr => first | (go_simp; done) | (go_simp; rfl)); intro gb362 hg w5 hbox hb; replace HB := bl_x HB hb; have BK362 := Aside0.mk (hbox); have GW362 := Aside0.mk ((by rw [hg]; exact (keep_size (w := w) (g := g) (row := none) (by exact keep_y HK.out)) : w.heap.size ≤ gb362)); have GE362 := Aside0.mk ((Nat.le_trans HW0.out (by rw [hg]; exact (keep_size (w := w) (g := g) (row := none) (by exact keep_y HK.out)) : w.heap.size ≤ gb362) : w0.heap.size ≤ gb362)); replace HK := Aside0.mk (KeepBut.trans (by exact keep_y HK.out) (KeepBut.of_below hb g none) (.inl rfl)); have NB0_362 := Aside0.mk ((by rw [hg]; exact Nat.ne_of_lt (IsS90.lt (show IsS90 w0 _ g s0_0 from by exact IsS90.up HI0.out)) : g ≠ gb362)); have NB362_0 := Aside0.mk ((by rw [hg]; exact Nat.ne_of_gt (IsS90.lt (show IsS90 w0 _ g s0_0 from by exact IsS90.up HI0.out)) : gb362 ≠ g)); replace HI0 := Aside0.mk (IsS90.below (by exact IsS90.up HI0.out) hb); clear hb hbox hg; have hnb6 := NB362_0.out; have hnc6 := NB0_362.out; obtain ⟨_, _, _, _, _, _, _⟩ := cz7 BK362; have hfz7_0 := blk_frozen BK362.out) | ((with_reducible refine gate_dst (N := 12) rfl ?_); refine Kd.R_make (Kd.int .i64) _ 3 rfl (N := 12) rfl 27 _ _ rfl (l1_3.length : Int) rfl rfl Try.underlying27 (.int .i64 0) 8 info3 rfl (by decide) (by omega) 0 (ok := fun _ => True) (okp := fun _ => True) rfl (fun _ hk => hk) trivial (of_x) (Nat.le_trans (Nat.mul_le_mul_right _ (of_x : (l1_3.length : Int).toNat ≤ 35184372088832)) (by omega)) (Below.refl _ _) (Nat.le_refl _) ?_; intro v364 w8 ho9 hb hg_ hnew_; clear hg_ hnew_; (first | rw [← Ny363.out] at ho9 | (simp only [Int.reduceToNat] at ho9; rw [← Ny363.out] at ho9)); have HO365 := Aside0.mk (Kd.R_lower ho9 (keep_size (w := w) (g := g) (row := none) (by exact keep_y HK.out))); replace HI0 := Aside0.mk (IsS90.below (by exact IsS90.up HI0.out) hb); replace BK362 := Aside0.mk (blk_below (blk_x BK362.out) hb); replace HK := Aside0.mk (KeepBut.trans (by exact keep_y HK.out) (KeepBut.of_below hb g none) (.inl rfl)); replace HB := bl_x HB hb; clear hb ho9))
   go_loopg [5, 7] k (fun kq v5 v7 w' => ∃ (x5_1 : List Int) (x6_1 : List Int) (x7_1 : Int) (x1000_1 : Int), v7 = .int .i64 x7_1 ∧ Aside0 (swarfkit_StowageOf.l0 kq x5_1 x6_1 x7_1 x1000_1 a1_0 a1_1 a1_2 l1_3 a1_4 l1_5 l1_6 = some (r1, r2)) ∧ Aside0 (kq ≤ k) ∧ Aside0 (Kd.R (Kd.int .i64) 3 w' w.heap.size (fun k_ => some k_ ≠ (v364 : Value).ownBlock) v5 x5_1) ∧ Aside0 (Kd.R (Kd.int .i64) 3 w' w.heap.size (fun k_ => some k_ ≠ (v5 : Value).ownBlock) v364 x6_1) ∧ Aside0 (w'.heap[gb362]? = some (.cells #[.int .i64 a1_0, .int .i64 a1_1, .int .i64 a1_2, (.slice A1_3 l1_3.length c1_3), .int .i64 a1_4, (.slice A1_5 l1_5.length c1_5), (.slice A1_6 l1_6.length c1_6)] 26 (0, 0))) ∧ Aside0 (IsS90 w0 w' g x1000_1) ∧ Aside0 (KeepBut w w' g none) ∧ Aside0 (Below w0.heap.size w0 w'))
   case atStart => exact ⟨(([] : List Int)), (y363), (0), (s0_0), (by first | rfl | (simp; done) | (simp [*]; done)), H', ⟨Nat.le_refl _⟩, ⟨by first | exact Kd.R_nil _ _ _ _ _ | exact Kd.N_nil _ _ _ _ _ | exact Kd.V_nil _ _ _ _ _ | exact Kd.Q_nil _ _ _ _ _ | exact Kd.S_nil _ _ _ _ _⟩, ⟨by (with_reducible repeat (first | apply Kd.R_alloc | apply Kd.R_drewN | apply Kd.R_drew)); exact Kd.R_mono HO365.out (fun _ hk => (by simp [Value.ownBlock]))⟩, ⟨blk_x BK362.out⟩, ⟨by exact IsS90.up HI0.out⟩, ⟨by exact keep_y HK.out⟩, ⟨by exact below_y HB.out⟩⟩
   case round =>
    clear H'
    obtain ⟨x5_1, x6_1, x7_1, x1000_1, rfl, HA, HK1, HO_5, HO_6, BK362, HI0, HK, HB⟩ := hrel
    cases gk with
    | zero => exact absurd HA.out (by simp [swarfkit_StowageOf.l0])
    | succ k1 =>
     have H := HA.out
     clear HA
     simp only [swarfkit_StowageOf.l0] at H
     by_cases c10 : x7_1 < (l1_6.length : Int)
     ·
      rw [if_pos c10] at H
      have c10b0 : decide (x7_1 < (l1_6.length : Int)) = true := decide_eq_true c10
      clear c10
      replace H := Option.bind_eq_some_iff.mp H
      obtain ⟨⟨t366, t367⟩, A110, H⟩ := H
      try dsimp only at H
      have A11 := Aside0.mk A110
      clear A110
      have HC12 := Aside0.mk H
      clear H
      have hnb13 := NB362_0.out
      have hnc13 := NB0_362.out
      obtain ⟨_, _, _, _, _, _, _⟩ := cz7 BK362
      have hfz14_0 := blk_frozen BK362.out
      go_upto_region 7 with (first | ((with_reducible refine gate_callee (f := 31) rfl ?_); refine goesL_ (some 25) rfl rfl Try.func31 (by kernel_rfl) rfl #[.pointer (some ⟨g, 0, none⟩), .int .i64 (-1), .int .i64 (wrap64 ((l1_3.length : Int) - 1))] rfl (by (try simp only [List.map_toArray, List.map_cons, List.map_nil]); first | done | rfl | (simp only [List.length_drop, List.length_take]; rfl)) ?_; (with_reducible refine (swarfkit_Feed_Between.calls g x1000_1 (-1) (wrap64 ((l1_3.length : Int) - 1)) t366 t367 w0 _ ?side1 ?side2 A11.out).mono ?_); (case side1 => exact IsS90.up HI0.out); (case side2 => exact below_y HB.out); rintro e w15 ⟨rfl, hi, hb, hk⟩; refine ⟨_, rfl, ?_⟩; replace HO_5 := Aside0.mk (Kd.R_mono (Kd.R_keep (IsS90.apart (show IsS90 w0 _ g x1000_1 from by exact IsS90.up HI0.out) (Kd.R_x HO_5.out) (by decide)) hk (fun _ h => h.2)) (fun _ h => h.1)); replace HO_6 := Aside0.mk (Kd.R_mono (Kd.R_keep (IsS90.apart (show IsS90 w0 _ g x1000_1 from by exact IsS90.up HI0.out) (Kd.R_x HO_6.out) (by decide)) hk (fun _ h => h.2)) (fun _ h => h.1)); replace BK362 := Aside0.mk (KeepBut.blk hk (blk_x BK362.out) NB362_0.out (by simp)); replace HK := Aside0.mk (KeepBut.trans (by exact keep_y HK.out) hk (.inl rfl)); replace HB := Aside0.mk (hb); replace HI0 := Aside0.mk (hi); (try clear hb); (try clear hk); (try clear hi)))
      (try simp only [Act.put, put_x])
      go_cut [48] (fun v48 wc => ∃ (kq : Nat) (x48_11 : Bool), v48 = .bool x48_11 ∧ Aside0 (swarfkit_StowageOf.j1 kq x5_1 x6_1 x7_1 t366 x48_11 t367 a1_0 a1_1 a1_2 l1_3 a1_4 l1_5 l1_6 = some (r1, r2)) ∧ Aside0 (kq ≤ k1) ∧ Aside0 (Kd.R (Kd.int .i64) 3 wc w.heap.size (fun k_ => some k_ ≠ (v364 : Value).ownBlock) u5 x5_1) ∧ Aside0 (Kd.R (Kd.int .i64) 3 wc w.heap.size (fun k_ => some k_ ≠ (u5 : Value).ownBlock) v364 x6_1) ∧ Aside0 (wc.heap[gb362]? = some (.cells #[.int .i64 a1_0, .int .i64 a1_1, .int .i64 a1_2, (.slice A1_3 l1_3.length c1_3), .int .i64 a1_4, (.slice A1_5 l1_5.length c1_5), (.slice A1_6 l1_6.length c1_6)] 26 (0, 0))) ∧ Aside0 (IsS90 w0 wc g t367) ∧ Aside0 (KeepBut w wc g none) ∧ Aside0 (Below w0.heap.size w0 wc))
      case first =>
       have H := HC12.out
       clear HC12
       by_cases c16 : t366 ≥ 0
       ·
        rw [if_pos c16] at H
        have c16b0 : decide (0 ≤ t366) = true := decide_eq_true c16
        clear c16
        (first | rw [c16b0] | (simp only [i64_w, i32_w]; rw [c16b0]) | skip)
        by_cases c17 : 0 ≤ t366
        ·
         rw [if_pos c17] at H
         have c17b0 : decide (0 ≤ t366) = true := decide_eq_true c17
         clear c17
         by_cases c18 : t366 < (x6_1.length : Int)
         ·
          rw [if_pos c18] at H
          have c18b0 : decide (t366 < (x6_1.length : Int)) = true := decide_eq_true c18
          clear c18
          by_cases c19 : 0 ≤ x7_1
          ·
           rw [if_pos c19] at H
           have c19b0 : decide (0 ≤ x7_1) = true := decide_eq_true c19
           clear c19
           by_cases c20 : t366 < (l1_3.length : Int)
           ·
            rw [if_pos c20] at H
            have c20b0 : decide (t366 < (l1_3.length : Int)) = true := decide_eq_true c20
            clear c20
            have H' := Aside0.mk H
            clear H
            try go_wp2
            replace HO_5 := Aside0.mk (Kd.R_drew HO_5.out)
            replace HO_6 := Aside0.mk (Kd.R_drew HO_6.out)
            replace BK362 := Aside0.mk (blk_drew BK362.out)
            replace HI0 := Aside0.mk (IsS90.drew HI0.out)
            replace HK := Aside0.mk (keep_drew HK.out)
            replace HB := Aside0.mk (below_drew1 HB.out)
            obtain ⟨Ao22, co22, eo22⟩ := Kd.R_slice HO_6.out
            (first | subst eo22 | (injection eo22 with f1_ f2_ f3_; have f4_ := f1_.symm; have f5_ := f3_.symm; clear f1_ f2_ f3_; subst f4_; subst f5_))
            have p368 : 0 ≤ (t366 : Int) := of_x
            have q368 : t366 < (x6_1.length : Int) := of_x
            obtain ⟨ad368, e368, hx368_0⟩ := Kd.at_int (Kd.R_reads' HO_6.out).2.2 t366 p368 q368
            cases e368
            replace p368 := eq_true p368
            replace q368 := eq_true q368
            have p369 : 0 ≤ (x7_1 : Int) := of_x
            have q369 : x7_1 < (l1_6.length : Int) := of_x
            obtain ⟨ad369, e369, hx369_0, hx369_1, hx369_2⟩ := at_T79 (Kd.C_foot_now HR1_6.out HK.out) x7_1 p369 q369
            have hw369_2 := hx369_2
            have hw369_1 := hx369_1
            have hw369_0 := hx369_0
            cases e369
            have hne369_2 := (show (⟨(ad369.add ((x7_1).toNat * 3)).block, (ad369.add ((x7_1).toNat * 3)).off + 2, none⟩ : Addr).block ≠ g from by first | (rw [add_block]; exact Kd.foot_ne HR1_6.out (by omega) (by decide)) | (show (Addr.add _ _).block ≠ _; rw [add_block]; exact Kd.foot_ne HR1_6.out (by omega) (by decide)) | exact Kd.foot_ne HR1_6.out (by omega) (by decide) | (dsimp only; exact Kd.foot_ne HR1_6.out (by omega) (by decide)))
            have hlt369_2 := (Kd.foot_lt HR1_6.out (by omega) (by decide))
            have hne369_1 := (show (⟨(ad369.add ((x7_1).toNat * 3)).block, (ad369.add ((x7_1).toNat * 3)).off + 1, none⟩ : Addr).block ≠ g from by first | (rw [add_block]; exact Kd.foot_ne HR1_6.out (by omega) (by decide)) | (show (Addr.add _ _).block ≠ _; rw [add_block]; exact Kd.foot_ne HR1_6.out (by omega) (by decide)) | exact Kd.foot_ne HR1_6.out (by omega) (by decide) | (dsimp only; exact Kd.foot_ne HR1_6.out (by omega) (by decide)))
            have hlt369_1 := (Kd.foot_lt HR1_6.out (by omega) (by decide))
            have hne369_0 := (show ((ad369.add ((x7_1).toNat * 3)) : Addr).block ≠ g from by first | (rw [add_block]; exact Kd.foot_ne HR1_6.out (by omega) (by decide)) | (show (Addr.add _ _).block ≠ _; rw [add_block]; exact Kd.foot_ne HR1_6.out (by omega) (by decide)) | exact Kd.foot_ne HR1_6.out (by omega) (by decide) | (dsimp only; exact Kd.foot_ne HR1_6.out (by omega) (by decide)))
            have hlt369_0 := (Kd.foot_lt HR1_6.out (by omega) (by decide))
            replace p369 := eq_true p369
            replace q369 := eq_true q369
            have p370 : 0 ≤ (t366 : Int) := of_x
            have q370 : t366 < (l1_3.length : Int) := of_x
            obtain ⟨ad370, e370, hx370_0, hx370_1, hx370_2⟩ := at_T85 (Kd.C_foot_now HR1_3.out HK.out) t366 p370 q370
            have hw370_2 := hx370_2
            have hw370_1 := hx370_1
            have hw370_0 := hx370_0
            cases e370
            have hne370_2 := (show (⟨(ad370.add ((t366).toNat * 3)).block, (ad370.add ((t366).toNat * 3)).off + 2, none⟩ : Addr).block ≠ g from by first | (rw [add_block]; exact Kd.foot_ne HR1_3.out (by omega) (by decide)) | (show (Addr.add _ _).block ≠ _; rw [add_block]; exact Kd.foot_ne HR1_3.out (by omega) (by decide)) | exact Kd.foot_ne HR1_3.out (by omega) (by decide) | (dsimp only; exact Kd.foot_ne HR1_3.out (by omega) (by decide)))
            have hlt370_2 := (Kd.foot_lt HR1_3.out (by omega) (by decide))
            have hne370_1 := (show (⟨(ad370.add ((t366).toNat * 3)).block, (ad370.add ((t366).toNat * 3)).off + 1, none⟩ : Addr).block ≠ g from by first | (rw [add_block]; exact Kd.foot_ne HR1_3.out (by omega) (by decide)) | (show (Addr.add _ _).block ≠ _; rw [add_block]; exact Kd.foot_ne HR1_3.out (by omega) (by decide)) | exact Kd.foot_ne HR1_3.out (by omega) (by decide) | (dsimp only; exact Kd.foot_ne HR1_3.out (by omega) (by decide)))
            have hlt370_1 := (Kd.foot_lt HR1_3.out (by omega) (by decide))
            have hne370_0 := (show ((ad370.add ((t366).toNat * 3)) : Addr).block ≠ g from by first | (rw [add_block]; exact Kd.foot_ne HR1_3.out (by omega) (by decide)) | (show (Addr.add _ _).block ≠ _; rw [add_block]; exact Kd.foot_ne HR1_3.out (by omega) (by decide)) | exact Kd.foot_ne HR1_3.out (by omega) (by decide) | (dsimp only; exact Kd.foot_ne HR1_3.out (by omega) (by decide)))
            have hlt370_0 := (Kd.foot_lt HR1_3.out (by omega) (by decide))
            replace p370 := eq_true p370
            replace q370 := eq_true q370
            refine start_ (n := 23) (S := fun w' => w'.cell? ⟨gb362, 0, none⟩ = some (.int .i64 a1_0) ∧ w'.cell? ⟨gb362, 1, none⟩ = some (.int .i64 a1_1) ∧ w'.cell? ⟨gb362, 2, none⟩ = some (.int .i64 a1_2) ∧ w'.cell? ⟨gb362, 3, none⟩ = some (.slice (some ad370) l1_3.length c1_3) ∧ w'.cell? ⟨gb362, 4, none⟩ = some (.int .i64 a1_4) ∧ w'.cell? ⟨gb362, 5, none⟩ = some (.slice A1_5 l1_5.length c1_5) ∧ w'.cell? ⟨gb362, 6, none⟩ = some (.slice (some ad369) l1_6.length c1_6) ∧ w'.cell? (ad368.add (t366).toNat) = some (.int .i64 (rd x6_1 t366)) ∧ w'.cell? (ad369.add ((x7_1).toNat * 3)) = some (.int .i64 ((rd_T79 l1_6 x7_1).f0.f0)) ∧ w'.cell? ⟨(ad369.add ((x7_1).toNat * 3)).block, (ad369.add ((x7_1).toNat * 3)).off + 1, none⟩ = some (.int .i64 ((rd_T79 l1_6 x7_1).f0.f1)) ∧ w'.cell? ⟨(ad369.add ((x7_1).toNat * 3)).block, (ad369.add ((x7_1).toNat * 3)).off + 2, none⟩ = some (.int .i64 ((rd_T79 l1_6 x7_1).f1)) ∧ w'.cell? (ad370.add ((t366).toNat * 3)) = some (.int .i64 ((rd_T85 l1_3 t366).f0)) ∧ w'.cell? ⟨(ad370.add ((t366).toNat * 3)).block, (ad370.add ((t366).toNat * 3)).off + 1, none⟩ = some (.int .i64 ((rd_T85 l1_3 t366).f1)) ∧ w'.cell? ⟨(ad370.add ((t366).toNat * 3)).block, (ad370.add ((t366).toNat * 3)).off + 2, none⟩ = some (.int .i64 ((rd_T85 l1_3 t366).f2))) (ds := []) #[false, false, false, false, false, false, false, false, false, false, false, false, false, false, false, false, false, false, false, false, false, false, false] (by kernel_rfl) rfl rfl ⟨(blk_cell BK362.out 0).trans rfl, (blk_cell BK362.out 1).trans rfl, (blk_cell BK362.out 2).trans rfl, (blk_cell BK362.out 3).trans rfl, (blk_cell BK362.out 4).trans rfl, (blk_cell BK362.out 5).trans rfl, (blk_cell BK362.out 6).trans rfl, hx368_0, hx369_0, hx369_1, hx369_2, hx370_0, hx370_1, hx370_2⟩ (fun hHeld => ?_); refine with_tabW swarfkit_StowageOf.tab7 swarfkit_StowageOf.bits7 (fun HT_ HW_ => ?_)
            generalize w15.drew = w21 at HO_5 HO_6 BK362 HI0 HK HB hx368_0 hx369_0 hx369_1 hx369_2 hx370_0 hx370_1 hx370_2 hHeld ⊢
            refine pure_t 0 (some 26) (bz 23 1) HT_ ?_
            refine pure_t 1 (some 27) (bz 23 3) HT_ ?_
            refine pure_t 2 (some 28) (bz 23 7) HT_ ?_
            refine pure_t 3 (some 29) (bz 23 15) HT_ ?_
            refine pure_t 4 (some 30) (bz 23 31) HT_ ?_
            refine pure_t 5 (some 31) (bz 23 63) HT_ ?_
            refine pure_t 7 (some 33) (bz 23 191) HT_ ?_
            refine pure_t 9 (some 35) (bz 23 703) HT_ ?_
            refine pure_t 15 (some 41) (bz 23 33471) HT_ ?_
            refine pure_t 17 (some 43) (bz 23 164543) HT_ ?_
            refine take_ (i := 6) (N := some 32) (v := ?_) (a' := ?_) (bz 23 164607) rfl rfl (take_ofW HT_.out HW_.out (by kernel_rfl)) (fun _ _ _ h => h) (Or.inl ⟨by rfl, ?_⟩) hHeld ?_ ?_
            rotate_left; (rintro w' ⟨s0, s1, s2, s3, s4, s5, s6, s7, s8, s9, s10, s11, s12, s13⟩; go_simp; with_reducible rfl); rotate_left; (simp only [Act.put, put_x, i64_w, i32_w]; rfl)
            refine take_ (i := 8) (N := some 34) (v := ?_) (a' := ?_) (bz 23 164863) rfl rfl (take_ofW HT_.out HW_.out (by kernel_rfl)) (fun _ _ _ h => h) (Or.inl ⟨by rfl, ?_⟩) hHeld ?_ ?_
            rotate_left; (rintro w' ⟨s0, s1, s2, s3, s4, s5, s6, s7, s8, s9, s10, s11, s12, s13⟩; go_simp; with_reducible rfl); rotate_left; (simp only [Act.put, put_x, i64_w, i32_w]; rfl)
            refine pure_t 10 (some 36) (bz 23 165887) HT_ ?_
            refine pure_t 11 (some 37) (bz 23 167935) HT_ ?_
            refine pure_t 12 (some 38) (bz 23 172031) HT_ ?_
            refine take_ (i := 13) (N := some 39) (v := ?_) (a' := ?_) (bz 23 180223) rfl rfl (take_ofW HT_.out HW_.out (by kernel_rfl)) (fun _ _ _ h => h) (Or.inl ⟨by rfl, ?_⟩) hHeld ?_ ?_
            rotate_left; (rintro w' ⟨s0, s1, s2, s3, s4, s5, s6, s7, s8, s9, s10, s11, s12, s13⟩; go_simp; with_reducible rfl); rotate_left; (simp only [Act.put, put_x, i64_w, i32_w]; rfl)
            refine pure_t 14 (some 40) (bz 23 196607) HT_ ?_
            refine take_ (i := 16) (N := some 42) (v := ?_) (a' := ?_) (bz 23 262143) rfl rfl (take_ofW HT_.out HW_.out (by kernel_rfl)) (fun _ _ _ h => h) (Or.inl ⟨by rfl, ?_⟩) hHeld ?_ ?_
            rotate_left; (rintro w' ⟨s0, s1, s2, s3, s4, s5, s6, s7, s8, s9, s10, s11, s12, s13⟩; go_simp; with_reducible rfl); rotate_left; (simp only [Act.put, put_x, i64_w, i32_w]; rfl)
            refine pure_t 18 (some 44) (bz 23 524287) HT_ ?_
            refine pure_t 19 (some 45) (bz 23 1048575) HT_ ?_
            refine take_ (i := 20) (N := some 46) (v := ?_) (a' := ?_) (bz 23 2097151) rfl rfl (take_ofW HT_.out HW_.out (by kernel_rfl)) (fun _ _ _ h => h) (Or.inl ⟨by rfl, ?_⟩) hHeld ?_ ?_
            rotate_left; (rintro w' ⟨s0, s1, s2, s3, s4, s5, s6, s7, s8, s9, s10, s11, s12, s13⟩; go_simp; with_reducible rfl); rotate_left; (simp only [Act.put, put_x, i64_w, i32_w]; rfl)
            refine pure_t 21 (some 47) (bz 23 4194303) HT_ ?_
            refine pure_t 22 (some 48) (bz 23 8388607) HT_ ?_
            refine done_ (done_of HT_.out (by kernel_rfl)) ?_
            try go_wp2
            go_meet
            case rel => exact ⟨_, (decide ((wrap64 ((rd x6_1 t366) + ((rd_T79 l1_6 x7_1).f0.f1))) > ((rd_T85 l1_3 t366).f0))), (by first | rfl | (simp; done) | (simp [*]; done)), H', ⟨by have := HK1.out; first | omega | exact Nat.le_refl _⟩, ⟨by (with_reducible repeat (first | apply Kd.R_alloc | apply Kd.R_drewN | apply Kd.R_drew)); exact HO_5.out⟩, ⟨by (with_reducible repeat (first | apply Kd.R_alloc | apply Kd.R_drewN | apply Kd.R_drew)); exact HO_6.out⟩, ⟨blk_x BK362.out⟩, ⟨by exact IsS90.up HI0.out⟩, ⟨by exact keep_y HK.out⟩, ⟨by exact below_y HB.out⟩⟩
           ·
            rw [if_neg c20] at H
            exact absurd H (by simp)
          ·
           rw [if_neg c19] at H
           exact absurd H (by simp)
         ·
          rw [if_neg c18] at H
          exact absurd H (by simp)
        ·
         rw [if_neg c17] at H
         exact absurd H (by simp)
       ·
        rw [if_neg c16] at H
        have c16b0 : decide (0 ≤ t366) = false := decide_eq_false c16
        clear c16
        (first | rw [c16b0] | (simp only [i64_w, i32_w]; rw [c16b0]) | skip)
        have H' := Aside0.mk H
        clear H
        try go_wp2
        replace HO_5 := Aside0.mk (Kd.R_drew HO_5.out)
        replace HO_6 := Aside0.mk (Kd.R_drew HO_6.out)
        replace BK362 := Aside0.mk (blk_drew BK362.out)
        replace HI0 := Aside0.mk (IsS90.drew HI0.out)
        replace HK := Aside0.mk (keep_drew HK.out)
        replace HB := Aside0.mk (below_drew1 HB.out)
        refine start_ (n := 23) (S := fun w' => True) (ds := []) #[false, false, false, false, false, false, false, false, false, false, false, false, false, false, false, false, false, false, false, false, false, false, false] (by kernel_rfl) rfl rfl trivial (fun hHeld => ?_); refine with_tabW swarfkit_StowageOf.tab7 swarfkit_StowageOf.bits7 (fun HT_ HW_ => ?_)
        generalize w15.drew = w23 at HO_5 HO_6 BK362 HI0 HK HB hHeld ⊢
        refine pure_t 0 (some 26) (bz 23 1) HT_ ?_
        refine pure_t 1 (some 27) (bz 23 3) HT_ ?_
        refine pure_t 2 (some 28) (bz 23 7) HT_ ?_
        refine pure_ (i := 3) (N := some 29) (v := undef) (a' := ?_) (bz 23 15) rfl rfl (any_of HT_.out (by kernel_rfl)) (fun _ _ _ h => h) (Or.inr ⟨by rfl, rfl⟩) ?_ ?_
        rotate_left
        ·
         simp only [Act.put, put_x, i64_w, i32_w]
         rfl
        refine pure_ (i := 4) (N := some 30) (v := undef) (a' := ?_) (bz 23 31) rfl rfl (any_of HT_.out (by kernel_rfl)) (fun _ _ _ h => h) (Or.inr ⟨by rfl, rfl⟩) ?_ ?_
        rotate_left
        ·
         simp only [Act.put, put_x, i64_w, i32_w]
         rfl
        refine pure_ (i := 5) (N := some 31) (v := undef) (a' := ?_) (bz 23 63) rfl rfl (any_of HT_.out (by kernel_rfl)) (fun _ _ _ h => h) (Or.inr ⟨by rfl, rfl⟩) ?_ ?_
        rotate_left
        ·
         simp only [Act.put, put_x, i64_w, i32_w]
         rfl
        refine pure_ (i := 6) (N := some 32) (v := undef) (a' := ?_) (bz 23 127) rfl rfl (any_of HT_.out (by kernel_rfl)) (fun _ _ _ h => h) (Or.inr ⟨by rfl, rfl⟩) ?_ ?_
        rotate_left
        ·
         simp only [Act.put, put_x, i64_w, i32_w]
         rfl
        refine pure_ (i := 7) (N := some 33) (v := undef) (a' := ?_) (bz 23 255) rfl rfl (any_of HT_.out (by kernel_rfl)) (fun _ _ _ h => h) (Or.inr ⟨by rfl, rfl⟩) ?_ ?_
        rotate_left
        ·
         simp only [Act.put, put_x, i64_w, i32_w]
         rfl
        refine pure_ (i := 8) (N := some 34) (v := undef) (a' := ?_) (bz 23 511) rfl rfl (any_of HT_.out (by kernel_rfl)) (fun _ _ _ h => h) (Or.inr ⟨by rfl, rfl⟩) ?_ ?_
        rotate_left
        ·
         simp only [Act.put, put_x, i64_w, i32_w]
         rfl
        refine pure_ (i := 9) (N := some 35) (v := undef) (a' := ?_) (bz 23 1023) rfl rfl (any_of HT_.out (by kernel_rfl)) (fun _ _ _ h => h) (Or.inr ⟨by rfl, rfl⟩) ?_ ?_
        rotate_left
        ·
         simp only [Act.put, put_x, i64_w, i32_w]
         rfl
        refine pure_ (i := 10) (N := some 36) (v := undef) (a' := ?_) (bz 23 2047) rfl rfl (any_of HT_.out (by kernel_rfl)) (fun _ _ _ h => h) (Or.inr ⟨by rfl, rfl⟩) ?_ ?_
        rotate_left
        ·
         simp only [Act.put, put_x, i64_w, i32_w]
         rfl
        refine pure_ (i := 11) (N := some 37) (v := undef) (a' := ?_) (bz 23 4095) rfl rfl (any_of HT_.out (by kernel_rfl)) (fun _ _ _ h => h) (Or.inr ⟨by rfl, rfl⟩) ?_ ?_
        rotate_left
        ·
         simp only [Act.put, put_x, i64_w, i32_w]
         rfl
        refine pure_ (i := 12) (N := some 38) (v := undef) (a' := ?_) (bz 23 8191) rfl rfl (any_of HT_.out (by kernel_rfl)) (fun _ _ _ h => h) (Or.inr ⟨by rfl, rfl⟩) ?_ ?_
        rotate_left
        ·
         simp only [Act.put, put_x, i64_w, i32_w]
         rfl
        refine pure_ (i := 13) (N := some 39) (v := undef) (a' := ?_) (bz 23 16383) rfl rfl (any_of HT_.out (by kernel_rfl)) (fun _ _ _ h => h) (Or.inr ⟨by rfl, rfl⟩) ?_ ?_
        rotate_left
        ·
         simp only [Act.put, put_x, i64_w, i32_w]
         rfl
        refine pure_ (i := 14) (N := some 40) (v := undef) (a' := ?_) (bz 23 32767) rfl rfl (any_of HT_.out (by kernel_rfl)) (fun _ _ _ h => h) (Or.inr ⟨by rfl, rfl⟩) ?_ ?_
        rotate_left
        ·
         simp only [Act.put, put_x, i64_w, i32_w]
         rfl
        refine pure_ (i := 15) (N := some 41) (v := undef) (a' := ?_) (bz 23 65535) rfl rfl (any_of HT_.out (by kernel_rfl)) (fun _ _ _ h => h) (Or.inr ⟨by rfl, rfl⟩) ?_ ?_
        rotate_left
        ·
         simp only [Act.put, put_x, i64_w, i32_w]
         rfl
        refine pure_ (i := 16) (N := some 42) (v := undef) (a' := ?_) (bz 23 131071) rfl rfl (any_of HT_.out (by kernel_rfl)) (fun _ _ _ h => h) (Or.inr ⟨by rfl, rfl⟩) ?_ ?_
        rotate_left
        ·
         simp only [Act.put, put_x, i64_w, i32_w]
         rfl
        refine pure_ (i := 17) (N := some 43) (v := undef) (a' := ?_) (bz 23 262143) rfl rfl (any_of HT_.out (by kernel_rfl)) (fun _ _ _ h => h) (Or.inr ⟨by rfl, rfl⟩) ?_ ?_
        rotate_left
        ·
         simp only [Act.put, put_x, i64_w, i32_w]
         rfl
        refine pure_ (i := 18) (N := some 44) (v := undef) (a' := ?_) (bz 23 524287) rfl rfl (any_of HT_.out (by kernel_rfl)) (fun _ _ _ h => h) (Or.inr ⟨by rfl, rfl⟩) ?_ ?_
        rotate_left
        ·
         simp only [Act.put, put_x, i64_w, i32_w]
         rfl
        refine pure_ (i := 19) (N := some 45) (v := undef) (a' := ?_) (bz 23 1048575) rfl rfl (any_of HT_.out (by kernel_rfl)) (fun _ _ _ h => h) (Or.inr ⟨by rfl, rfl⟩) ?_ ?_
        rotate_left
        ·
         simp only [Act.put, put_x, i64_w, i32_w]
         rfl
        refine pure_ (i := 20) (N := some 46) (v := undef) (a' := ?_) (bz 23 2097151) rfl rfl (any_of HT_.out (by kernel_rfl)) (fun _ _ _ h => h) (Or.inr ⟨by rfl, rfl⟩) ?_ ?_
        rotate_left
        ·
         simp only [Act.put, put_x, i64_w, i32_w]
         rfl
        refine pure_ (i := 21) (N := some 47) (v := undef) (a' := ?_) (bz 23 4194303) rfl rfl (any_of HT_.out (by kernel_rfl)) (fun _ _ _ h => h) (Or.inr ⟨by rfl, rfl⟩) ?_ ?_
        rotate_left
        ·
         simp only [Act.put, put_x, i64_w, i32_w]
         rfl
        refine pure_t 22 (some 48) (bz 23 8388607) HT_ ?_
        refine done_ (done_of HT_.out (by kernel_rfl)) ?_
        try go_wp2
        go_meet
        case rel => exact ⟨_, (false), (by first | rfl | (simp; done) | (simp [*]; done)), H', ⟨by have := HK1.out; first | omega | exact Nat.le_refl _⟩, ⟨by (with_reducible repeat (first | apply Kd.R_alloc | apply Kd.R_drewN | apply Kd.R_drew)); exact HO_5.out⟩, ⟨by (with_reducible repeat (first | apply Kd.R_alloc | apply Kd.R_drewN | apply Kd.R_drew)); exact HO_6.out⟩, ⟨blk_x BK362.out⟩, ⟨by exact IsS90.up HI0.out⟩, ⟨by exact keep_y HK.out⟩, ⟨by exact below_y HB.out⟩⟩
      case rest =>
       clear HC12
       obtain ⟨kq, x48_11, rfl, HA, HJ11, HO_5, HO_6, BK362, HI0, HK, HB⟩ := hcut
       cases kq with
       | zero => exact absurd HA.out (by simp [swarfkit_StowageOf.j1])
       | succ kj11 =>
        have H := HA.out
        clear HA
        simp only [swarfkit_StowageOf.j1] at H
        by_cases c24 : x48_11 = true
        ·
         subst c24
         have H1 : (if (-1) ≥ 0 then (if 0 ≤ (-1) then (if (-1) < (x6_1.length : Int) then (if 0 ≤ x7_1 then (if x7_1 < (l1_6.length : Int) then (if x5_1.length < 17592186044416 then (swarfkit_StowageOf.l0 kj11 (x5_1 ++ [(-1)]) (x6_1.set ((-1) : Int).toNat (wrap64 ((rd x6_1 (-1)) + ((rd_T79 l1_6 x7_1).f0.f1)))) (wrap64 (x7_1 + 1)) t367 a1_0 a1_1 a1_2 l1_3 a1_4 l1_5 l1_6) else (none)) else (none)) else (none)) else (none)) else (none)) else (if x5_1.length < 17592186044416 then (swarfkit_StowageOf.l0 kj11 (x5_1 ++ [(-1)]) x6_1 (wrap64 (x7_1 + 1)) t367 a1_0 a1_1 a1_2 l1_3 a1_4 l1_5 l1_6) else (none))) = some (r1, r2) := by rw [if_pos rfl] at H; exact H
         clear H
         have H := H1
         clear H1
         by_cases c25 : (-1) ≥ 0
         ·
          exact absurd c25 (by decide)
         ·
          rw [if_neg c25] at H
          have c25b0 : decide (0 ≤ (-1)) = false := decide_eq_false c25
          clear c25
          by_cases c36 : x5_1.length < 17592186044416
          ·
           rw [if_pos c36] at H
           have LMc36 := Aside0.mk c36
           clear c36
           obtain ⟨y377, hy377⟩ : ∃ y_ : List Int, y_ = (x5_1 ++ [(-1)]) := ⟨_, rfl⟩
           replace H : (swarfkit_StowageOf.l0 kj11 y377 x6_1 (wrap64 (x7_1 + 1)) t367 a1_0 a1_1 a1_2 l1_3 a1_4 l1_5 l1_6) = some (r1, r2) := by first | (rw [hy377]; with_reducible exact H) | (have H2_ := (Option.bind_some _ _).symm.trans H; rw [hy377]; with_reducible exact H2_) | (have H2_ := (Option.bind_some _ _).symm.trans H; with_reducible exact H2_) | with_reducible exact H | (rw [hy377]; exact H) | exact H
           have Ny377 := Aside0.mk hy377
           clear hy377
           have H' := Aside0.mk H
           clear H
           go_wp2_with (first | ((with_reducible refine gate_builtin (b := .append) (xs := #[.tmp 66, .tmp 68]) rfl ?_); at_builtin; refine Kd.R_append (Kd.int .i64) w.heap.size rfl (.tmp 66) (.tmp 68) 27 3 (.int .i64 0) 8 rfl Try.underlying27 info3 rfl (by decide) (by omega) u5 x5_1 (-1) [.int .i64 (-1)] (fun k_ => some k_ ≠ (v364 : Value).ownBlock) (fun _ => False) rfl rfl ?aP (fun _ hk => hk.elim) ?aF ?aO (Below.refl _ _) ?aS ?aL ?_; (case aP => exact rfl); (case aF => exact (fun k_ hk => Kd.fresh' (Kd.R_lt (Kd.R_x HO_6.out)) k_ hk)); (case aO => exact (Kd.R_x HO_5.out)); (case aS => exact (keep_size (w := w) (g := g) (row := none) (by exact keep_y HK.out))); (case aL => have := LMc36.out; omega); intro v378 w37 ho hb hg hat; rw [← Ny377.out] at ho; replace HO_6 := Aside0.mk (Kd.R_after (ok := (fun _ => True)) (by (with_reducible repeat (first | apply Kd.R_alloc | apply Kd.R_drewN | apply Kd.R_drew)); exact Kd.R_mono HO_6.out (fun _ hk => ⟨trivial, hk⟩)) hg hat); replace BK362 := Aside0.mk (blk_grown (blk_x BK362.out) hg (Kd.R_ne HO_5.out BK362.out (by decide))); replace HI0 := Aside0.mk (IsS90.grown (by exact IsS90.up HI0.out) hg (IsS90.own_ne HI0.out HO_5.out (by decide))); replace HB := Aside0.mk (below_weaken (by exact below_y HB.out) HL.out hb); replace HK := Aside0.mk (KeepBut.trans (by exact keep_y HK.out) (KeepBut.of_grown hg g) (Kd.R_base2 HO_5.out)); have HO379 := Aside0.mk (ho); clear HO_5; clear ho hb hg hat))
           go_roundg kj11
           case measure => have := HK1.out; have := HJ11.out; omega
           case rel => exact ⟨(y377), (x6_1), (wrap64 (x7_1 + 1)), (t367), (by first | rfl | (simp; done) | (simp [*]; done)), H', ⟨by have := HK1.out; have := HJ11.out; omega⟩, ⟨by (with_reducible repeat (first | apply Kd.R_alloc | apply Kd.R_drewN | apply Kd.R_drew)); exact HO379.out⟩, ⟨by (with_reducible repeat (first | apply Kd.R_alloc | apply Kd.R_drewN | apply Kd.R_drew)); exact Kd.R_mono HO_6.out (fun _ hk => hk.2)⟩, ⟨blk_x BK362.out⟩, ⟨by exact IsS90.up HI0.out⟩, ⟨by exact keep_y HK.out⟩, ⟨by exact below_y HB.out⟩⟩
          ·
           rw [if_neg c36] at H
           exact absurd H (by simp)
        ·
         replace c24 := Bool.eq_false_iff.mpr c24
         subst c24
         have H1 : (if t366 ≥ 0 then (if 0 ≤ t366 then (if t366 < (x6_1.length : Int) then (if 0 ≤ x7_1 then (if x7_1 < (l1_6.length : Int) then (if x5_1.length < 17592186044416 then (swarfkit_StowageOf.l0 kj11 (x5_1 ++ [t366]) (x6_1.set (t366 : Int).toNat (wrap64 ((rd x6_1 t366) + ((rd_T79 l1_6 x7_1).f0.f1)))) (wrap64 (x7_1 + 1)) t367 a1_0 a1_1 a1_2 l1_3 a1_4 l1_5 l1_6) else (none)) else (none)) else (none)) else (none)) else (none)) else (if x5_1.length < 17592186044416 then (swarfkit_StowageOf.l0 kj11 (x5_1 ++ [t366]) x6_1 (wrap64 (x7_1 + 1)) t367 a1_0 a1_1 a1_2 l1_3 a1_4 l1_5 l1_6) else (none))) = some (r1, r2) := by rw [if_neg (show ¬ (false = true) by decide)] at H; exact H
         clear H
         have H := H1
         clear H1
         by_cases c38 : t366 ≥ 0
         ·
          rw [if_pos c38] at H
          have c38b0 : decide (0 ≤ t366) = true := decide_eq_true c38
          clear c38
          by_cases c39 : 0 ≤ t366
          ·
           rw [if_pos c39] at H
           have c39b0 : decide (0 ≤ t366) = true := decide_eq_true c39
           clear c39
           by_cases c40 : t366 < (x6_1.length : Int)
           ·
            rw [if_pos c40] at H
            have c40b0 : decide (t366 < (x6_1.length : Int)) = true := decide_eq_true c40
            clear c40
            by_cases c41 : 0 ≤ x7_1
            ·
             rw [if_pos c41] at H
             have c41b0 : decide (0 ≤ x7_1) = true := decide_eq_true c41
             clear c41
             by_cases c42 : x7_1 < (l1_6.length : Int)
             ·
              rw [if_pos c42] at H
              have c42b0 : decide (x7_1 < (l1_6.length : Int)) = true := decide_eq_true c42
              clear c42
              obtain ⟨y382, hy382⟩ : ∃ y_ : List Int, y_ = (x6_1.set (t366 : Int).toNat (wrap64 ((rd x6_1 t366) + ((rd_T79 l1_6 x7_1).f0.f1)))) := ⟨_, rfl⟩
              replace H : (if x5_1.length < 17592186044416 then (swarfkit_StowageOf.l0 kj11 (x5_1 ++ [t366]) y382 (wrap64 (x7_1 + 1)) t367 a1_0 a1_1 a1_2 l1_3 a1_4 l1_5 l1_6) else (none)) = some (r1, r2) := by first | (rw [hy382]; with_reducible exact H) | (have H2_ := (Option.bind_some _ _).symm.trans H; rw [hy382]; with_reducible exact H2_) | (have H2_ := (Option.bind_some _ _).symm.trans H; with_reducible exact H2_) | with_reducible exact H | (rw [hy382]; exact H) | exact H
              have Ny382 := Aside0.mk hy382
              clear hy382
              by_cases c44 : x5_1.length < 17592186044416
              ·
               rw [if_pos c44] at H
               have LMc44 := Aside0.mk c44
               clear c44
               obtain ⟨y383, hy383⟩ : ∃ y_ : List Int, y_ = (x5_1 ++ [t366]) := ⟨_, rfl⟩
               replace H : (swarfkit_StowageOf.l0 kj11 y383 y382 (wrap64 (x7_1 + 1)) t367 a1_0 a1_1 a1_2 l1_3 a1_4 l1_5 l1_6) = some (r1, r2) := by first | (rw [hy383]; with_reducible exact H) | (have H2_ := (Option.bind_some _ _).symm.trans H; rw [hy383]; with_reducible exact H2_) | (have H2_ := (Option.bind_some _ _).symm.trans H; with_reducible exact H2_) | with_reducible exact H | (rw [hy383]; exact H) | exact H
               have Ny383 := Aside0.mk hy383
               clear hy383
               have H' := Aside0.mk H
               clear H
               try go_wp2
               replace HO_5 := Aside0.mk (Kd.R_drew HO_5.out)
               replace HO_6 := Aside0.mk (Kd.R_drew HO_6.out)
               replace BK362 := Aside0.mk (blk_drew BK362.out)
               replace HI0 := Aside0.mk (IsS90.drew HI0.out)
               replace HK := Aside0.mk (keep_drew HK.out)
               replace HB := Aside0.mk (below_drew1 HB.out)
               obtain ⟨Ao46, co46, eo46⟩ := Kd.R_slice HO_6.out
               (first | subst eo46 | (injection eo46 with f1_ f2_ f3_; have f4_ := f1_.symm; have f5_ := f3_.symm; clear f1_ f2_ f3_; subst f4_; subst f5_))
               have p380 : 0 ≤ (t366 : Int) := of_x
               have q380 : t366 < (x6_1.length : Int) := of_x
               obtain ⟨ad380, e380, hx380_0⟩ := Kd.at_int (Kd.R_reads' HO_6.out).2.2 t366 p380 q380
               cases e380
               replace p380 := eq_true p380
               replace q380 := eq_true q380
               have p381 : 0 ≤ (x7_1 : Int) := of_x
               have q381 : x7_1 < (l1_6.length : Int) := of_x
               obtain ⟨ad381, e381, hx381_0, hx381_1, hx381_2⟩ := at_T79 (Kd.C_foot_now HR1_6.out HK.out) x7_1 p381 q381
               have hw381_2 := hx381_2
               have hw381_1 := hx381_1
               have hw381_0 := hx381_0
               cases e381
               have hne381_2 := (show (⟨(ad381.add ((x7_1).toNat * 3)).block, (ad381.add ((x7_1).toNat * 3)).off + 2, none⟩ : Addr).block ≠ g from by first | (rw [add_block]; exact Kd.foot_ne HR1_6.out (by omega) (by decide)) | (show (Addr.add _ _).block ≠ _; rw [add_block]; exact Kd.foot_ne HR1_6.out (by omega) (by decide)) | exact Kd.foot_ne HR1_6.out (by omega) (by decide) | (dsimp only; exact Kd.foot_ne HR1_6.out (by omega) (by decide)))
               have hlt381_2 := (Kd.foot_lt HR1_6.out (by omega) (by decide))
               have hne381_1 := (show (⟨(ad381.add ((x7_1).toNat * 3)).block, (ad381.add ((x7_1).toNat * 3)).off + 1, none⟩ : Addr).block ≠ g from by first | (rw [add_block]; exact Kd.foot_ne HR1_6.out (by omega) (by decide)) | (show (Addr.add _ _).block ≠ _; rw [add_block]; exact Kd.foot_ne HR1_6.out (by omega) (by decide)) | exact Kd.foot_ne HR1_6.out (by omega) (by decide) | (dsimp only; exact Kd.foot_ne HR1_6.out (by omega) (by decide)))
               have hlt381_1 := (Kd.foot_lt HR1_6.out (by omega) (by decide))
               have hne381_0 := (show ((ad381.add ((x7_1).toNat * 3)) : Addr).block ≠ g from by first | (rw [add_block]; exact Kd.foot_ne HR1_6.out (by omega) (by decide)) | (show (Addr.add _ _).block ≠ _; rw [add_block]; exact Kd.foot_ne HR1_6.out (by omega) (by decide)) | exact Kd.foot_ne HR1_6.out (by omega) (by decide) | (dsimp only; exact Kd.foot_ne HR1_6.out (by omega) (by decide)))
               have hlt381_0 := (Kd.foot_lt HR1_6.out (by omega) (by decide))
               replace p381 := eq_true p381
               replace q381 := eq_true q381
               have p43 : 0 ≤ (t366 : Int) := of_x
               have q43 : (t366 : Int) < ((x6_1.length : Int) : Int) := of_x
               obtain ⟨go43, co43, eo43, gb43, gl43, cl43, HG43⟩ := Kd.R_form HO_6.out (by omega)
               (first | cases eo43 | (injection eo43 with ea_ en_ ec_; (first | subst ea_ | (injection ea_ with ea_; subst ea_)); subst ec_; clear en_))
               have GB43 := Aside0.mk gb43
               have GG43 := Aside0.mk HG43
               clear gb43 gl43 HG43
               (first | simp only [add_plain] at hx380_0 | skip)
               obtain ⟨hx43_0, hf43_0⟩ := Kd.R_celln 0 HO_6.out (t366 : Int) p43 q43
               replace p43 := eq_true p43
               replace q43 := eq_true q43
               have HN0_go43 := Aside0.mk (show g ≠ go43 from by have h_ := IsS90.own_ne HI0.out HO_6.out (by decide); intro e_; exact h_ (by rw [e_]; rfl))
               have HP47 := Kd.R_putn HO_6.out (t366 : Int) (wrap64 ((rd x6_1 t366) + ((rd_T79 l1_6 x7_1).f0.f1)))
               rw [← Ny382.out] at HP47
               have HQ47 := Aside0.mk HP47
               clear HP47
               refine start_ (n := 16) (S := fun w' => w'.cell? ⟨gb362, 0, none⟩ = some (.int .i64 a1_0) ∧ w'.cell? ⟨gb362, 1, none⟩ = some (.int .i64 a1_1) ∧ w'.cell? ⟨gb362, 2, none⟩ = some (.int .i64 a1_2) ∧ w'.cell? ⟨gb362, 3, none⟩ = some (.slice A1_3 l1_3.length c1_3) ∧ w'.cell? ⟨gb362, 4, none⟩ = some (.int .i64 a1_4) ∧ w'.cell? ⟨gb362, 5, none⟩ = some (.slice A1_5 l1_5.length c1_5) ∧ w'.cell? ⟨gb362, 6, none⟩ = some (.slice (some ad381) l1_6.length c1_6) ∧ w'.cell? ⟨go43, (t366).toNat, none⟩ = some (.int .i64 (rd x6_1 t366)) ∧ w'.cell? (ad381.add ((x7_1).toNat * 3)) = some (.int .i64 ((rd_T79 l1_6 x7_1).f0.f0)) ∧ w'.cell? ⟨(ad381.add ((x7_1).toNat * 3)).block, (ad381.add ((x7_1).toNat * 3)).off + 1, none⟩ = some (.int .i64 ((rd_T79 l1_6 x7_1).f0.f1)) ∧ w'.cell? ⟨(ad381.add ((x7_1).toNat * 3)).block, (ad381.add ((x7_1).toNat * 3)).off + 2, none⟩ = some (.int .i64 ((rd_T79 l1_6 x7_1).f1))) (ds := [15]) #[false, false, false, false, false, false, false, false, false, false, false, false, false, false, false, false] (by kernel_rfl) rfl rfl ⟨(blk_cell BK362.out 0).trans rfl, (blk_cell BK362.out 1).trans rfl, (blk_cell BK362.out 2).trans rfl, (blk_cell BK362.out 3).trans rfl, (blk_cell BK362.out 4).trans rfl, (blk_cell BK362.out 5).trans rfl, (blk_cell BK362.out 6).trans rfl, hx380_0, hx381_0, hx381_1, hx381_2⟩ (fun hHeld => ?_); refine with_tabW swarfkit_StowageOf.tab10 swarfkit_StowageOf.bits10 (fun HT_ HW_ => ?_)
               generalize wc.drew = w45 at HO_5 HO_6 BK362 HI0 HK HB GG43 HQ47 hf43_0 hx380_0 hx381_0 hx381_1 hx381_2 hx43_0 hHeld ⊢
               refine pure_t 0 (some 51) (bz 16 1) HT_ ?_
               refine pure_t 1 (some 52) (bz 16 3) HT_ ?_
               refine pure_t 2 (some 53) (bz 16 7) HT_ ?_
               refine pure_t 3 (some 54) (bz 16 15) HT_ ?_
               refine pure_t 4 (some 55) (bz 16 31) HT_ ?_
               refine pure_t 6 (some 57) (bz 16 95) HT_ ?_
               refine pure_t 8 (some 59) (bz 16 351) HT_ ?_
               refine take_ (i := 5) (N := some 56) (v := ?_) (a' := ?_) (bz 16 383) rfl rfl (take_ofW HT_.out HW_.out (by kernel_rfl)) (fun _ _ _ h => h) (Or.inl ⟨by rfl, ?_⟩) hHeld ?_ ?_
               rotate_left; (rintro w' ⟨s0, s1, s2, s3, s4, s5, s6, s7, s8, s9, s10⟩; go_simp; with_reducible rfl); rotate_left; (simp only [Act.put, put_x, i64_w, i32_w]; rfl)
               refine take_ (i := 7) (N := some 58) (v := ?_) (a' := ?_) (bz 16 511) rfl rfl (take_ofW HT_.out HW_.out (by kernel_rfl)) (fun _ _ _ h => h) (Or.inl ⟨by rfl, ?_⟩) hHeld ?_ ?_
               rotate_left; (rintro w' ⟨s0, s1, s2, s3, s4, s5, s6, s7, s8, s9, s10⟩; go_simp; with_reducible rfl); rotate_left; (simp only [Act.put, put_x, i64_w, i32_w]; rfl)
               refine pure_t 9 (some 60) (bz 16 1023) HT_ ?_
               refine pure_t 10 (some 61) (bz 16 2047) HT_ ?_
               refine pure_t 11 (some 62) (bz 16 4095) HT_ ?_
               refine take_ (i := 12) (N := some 63) (v := ?_) (a' := ?_) (bz 16 8191) rfl rfl (take_ofW HT_.out HW_.out (by kernel_rfl)) (fun _ _ _ h => h) (Or.inl ⟨by rfl, ?_⟩) hHeld ?_ ?_
               rotate_left; (rintro w' ⟨s0, s1, s2, s3, s4, s5, s6, s7, s8, s9, s10⟩; go_simp; with_reducible rfl); rotate_left; (simp only [Act.put, put_x, i64_w, i32_w]; rfl)
               refine pure_t 13 (some 64) (bz 16 16383) HT_ ?_
               refine pure_t 14 (some 65) (bz 16 32767) HT_ ?_
               refine last_ (i := 15) (N := none) (bz 16 65535) rfl rfl (one_of HT_.out (by kernel_rfl)) (by decide) (fun K hK => ?_)
               refine skip_ (w1 := ?_) (by rfl) rfl ?_ ?_
               rotate_left
               ·
                go_simp
                rfl
               refine hK.out _ _ ?_
               clear hK K
               refine done_ (done_of HT_.out (by kernel_rfl)) ?_
               try go_wp2_with (first | ((with_reducible refine gate_builtin (b := .append) (xs := #[.tmp 66, .tmp 68]) rfl ?_); at_builtin; refine Kd.R_append (Kd.int .i64) w.heap.size rfl (.tmp 66) (.tmp 68) 27 3 (.int .i64 0) 8 rfl Try.underlying27 info3 rfl (by decide) (by omega) u5 x5_1 t366 [.int .i64 t366] (fun k_ => some k_ ≠ (.slice (some ⟨go43, 0, none⟩) x6_1.length co46 : Value).ownBlock) (fun _ => False) rfl (by first | (go_simp; done) | (go_simp; rfl)) ?aP (fun _ hk => hk.elim) ?aF ?aO (Below.refl _ _) ?aS ?aL ?_; (case aP => exact rfl); (case aF => exact (fun k_ hk => Kd.fresh' (Kd.R_lt (Kd.R_x HQ47.out)) k_ hk)); (case aO => exact (by (with_reducible repeat (first | apply Kd.R_alloc | apply Kd.R_drewN | apply Kd.R_drew)); exact Kd.R_mono (Kd.R_far (p := ⟨go43, (t366 : Int).toNat, none⟩) (Kd.R_mono HO_5.out (fun k_ hk => (⟨hk, fun e_ => hk (by rw [e_]; rfl)⟩ : _ ∧ k_ ≠ go43))) (fun _ hk => hk.2) (.int .i64 (wrap64 ((rd x6_1 t366) + ((rd_T79 l1_6 x7_1).f0.f1))))) (fun _ hk => hk.1))); (case aS => exact (keep_size (w := w) (g := g) (row := none) (by exact keep_y HK.out))); (case aL => have := LMc44.out; omega); intro v384 w48 ho hb hg hat; rw [← Ny383.out] at ho; replace BK362 := Aside0.mk (blk_grown (g := gb362) (o := .cells #[.int .i64 a1_0, .int .i64 a1_1, .int .i64 a1_2, .slice A1_3 l1_3.length c1_3, .int .i64 a1_4, .slice A1_5 l1_5.length c1_5, .slice (some ad381) l1_6.length c1_6] 26 (0, 0)) (by (with_reducible repeat (first | refine blk_drewN ?_ _ | refine blk_drew ?_ | refine blk_alloc ?_ _)); refine blk_far ?_ (by have h_ := Kd.R_ne HO_6.out BK362.out (by decide); intro e_; exact h_ (by rw [e_]; rfl)) _; (with_reducible repeat (first | refine blk_drewN ?_ _ | refine blk_drew ?_ | refine blk_alloc ?_ _)); exact BK362.out) hg (Kd.R_ne HO_5.out BK362.out (by decide))); replace HO_6 := Aside0.mk (Kd.R_after (ok := (fun _ => True)) (by (with_reducible repeat (first | apply Kd.R_alloc | apply Kd.R_drewN | apply Kd.R_drew)); exact Kd.R_mono HQ47.out (fun _ hk => ⟨trivial, hk⟩)) hg hat); replace HB := Aside0.mk (below_weaken (by repeat (first | (with_reducible first | exact HB.out | apply below_alloc | apply pw_below_drewN | apply below_drew1 | refine below_set ?_ (Nat.le_trans HL.out GB43.out) | refine below_set ?_ (IsS90.ge HI0.out) | refine below_set ?_ GE362.out) | exact HB.out)) HL.out hb); replace HI0 := Aside0.mk (IsS90.grown (w0 := w0) (f0 := t367) (by exact IsS90.up HI0.out) hg (IsS90.own_ne HI0.out HO_5.out (by decide))); replace HK := Aside0.mk (KeepBut.trans (by exact keep_y HK.out) (KeepBut.of_grown hg g) (Kd.R_base2 HO_5.out)); have HO385 := Aside0.mk (ho); clear HO_5; clear ho hb hg hat))
               go_roundg kj11
               case measure => have := HK1.out; have := HJ11.out; omega
               case rel => exact ⟨(y383), (y382), (wrap64 (x7_1 + 1)), (t367), (by first | rfl | (simp; done) | (simp [*]; done)), H', ⟨by have := HK1.out; have := HJ11.out; omega⟩, ⟨by (with_reducible repeat (first | apply Kd.R_alloc | apply Kd.R_drewN | apply Kd.R_drew)); exact HO385.out⟩, ⟨by (with_reducible repeat (first | apply Kd.R_alloc | apply Kd.R_drewN | apply Kd.R_drew)); exact Kd.R_mono HO_6.out (fun _ hk => hk.2)⟩, ⟨blk_x BK362.out⟩, ⟨by exact IsS90.up HI0.out⟩, ⟨by exact keep_y HK.out⟩, ⟨by exact below_y HB.out⟩⟩
              ·
               rw [if_neg c44] at H
               exact absurd H (by simp)
             ·
              rw [if_neg c42] at H
              exact absurd H (by simp)
            ·
             rw [if_neg c41] at H
             exact absurd H (by simp)
           ·
            rw [if_neg c40] at H
            exact absurd H (by simp)
          ·
           rw [if_neg c39] at H
           exact absurd H (by simp)
         ·
          rw [if_neg c38] at H
          have c38b0 : decide (0 ≤ t366) = false := decide_eq_false c38
          clear c38
          by_cases c49 : x5_1.length < 17592186044416
          ·
           rw [if_pos c49] at H
           have LMc49 := Aside0.mk c49
           clear c49
           obtain ⟨y386, hy386⟩ : ∃ y_ : List Int, y_ = (x5_1 ++ [t366]) := ⟨_, rfl⟩
           replace H : (swarfkit_StowageOf.l0 kj11 y386 x6_1 (wrap64 (x7_1 + 1)) t367 a1_0 a1_1 a1_2 l1_3 a1_4 l1_5 l1_6) = some (r1, r2) := by first | (rw [hy386]; with_reducible exact H) | (have H2_ := (Option.bind_some _ _).symm.trans H; rw [hy386]; with_reducible exact H2_) | (have H2_ := (Option.bind_some _ _).symm.trans H; with_reducible exact H2_) | with_reducible exact H | (rw [hy386]; exact H) | exact H
           have Ny386 := Aside0.mk hy386
           clear hy386
           have H' := Aside0.mk H
           clear H
           go_wp2_with (first | ((with_reducible refine gate_builtin (b := .append) (xs := #[.tmp 66, .tmp 68]) rfl ?_); at_builtin; refine Kd.R_append (Kd.int .i64) w.heap.size rfl (.tmp 66) (.tmp 68) 27 3 (.int .i64 0) 8 rfl Try.underlying27 info3 rfl (by decide) (by omega) u5 x5_1 t366 [.int .i64 t366] (fun k_ => some k_ ≠ (v364 : Value).ownBlock) (fun _ => False) rfl rfl ?aP (fun _ hk => hk.elim) ?aF ?aO (Below.refl _ _) ?aS ?aL ?_; (case aP => exact rfl); (case aF => exact (fun k_ hk => Kd.fresh' (Kd.R_lt (Kd.R_x HO_6.out)) k_ hk)); (case aO => exact (Kd.R_x HO_5.out)); (case aS => exact (keep_size (w := w) (g := g) (row := none) (by exact keep_y HK.out))); (case aL => have := LMc49.out; omega); intro v387 w50 ho hb hg hat; rw [← Ny386.out] at ho; replace HO_6 := Aside0.mk (Kd.R_after (ok := (fun _ => True)) (by (with_reducible repeat (first | apply Kd.R_alloc | apply Kd.R_drewN | apply Kd.R_drew)); exact Kd.R_mono HO_6.out (fun _ hk => ⟨trivial, hk⟩)) hg hat); replace BK362 := Aside0.mk (blk_grown (blk_x BK362.out) hg (Kd.R_ne HO_5.out BK362.out (by decide))); replace HI0 := Aside0.mk (IsS90.grown (by exact IsS90.up HI0.out) hg (IsS90.own_ne HI0.out HO_5.out (by decide))); replace HB := Aside0.mk (below_weaken (by exact below_y HB.out) HL.out hb); replace HK := Aside0.mk (KeepBut.trans (by exact keep_y HK.out) (KeepBut.of_grown hg g) (Kd.R_base2 HO_5.out)); have HO388 := Aside0.mk (ho); clear HO_5; clear ho hb hg hat))
           go_roundg kj11
           case measure => have := HK1.out; have := HJ11.out; omega
           case rel => exact ⟨(y386), (x6_1), (wrap64 (x7_1 + 1)), (t367), (by first | rfl | (simp; done) | (simp [*]; done)), H', ⟨by have := HK1.out; have := HJ11.out; omega⟩, ⟨by (with_reducible repeat (first | apply Kd.R_alloc | apply Kd.R_drewN | apply Kd.R_drew)); exact HO388.out⟩, ⟨by (with_reducible repeat (first | apply Kd.R_alloc | apply Kd.R_drewN | apply Kd.R_drew)); exact Kd.R_mono HO_6.out (fun _ hk => hk.2)⟩, ⟨blk_x BK362.out⟩, ⟨by exact IsS90.up HI0.out⟩, ⟨by exact keep_y HK.out⟩, ⟨by exact below_y HB.out⟩⟩
          ·
           rw [if_neg c49] at H
           exact absurd H (by simp)
     ·
      rw [if_neg c10] at H
      have c10b0 : decide (x7_1 < (l1_6.length : Int)) = false := decide_eq_false c10
      clear c10
      simp only [Option.some.injEq, Prod.mk.injEq] at H
      obtain ⟨rfl, rfl⟩ := H
      have hnb51 := NB362_0.out
      have hnc51 := NB0_362.out
      obtain ⟨_, _, _, _, _, _, _⟩ := cz7 BK362
      have hfz52_0 := blk_frozen BK362.out
      go_wp2
      go_ret
      exact ⟨_, by first | rfl | (simp [errW_none, errW_some] <;> rfl) | (simp [*, errW_none, errW_some] <;> rfl), by (with_reducible repeat (first | apply Kd.R_alloc | apply Kd.R_drewN | apply Kd.R_drew)); exact Kd.R_mono HO_5.out (fun _ hk => trivial), by exact IsS90.up HI0.out, by exact below_y HB.out, by exact keep_y HK.out⟩
  ·
   rw [if_neg c4] at H
   exact absurd H (by simp)
 ·
  rw [if_neg c3] at H
  exact absurd H (by simp)
end Go.Proofs.Ytodmemndaaiolaa.PC7
namespace Go.Proofs.Ytodmemndaaiolaa.PC7
set_option linter.unusedVariables false
set_option linter.unusedSimpArgs false
open Go.RowKit Go.Proofs.YtodmemndaaiolaaW.PrintWords Go.Proofs.YtodmemndaaiolaaW.PrintLast Go.Proofs.YtodmemndaaiolaaW.PrintMore
structure StowTo (holds : List S85) (lots : List S79) (s room : List Int) : Prop where
  rl : room.length = holds.length
  rg : ∀ y, y ∈ s → -1 ≤ y ∧ y < (holds.length : Int)
  ro : ∀ h : Nat, h < holds.length → room.getD h 0 = used lots h 0 s ∧ used lots h 0 s ≤ (holds.getD h z85).f0 ∧ 0 ≤ used lots h 0 s
theorem StowTo.skip {holds : List S85} {lots : List S79} {s room : List Int} (h : StowTo holds lots s room) : StowTo holds lots (s ++ [-1]) room :=
  ⟨h.rl, mem_snoc h.rg ⟨by omega, by omega⟩, fun k hk => by
    have := h.ro k hk
    rw [used_snoc, if_neg (by omega)]
    simpa using this⟩
theorem StowTo.put {holds : List S85} {lots : List S79} {s room : List Int} (h : StowTo holds lots s room) (g : Nat) (hg : g < holds.length) (h0 : 0 ≤ (lots.getD s.length z79).f0.f1) (hle : room.getD g 0 + (lots.getD s.length z79).f0.f1 ≤ (holds.getD g z85).f0) :
    StowTo holds lots (s ++ [(g : Int)]) (room.set g (room.getD g 0 + (lots.getD s.length z79).f0.f1)) := by
  refine ⟨by rw [List.length_set]; exact h.rl, mem_snoc h.rg ⟨by omega, by omega⟩, fun k hk => ?_⟩
  have hk1 := h.ro k hk
  have hl : k < room.length := by rw [h.rl]; exact hk
  rw [used_snoc, Nat.zero_add]
  by_cases e : k = g
  · subst e
    rw [if_pos rfl, List.getD, List.getElem?_set_self hl]
    refine ⟨?_, ?_, ?_⟩
    · show room.getD k 0 + _ = _; rw [hk1.1]
    · rw [← hk1.1]; exact hle
    · omega
  · rw [if_neg (by omega), List.getD, List.getElem?_set_ne (by omega)]
    simpa using hk1
theorem stow_l0 (L U R V : Int) (holds : List S85) (sills : List S59) (lots : List S79) {T : Int} (hT : T ≤ 1000) (hho : ∀ h, h ∈ holds → HoldV T h) (hlo : ∀ c, c ∈ lots → LotV T c) (hh : 1 ≤ holds.length ∧ holds.length ≤ 1000) (hl : lots.length ≤ 1000) (d : Nat) :
    ∀ (l room : List Int) (s : Int), l.length + d = lots.length → StowTo holds lots l room → Res (fun k => swarfkit_StowageOf.l0 k l room (l.length : Int) s L U R holds V sills lots) (fun r => StowOK holds lots r.1) := by
  induction d with
  | zero =>
    intro l room s hd hs
    refine Res.succ ?_
    simp (disch := omega) only [swarfkit_StowageOf.l0, if_neg]
    exact Res.now ⟨by show l.length = lots.length; omega, hs.rg, fun h hh => (hs.ro h hh).2.1⟩
  | succ d ih =>
    intro l room s hd hs
    have hrl := hs.rl
    obtain ⟨c1, c2, c3, c4, c5⟩ := hlo _ (getD_mem lots l.length z79 (by omega))
    have hskip : ∀ s2 : Int, Res (fun k => swarfkit_StowageOf.l0 k (l ++ [-1]) room (wrap64 ((l.length : Int) + 1)) s2 L U R holds V sills lots) (fun r => StowOK holds lots r.1) := fun s2 => by
      have := ih (l ++ [-1]) room s2 (by simp; omega) hs.skip
      rw [wrapS (by omega)]
      simpa using this
    refine Res.succ ?_
    have hw : wrap64 ((holds.length : Int) - 1) = (holds.length : Int) - 1 := wrap64_id (by omega) (by omega)
    obtain ⟨r, s1, e1, r1, r2⟩ := between_ok s (-1) ((holds.length : Int) - 1) (by omega) (by decide) (by omega)
    simp (disch := omega) only [swarfkit_StowageOf.l0, if_pos, hw]
    refine Res.take e1 ?_
    by_cases hr : r ≥ 0
    · obtain ⟨g, rfl⟩ := Int.eq_ofNat_of_zero_le hr
      have hg : g < holds.length := by omega
      obtain ⟨b1, b2, _⟩ := hho _ (getD_mem holds g z85 hg)
      obtain ⟨q1, q2, q3⟩ := hs.ro g hg
      have hwr : wrap64 (room.getD g 0 + (lots.getD l.length z79).f0.f1) = room.getD g 0 + (lots.getD l.length z79).f0.f1 := wrap64_id (by omega) (by omega)
      simp (disch := omega) only [if_pos, rdI, rd79, rd85, hwr]
      refine Res.succ ?_
      by_cases hgt : room.getD g 0 + (lots.getD l.length z79).f0.f1 > (holds.getD g z85).f0
      · rw [decide_eq_true hgt]
        simp (disch := omega) only [swarfkit_StowageOf.j1, if_true, if_pos, if_neg]
        exact hskip s1
      · rw [decide_eq_false hgt]
        simp (disch := omega) only [swarfkit_StowageOf.j1, Bool.false_eq_true, if_false, if_pos, rdI, rd79, hwr, Int.toNat_natCast]
        have := ih (l ++ [(g : Int)]) (room.set g (room.getD g 0 + (lots.getD l.length z79).f0.f1)) s1 (by simp; omega) (hs.put g hg (by omega) (by omega))
        rw [wrapS (by omega)]
        simpa using this
    · have : r = -1 := by omega
      subst this
      simp (disch := omega) only [if_neg]
      refine Res.succ ?_
      simp (disch := omega) only [swarfkit_StowageOf.j1, Bool.false_eq_true, if_false, if_pos, if_neg]
      exact hskip s1
theorem stowageOf_res {H S L' : Nat} {T L U R V : Int} {holds : List S85} {sills : List S59} {lots : List S79} (h : VoyOK H S L' T L U R holds V sills lots) (hH : H ≤ 100) (hL : L' ≤ 100) (hT : T ≤ 1000) (s : Int) :
    Res (fun k => swarfkit_StowageOf.f k s L U R holds V sills lots) (fun r => StowOK holds lots r.1) := by
  have h5 := h.hn; have h7 := h.ln
  unfold swarfkit_StowageOf.f
  simp (disch := omega) only [if_pos, Int.toNat_natCast]
  refine stow_l0 L U R V holds sills lots hT h.ho h.lo ⟨h5.1, by omega⟩ (by omega) lots.length [] _ s (by simp) ⟨by simp, fun y hy => by (cases hy), fun k hk => ?_⟩
  obtain ⟨b1, _⟩ := h.ho _ (getD_mem holds k z85 hk)
  refine ⟨?_, b1, Int.le_refl _⟩
  rw [List.getD, List.getElem?_replicate, if_pos hk]; rfl
set_option maxHeartbeats 8000000 in
set_option maxRecDepth 100000 in
theorem laden_calls (x : VoyV) (A1 : Option Addr) (c1 : Nat) (l1 : List Int) (Q : Q4) (w : World) (hx : x.Ok w) (hr1 : Kd.C (Kd.int .i64) w A1 l1.length l1) (hc1 : l1.length ≤ c1) (hl1 : l1.length ≤ 140737488351232)
  (h : ladenO x.light x.holds x.lots l1 = some Q) :
  Calls Try.prog 55 #[.agg #[.int .i64 x.light, .int .i64 x.under, .int .i64 x.trim, .slice x.A3 x.holds.length x.c3, .int .i64 x.leaves, .slice x.A5 x.sills.length x.c5, .slice x.A6 x.lots.length x.c6], .slice A1 l1.length c1] w fun e w' => e = .returned (.agg #[.int .i64 x.light, .int .i64 x.under, .int .i64 x.trim, .slice x.A3 x.holds.length x.c3, .int .i64 x.leaves, .slice x.A5 x.sills.length x.c5, .slice x.A6 x.lots.length x.c6, .int .i64 Q.b0, .int .i64 Q.b1, .int .i64 Q.h0, .int .i64 Q.h1]) ∧ Below w.heap.size w w' := by
 have hu26 := Try.underlying26
 have hu93 := Try.underlying93
 have hu95 := Try.underlying95
 have hu92 := Try.underlying92
 have hu85 := Try.underlying85
 have hu56 := Try.underlying56
 have hu79 := Try.underlying79
 have HX := Aside0.mk hx
 have HR1 := Aside0.mk hr1
 have HF := Aside0.mk h
 clear hx hr1 h
 go_enter Try.func55, Try.ntmps55
 go_upto_region 1 with (first
  | ((with_reducible refine gate_dst (N := 2) rfl ?_); refine box_event ?hg (N := 2) ?hd (cs := #[.int .i64 x.light, .int .i64 x.under, .int .i64 x.trim, .slice x.A3 x.holds.length x.c3, .int .i64 x.leaves, .slice x.A5 x.sills.length x.c5, .slice x.A6 x.lots.length x.c6]) (t := 26) ?hr ?_; (case hd => rfl); (case hg => rfl); (case hr => first | (go_simp; done) | (go_simp; rfl)); intro gb hg w2 hbox hb2; have BK := Aside0.mk hbox; have HB := Aside0.mk hb2; clear hg hbox hb2))
 have hs2_ := HB.out.size
 obtain ⟨g4, hg_⟩ : ∃ b, b = w2.heap.size := ⟨_, rfl⟩
 have Ng4 := Aside0.mk (blk_new w2 (.cells #[.int .i64 0, .int .i64 0, .int .i64 0, .slice none 0 0, .int .i64 0, .slice none 0 0, .slice none 0 0, .int .i64 0, .int .i64 0, .int .i64 0, .int .i64 0] 95 (0, 0)))
 have hbw : Below w2.heap.size w2 (w2.alloc (.cells #[.int .i64 0, .int .i64 0, .int .i64 0, .slice none 0 0, .int .i64 0, .slice none 0 0, .slice none 0 0, .int .i64 0, .int .i64 0, .int .i64 0, .int .i64 0] 95 (0, 0))) := below_alloc (Below.refl _ _) _
 generalize hw_ : w2.alloc (.cells #[.int .i64 0, .int .i64 0, .int .i64 0, .slice none 0 0, .int .i64 0, .slice none 0 0, .slice none 0 0, .int .i64 0, .int .i64 0, .int .i64 0, .int .i64 0] 95 (0, 0)) = w3 at *
 rw [← hg_] at Ng4 ⊢
 replace BK := Aside0.mk (blk_below BK.out hbw)
 replace HB := Aside0.mk (below_step HB.out hbw)
 have HN4 : Aside0 (w.heap.size ≤ g4) := ⟨by omega⟩
 clear hs2_ hbw hw_ hg_
 have hz0_ := (blk_cell BK.out 0).trans rfl
 have hz1_ := (blk_cell BK.out 1).trans rfl
 have hz2_ := (blk_cell BK.out 2).trans rfl
 have hz3_ := (blk_cell BK.out 3).trans rfl
 have hz4_ := (blk_cell BK.out 4).trans rfl
 have hz5_ := (blk_cell BK.out 5).trans rfl
 have hz6_ := (blk_cell BK.out 6).trans rfl
 go_upto_region 2 with (fail)
 clear hz0_ hz1_ hz2_ hz3_ hz4_ hz5_ hz6_
 obtain ⟨g5, hg_⟩ : ∃ b, b = w3.heap.size := ⟨_, rfl⟩
 have Ng5 := Aside0.mk (blk_new w3 (.cells #[.int .i64 (wrap64 (1000 * x.light)), .int .i64 (wrap64 (1000 * x.light))] 93 (0, 0)))
 have hbw : Below w3.heap.size w3 (w3.alloc (.cells #[.int .i64 (wrap64 (1000 * x.light)), .int .i64 (wrap64 (1000 * x.light))] 93 (0, 0))) := below_alloc (Below.refl _ _) _
 generalize hw_ : w3.alloc (.cells #[.int .i64 (wrap64 (1000 * x.light)), .int .i64 (wrap64 (1000 * x.light))] 93 (0, 0)) = w4 at *
 rw [← hg_] at Ng5 ⊢
 replace BK := Aside0.mk (blk_below BK.out hbw)
 replace Ng4 := Aside0.mk (blk_below Ng4.out hbw)
 replace HB := Aside0.mk (below_step HB.out hbw)
 clear hbw hw_ hg_
 have hz0_ := (blk_cell BK.out 0).trans rfl
 have hz1_ := (blk_cell BK.out 1).trans rfl
 have hz2_ := (blk_cell BK.out 2).trans rfl
 have hz3_ := (blk_cell BK.out 3).trans rfl
 have hz4_ := (blk_cell BK.out 4).trans rfl
 have hz5_ := (blk_cell BK.out 5).trans rfl
 have hz6_ := (blk_cell BK.out 6).trans rfl
 have he0_ := (blk_cell Ng5.out 0).trans rfl
 have he1_ := (blk_cell Ng5.out 1).trans rfl
 go_upto_region 3 with (fail)
 clear hz0_ hz1_ hz2_ hz3_ hz4_ hz5_ hz6_ he0_ he1_
 have hs4_ := HB.out.size
 have hl4_ := blk_lt Ng4.out
 obtain ⟨g6, hg_⟩ : ∃ b, b = w4.heap.size := ⟨_, rfl⟩
 have Ng6 := Aside0.mk (blk_new w4 (.cells #[.int .i64 x.light, .int .i64 x.under, .int .i64 x.trim, .slice x.A3 x.holds.length x.c3, .int .i64 x.leaves, .slice x.A5 x.sills.length x.c5, .slice x.A6 x.lots.length x.c6, .int .i64 (wrap64 (1000 * x.light)), .int .i64 (wrap64 (1000 * x.light)), .int .i64 (wrap64 (1000 * x.light)), .int .i64 (wrap64 (1000 * x.light))] 95 (0, 0)))
 have hbw : Below w4.heap.size w4 (w4.alloc (.cells #[.int .i64 x.light, .int .i64 x.under, .int .i64 x.trim, .slice x.A3 x.holds.length x.c3, .int .i64 x.leaves, .slice x.A5 x.sills.length x.c5, .slice x.A6 x.lots.length x.c6, .int .i64 (wrap64 (1000 * x.light)), .int .i64 (wrap64 (1000 * x.light)), .int .i64 (wrap64 (1000 * x.light)), .int .i64 (wrap64 (1000 * x.light))] 95 (0, 0))) := below_alloc (Below.refl _ _) _
 generalize hw_ : w4.alloc (.cells #[.int .i64 x.light, .int .i64 x.under, .int .i64 x.trim, .slice x.A3 x.holds.length x.c3, .int .i64 x.leaves, .slice x.A5 x.sills.length x.c5, .slice x.A6 x.lots.length x.c6, .int .i64 (wrap64 (1000 * x.light)), .int .i64 (wrap64 (1000 * x.light)), .int .i64 (wrap64 (1000 * x.light)), .int .i64 (wrap64 (1000 * x.light))] 95 (0, 0)) = w5 at *
 rw [← hg_] at Ng6 ⊢
 replace BK := Aside0.mk (blk_below BK.out hbw)
 replace Ng4 := Aside0.mk (blk_below Ng4.out hbw)
 replace Ng5 := Aside0.mk (blk_below Ng5.out hbw)
 replace HB := Aside0.mk (below_step HB.out hbw)
 have HN6 : Aside0 (g4 ≠ g6 ∧ w.heap.size ≤ g6) := ⟨by omega, by omega⟩
 clear hs4_ hl4_ hbw hw_ hg_
 go_wp2
 go_loopg [26] l1.length (fun gk v26 wr => ∃ (k : Nat) (q : Q4), k ≤ l1.length ∧ l1.length - k ≤ gk ∧ v26 = .int .i64 k ∧ Aside0 (ladO x.holds x.lots k (l1.drop k) q = some Q) ∧ Aside0 (wr.heap[gb]? = some (.cells #[.int .i64 x.light, .int .i64 x.under, .int .i64 x.trim, .slice x.A3 x.holds.length x.c3, .int .i64 x.leaves, .slice x.A5 x.sills.length x.c5, .slice x.A6 x.lots.length x.c6] 26 (0, 0))) ∧ Aside0 (wr.heap[g4]? = some (.cells #[.int .i64 0, .int .i64 0, .int .i64 0, .slice none 0 0, .int .i64 0, .slice none 0 0, .slice none 0 0, .int .i64 0, .int .i64 0, .int .i64 0, .int .i64 0] 95 (0, 0))) ∧ Aside0 (wr.heap[g6]? = some (.cells #[.int .i64 x.light, .int .i64 x.under, .int .i64 x.trim, .slice x.A3 x.holds.length x.c3, .int .i64 x.leaves, .slice x.A5 x.sills.length x.c5, .slice x.A6 x.lots.length x.c6, .int .i64 q.b0, .int .i64 q.b1, .int .i64 q.h0, .int .i64 q.h1] 95 (0, 0))) ∧ Aside0 (Below w.heap.size w wr))
 case atStart => exact ⟨0, ⟨wrap64 (1000 * x.light), wrap64 (1000 * x.light), wrap64 (1000 * x.light), wrap64 (1000 * x.light)⟩, by omega, by omega, rfl, HF, BK, Ng4, Ng6, HB⟩
 case round =>
  clear BK Ng4 Ng5 Ng6 HB HF
  obtain ⟨k, q, hk, hgk, rfl, HF, BK, B4, B6, HB⟩ := hrel
  by_cases hlt : k < l1.length
  ·
   have hlz : (k : Int) < (l1.length : Int) := by omega
   have hdr := drop_rd l1 k hlt
   rw [hdr] at HF
   clear hdr
   obtain ⟨ad, e, hx0⟩ := Kd.at_int HR1.out (k : Int) (by omega) hlz
   cases e
   rw [Int.toNat_natCast] at hx0
   replace hx0 := cell_x HB hx0
   generalize rd l1 (k : Int) = a at *
   by_cases ha : a < 0
   ·
    have HF2 := Aside0.mk ((show ladO x.holds x.lots (k + 1) (l1.drop (k + 1)) q = some Q by have := HF.out; simp only [ladO] at this; rwa [if_pos ha] at this))
    go_wp2
    go_roundg (l1.length - (k + 1))
    case measure => omega
    case rel => exact ⟨k + 1, q, by omega, by omega, by go_num, HF2, BK, B4, B6, HB⟩
   ·
    have hF := HF.out
    simp only [ladO] at hF
    rw [if_neg ha] at hF
    by_cases ha2 : a < (x.holds.length : Int)
    case neg => rw [if_neg ha2] at hF; cases hF
    rw [if_pos ha2] at hF
    by_cases hk2 : k < x.lots.length
    case neg => rw [if_neg hk2] at hF; cases hF
    rw [if_pos hk2] at hF
    have HF2 := Aside0.mk hF
    clear hF
    go_upto_region 7 with (fail)
    obtain ⟨adh, e3, hh0, hh1, hh2⟩ := at_T85 HX.out.h a (by omega) ha2
    obtain ⟨adl, e6, ht0, ht1, ht2⟩ := at_T79 HX.out.l (k : Int) (by omega) (by omega)
    rw [Int.toNat_natCast] at ht0 ht1
    replace hh0 := cell_x HB hh0
    replace hh1 := cell_x HB hh1
    replace hh2 := cell_x HB hh2
    replace ht0 := cell_x HB ht0
    replace ht1 := cell_x HB ht1
    have hz3_ : wr.cell? ⟨gb, 3, none⟩ = some (.slice (some adh) x.holds.length x.c3) := (by rw [← e3]; exact (blk_cell BK.out 3).trans rfl)
    have hz6_ : wr.cell? ⟨gb, 6, none⟩ = some (.slice (some adl) x.lots.length x.c6) := (by rw [← e6]; exact (blk_cell BK.out 6).trans rfl)
    have haz : 0 ≤ a := by omega
    have hkz : (k : Int) < (x.lots.length : Int) := by omega
    clear ha ht2 e3 e6 hk2
    generalize rd_T85 x.holds a = hd at *
    generalize (rd_T79 x.lots (k : Int)).f0 = tn at *
    have hd_ := below_drew1 (Below.refl wr.heap.size wr)
    replace BK := Aside0.mk (blk_drew BK.out)
    replace B4 := Aside0.mk (blk_drew B4.out)
    replace B6 := Aside0.mk (blk_drew B6.out)
    replace HB := Aside0.mk (below_step HB.out hd_)
    have HS0 := Aside0.mk (show wr.drew.cell? ⟨gb, 3, none⟩ = some (.slice (some adh) x.holds.length x.c3) ∧ wr.drew.cell? ⟨gb, 6, none⟩ = some (.slice (some adl) x.lots.length x.c6) ∧ wr.drew.cell? (adh.add (a.toNat * 3)) = some (.int .i64 hd.f0) ∧ wr.drew.cell? ⟨(adh.add (a.toNat * 3)).block, (adh.add (a.toNat * 3)).off + 1, none⟩ = some (.int .i64 hd.f1) ∧ wr.drew.cell? ⟨(adh.add (a.toNat * 3)).block, (adh.add (a.toNat * 3)).off + 2, none⟩ = some (.int .i64 hd.f2) ∧ wr.drew.cell? (adl.add (k * 3)) = some (.int .i64 tn.f0) ∧ wr.drew.cell? ⟨(adl.add (k * 3)).block, (adl.add (k * 3)).off + 1, none⟩ = some (.int .i64 tn.f1) from ⟨hz3_, hz6_, hh0, hh1, hh2, ht0, ht1⟩)
    clear hd_
    refine start_ (n := 15) (S := fun w' => w'.cell? ⟨gb, 3, none⟩ = some (.slice (some adh) x.holds.length x.c3) ∧ w'.cell? ⟨gb, 6, none⟩ = some (.slice (some adl) x.lots.length x.c6) ∧ w'.cell? (adh.add (a.toNat * 3)) = some (.int .i64 hd.f0) ∧ w'.cell? ⟨(adh.add (a.toNat * 3)).block, (adh.add (a.toNat * 3)).off + 1, none⟩ = some (.int .i64 hd.f1) ∧ w'.cell? ⟨(adh.add (a.toNat * 3)).block, (adh.add (a.toNat * 3)).off + 2, none⟩ = some (.int .i64 hd.f2) ∧ w'.cell? (adl.add (k * 3)) = some (.int .i64 tn.f0) ∧ w'.cell? ⟨(adl.add (k * 3)).block, (adl.add (k * 3)).off + 1, none⟩ = some (.int .i64 tn.f1)) (ds := [14]) #[false, false, false, false, false, false, false, false, false, false, false, false, false, false, false] (by kernel_rfl) rfl rfl ⟨hz3_, hz6_, hh0, hh1, hh2, ht0, ht1⟩ (fun hHeld => ?_)
    generalize wr.drew = wd at BK B4 B6 HB HS0 hHeld ⊢
    refine pure_y 0 (some 33) (bz 15 1) ?_
    refine pure_y 2 (some 35) (bz 15 5) ?_
    refine pure_y 5 (some 38) (bz 15 37) ?_
    refine pure_y 7 (some 40) (bz 15 165) ?_
    refine take_ (i := 1) (N := some 34) (v := ?_) (a' := ?_) (bz 15 167) rfl rfl (by kernel_rfl) (fun _ _ _ h => h) (Or.inl ⟨by rfl, ?_⟩) hHeld ?_ ?_
    rotate_left; (rintro w' ⟨s0, s1, s2, s3, s4, s5, s6⟩; go_simp; with_reducible rfl); rotate_left; (simp only [Act.put, put_x, i64_w, i32_w]; rfl)
    refine pure_y 3 (some 36) (bz 15 175) ?_
    refine take_ (i := 4) (N := some 37) (v := ?_) (a' := ?_) (bz 15 191) rfl rfl (by kernel_rfl) (fun _ _ _ h => h) (Or.inl ⟨by rfl, ?_⟩) hHeld ?_ ?_
    rotate_left; (rintro w' ⟨s0, s1, s2, s3, s4, s5, s6⟩; go_simp; with_reducible rfl); rotate_left; (simp only [Act.put, put_x, i64_w, i32_w]; rfl)
    refine take_ (i := 6) (N := some 39) (v := ?_) (a' := ?_) (bz 15 255) rfl rfl (by kernel_rfl) (fun _ _ _ h => h) (Or.inl ⟨by rfl, ?_⟩) hHeld ?_ ?_
    rotate_left; (rintro w' ⟨s0, s1, s2, s3, s4, s5, s6⟩; go_simp; with_reducible rfl); rotate_left; (simp only [Act.put, put_x, i64_w, i32_w]; rfl)
    refine pure_y 8 (some 41) (bz 15 511) ?_
    refine pure_y 9 (some 42) (bz 15 1023) ?_
    refine take_ (i := 10) (N := some 43) (v := ?_) (a' := ?_) (bz 15 2047) rfl rfl (by kernel_rfl) (fun _ _ _ h => h) (Or.inl ⟨by rfl, ?_⟩) hHeld ?_ ?_
    rotate_left; (rintro w' ⟨s0, s1, s2, s3, s4, s5, s6⟩; go_simp; with_reducible rfl); rotate_left; (simp only [Act.put, put_x, i64_w, i32_w]; rfl)
    refine join_ (σ := Nat × Nat) 2 (bz 15 8191) (fun s_ => [(9, .pointer (some ⟨s_.1, 0, none⟩)), (10, .pointer (some ⟨s_.2, 0, none⟩))]) (fun s_ w' => (w'.cell? ⟨gb, 3, none⟩ = some (.slice (some adh) x.holds.length x.c3) ∧ w'.cell? ⟨gb, 6, none⟩ = some (.slice (some adl) x.lots.length x.c6) ∧ w'.cell? (adh.add (a.toNat * 3)) = some (.int .i64 hd.f0) ∧ w'.cell? ⟨(adh.add (a.toNat * 3)).block, (adh.add (a.toNat * 3)).off + 1, none⟩ = some (.int .i64 hd.f1) ∧ w'.cell? ⟨(adh.add (a.toNat * 3)).block, (adh.add (a.toNat * 3)).off + 2, none⟩ = some (.int .i64 hd.f2) ∧ w'.cell? (adl.add (k * 3)) = some (.int .i64 tn.f0) ∧ w'.cell? ⟨(adl.add (k * 3)).block, (adl.add (k * 3)).off + 1, none⟩ = some (.int .i64 tn.f1)) ∧ Aside0 (w'.heap[s_.1]? = some (.cells #[.int .i64 0, .int .i64 0, .int .i64 0] 85 (0, 0))) ∧ Aside0 (w'.heap[s_.2]? = some (.cells #[.int .i64 0, .int .i64 0] 56 (0, 0))) ∧ wd.heap.size ≤ s_.1 ∧ wd.heap.size ≤ s_.2 ∧ Aside0 (Below wd.heap.size wd w')) ?_ ?_
    rotate_left
    ·
     intro hCont
     refine two_ (i := 11) (j := 12) (Ni := some 9) (Nj := some 10) (bz 15 4095) #[true, true, true, true, true, true, true, true, true, true, true, false, true, false, false] rfl rfl rfl rfl (by kernel_rfl) (by decide) (by decide) (fun K hK => ?_) (fun K hK => ?_)
     ·
      skip
      have HBd := Aside0.mk (Below.refl wd.heap.size wd)
      refine value_ (w1 := ?_) (v := ?_) (by rfl) rfl ?_ ?_
      rotate_left 2
      ·
       go_simp
       constructor
       ·
        rfl
       ·
        rfl
      obtain ⟨g9, hg_⟩ : ∃ b, b = wd.heap.size := ⟨_, rfl⟩
      have B9 := Aside0.mk (blk_new wd (.cells #[.int .i64 0, .int .i64 0, .int .i64 0] 85 (0, 0)))
      have hb11_ : Below wd.heap.size wd (wd.alloc (.cells #[.int .i64 0, .int .i64 0, .int .i64 0] 85 (0, 0))) := below_alloc (Below.refl _ _) _
      have hg9_ : wd.heap.size ≤ g9 := by rw [hg_]; exact HBd.out.size
      generalize hw_ : wd.alloc (.cells #[.int .i64 0, .int .i64 0, .int .i64 0] 85 (0, 0)) = wq11 at *
      rw [← hg_] at B9 ⊢
      replace HBd := Aside0.mk (below_step HBd.out hb11_)
      clear hw_ hg_
      refine hK.out _ _ ⟨(hb11_.cell (World.block_lt_of_cell? _ _ (hHeld.1))).trans (hHeld.1), (hb11_.cell (World.block_lt_of_cell? _ _ (hHeld.2.1))).trans (hHeld.2.1), (hb11_.cell (World.block_lt_of_cell? _ _ (hHeld.2.2.1))).trans (hHeld.2.2.1), (hb11_.cell (World.block_lt_of_cell? _ _ (hHeld.2.2.2.1))).trans (hHeld.2.2.2.1), (hb11_.cell (World.block_lt_of_cell? _ _ (hHeld.2.2.2.2.1))).trans (hHeld.2.2.2.2.1), (hb11_.cell (World.block_lt_of_cell? _ _ (hHeld.2.2.2.2.2.1))).trans (hHeld.2.2.2.2.2.1), (hb11_.cell (World.block_lt_of_cell? _ _ (hHeld.2.2.2.2.2.2))).trans (hHeld.2.2.2.2.2.2)⟩ (fun hHeld => ?_)
      clear hK K
      refine norm_ (a' := ?_) ?_ ?_; rotate_left; (show Act.put _ (some 9) _ = _; simp only [Act.put, put_x, i64_w, i32_w]; rfl)
      refine one_ (i := 12) (N := some 10) (bz 15 8191) rfl rfl (by kernel_rfl) (by decide) (fun K hK => ?_)
      refine value_ (w1 := ?_) (v := ?_) (by rfl) rfl ?_ ?_
      rotate_left 2
      ·
       go_simp
       constructor
       ·
        rfl
       ·
        rfl
      obtain ⟨g10, hg_⟩ : ∃ b, b = wq11.heap.size := ⟨_, rfl⟩
      have B10 := Aside0.mk (blk_new wq11 (.cells #[.int .i64 0, .int .i64 0] 56 (0, 0)))
      have hb12_ : Below wq11.heap.size wq11 (wq11.alloc (.cells #[.int .i64 0, .int .i64 0] 56 (0, 0))) := below_alloc (Below.refl _ _) _
      have hg10_ : wd.heap.size ≤ g10 := by rw [hg_]; exact HBd.out.size
      generalize hw_ : wq11.alloc (.cells #[.int .i64 0, .int .i64 0] 56 (0, 0)) = wq11_12 at *
      rw [← hg_] at B10 ⊢
      replace B9 := Aside0.mk (blk_below B9.out hb12_)
      replace HBd := Aside0.mk (below_step HBd.out hb12_)
      clear hw_ hg_
      refine hK.out _ _ ⟨(hb12_.cell (World.block_lt_of_cell? _ _ (hHeld.1))).trans (hHeld.1), (hb12_.cell (World.block_lt_of_cell? _ _ (hHeld.2.1))).trans (hHeld.2.1), (hb12_.cell (World.block_lt_of_cell? _ _ (hHeld.2.2.1))).trans (hHeld.2.2.1), (hb12_.cell (World.block_lt_of_cell? _ _ (hHeld.2.2.2.1))).trans (hHeld.2.2.2.1), (hb12_.cell (World.block_lt_of_cell? _ _ (hHeld.2.2.2.2.1))).trans (hHeld.2.2.2.2.1), (hb12_.cell (World.block_lt_of_cell? _ _ (hHeld.2.2.2.2.2.1))).trans (hHeld.2.2.2.2.2.1), (hb12_.cell (World.block_lt_of_cell? _ _ (hHeld.2.2.2.2.2.2))).trans (hHeld.2.2.2.2.2.2)⟩ (fun hHeld => ?_)
      clear hK K
      refine norm_ (a' := ?_) ?_ ?_; rotate_left; (show Act.put _ (some 10) _ = _; simp only [Act.put, put_x, i64_w, i32_w]; rfl)
      exact norm_ (by simp only [putAll, Act.put, put_x]) (hCont (g9, g10) _ ⟨hHeld, B9, B10, hg9_, hg10_, HBd⟩)
     ·
      skip
      have HBd := Aside0.mk (Below.refl wd.heap.size wd)
      refine value_ (w1 := ?_) (v := ?_) (by rfl) rfl ?_ ?_
      rotate_left 2
      ·
       go_simp
       constructor
       ·
        rfl
       ·
        rfl
      obtain ⟨g10, hg_⟩ : ∃ b, b = wd.heap.size := ⟨_, rfl⟩
      have B10 := Aside0.mk (blk_new wd (.cells #[.int .i64 0, .int .i64 0] 56 (0, 0)))
      have hb12_ : Below wd.heap.size wd (wd.alloc (.cells #[.int .i64 0, .int .i64 0] 56 (0, 0))) := below_alloc (Below.refl _ _) _
      have hg10_ : wd.heap.size ≤ g10 := by rw [hg_]; exact HBd.out.size
      generalize hw_ : wd.alloc (.cells #[.int .i64 0, .int .i64 0] 56 (0, 0)) = wq12 at *
      rw [← hg_] at B10 ⊢
      replace HBd := Aside0.mk (below_step HBd.out hb12_)
      clear hw_ hg_
      refine hK.out _ _ ⟨(hb12_.cell (World.block_lt_of_cell? _ _ (hHeld.1))).trans (hHeld.1), (hb12_.cell (World.block_lt_of_cell? _ _ (hHeld.2.1))).trans (hHeld.2.1), (hb12_.cell (World.block_lt_of_cell? _ _ (hHeld.2.2.1))).trans (hHeld.2.2.1), (hb12_.cell (World.block_lt_of_cell? _ _ (hHeld.2.2.2.1))).trans (hHeld.2.2.2.1), (hb12_.cell (World.block_lt_of_cell? _ _ (hHeld.2.2.2.2.1))).trans (hHeld.2.2.2.2.1), (hb12_.cell (World.block_lt_of_cell? _ _ (hHeld.2.2.2.2.2.1))).trans (hHeld.2.2.2.2.2.1), (hb12_.cell (World.block_lt_of_cell? _ _ (hHeld.2.2.2.2.2.2))).trans (hHeld.2.2.2.2.2.2)⟩ (fun hHeld => ?_)
      clear hK K
      refine norm_ (a' := ?_) ?_ ?_; rotate_left; (show Act.put _ (some 10) _ = _; simp only [Act.put, put_x, i64_w, i32_w]; rfl)
      refine one_ (i := 11) (N := some 9) (bz 15 8191) rfl rfl (by kernel_rfl) (by decide) (fun K hK => ?_)
      refine value_ (w1 := ?_) (v := ?_) (by rfl) rfl ?_ ?_
      rotate_left 2
      ·
       go_simp
       constructor
       ·
        rfl
       ·
        rfl
      obtain ⟨g9, hg_⟩ : ∃ b, b = wq12.heap.size := ⟨_, rfl⟩
      have B9 := Aside0.mk (blk_new wq12 (.cells #[.int .i64 0, .int .i64 0, .int .i64 0] 85 (0, 0)))
      have hb11_ : Below wq12.heap.size wq12 (wq12.alloc (.cells #[.int .i64 0, .int .i64 0, .int .i64 0] 85 (0, 0))) := below_alloc (Below.refl _ _) _
      have hg9_ : wd.heap.size ≤ g9 := by rw [hg_]; exact HBd.out.size
      generalize hw_ : wq12.alloc (.cells #[.int .i64 0, .int .i64 0, .int .i64 0] 85 (0, 0)) = wq12_11 at *
      rw [← hg_] at B9 ⊢
      replace B10 := Aside0.mk (blk_below B10.out hb11_)
      replace HBd := Aside0.mk (below_step HBd.out hb11_)
      clear hw_ hg_
      refine hK.out _ _ ⟨(hb11_.cell (World.block_lt_of_cell? _ _ (hHeld.1))).trans (hHeld.1), (hb11_.cell (World.block_lt_of_cell? _ _ (hHeld.2.1))).trans (hHeld.2.1), (hb11_.cell (World.block_lt_of_cell? _ _ (hHeld.2.2.1))).trans (hHeld.2.2.1), (hb11_.cell (World.block_lt_of_cell? _ _ (hHeld.2.2.2.1))).trans (hHeld.2.2.2.1), (hb11_.cell (World.block_lt_of_cell? _ _ (hHeld.2.2.2.2.1))).trans (hHeld.2.2.2.2.1), (hb11_.cell (World.block_lt_of_cell? _ _ (hHeld.2.2.2.2.2.1))).trans (hHeld.2.2.2.2.2.1), (hb11_.cell (World.block_lt_of_cell? _ _ (hHeld.2.2.2.2.2.2))).trans (hHeld.2.2.2.2.2.2)⟩ (fun hHeld => ?_)
      clear hK K
      refine norm_ (a' := ?_) ?_ ?_; rotate_left; (show Act.put _ (some 9) _ = _; simp only [Act.put, put_x, i64_w, i32_w]; rfl)
      exact norm_ (by simp only [putAll, Act.put, put_x]) (hCont (g9, g10) _ ⟨hHeld, B9, B10, hg9_, hg10_, HBd⟩)
    rintro ⟨g9, g10⟩ wj ⟨hHeld, B9, B10, hg9_, hg10_, HBd⟩
    refine norm_ (a' := ?_) ?_ ?_
    rotate_left
    ·
     simp only [putAll, Act.put, put_x]
     rfl
    refine one_ (i := 13) (N := none) (bz 15 16383) rfl rfl (by kernel_rfl) (by decide) (fun K hK => ?_)
    have hy0_ := (blk_cell B9.out 0).trans rfl
    have hy1_ := (blk_cell B9.out 1).trans rfl
    have hy2_ := (blk_cell B9.out 2).trans rfl
    have hf0_ := blk_frozen B9.out 0
    have hf1_ := blk_frozen B9.out 1
    have hf2_ := blk_frozen B9.out 2
    refine skip_ (w1 := ?_) (by rfl) rfl ?_ ?_; rotate_left; (go_simp; rfl)
    have hx_ := below_set (j := 2) (v := .int .i64 hd.f2) (below_set (j := 1) (v := .int .i64 hd.f1) (below_set (j := 0) (v := .int .i64 hd.f0) HBd.out hg9_) hg9_) hg9_
    refine hK.out _ _ ⟨(hx_.cell (World.block_lt_of_cell? _ _ (HS0.out.1))).trans (HS0.out.1), (hx_.cell (World.block_lt_of_cell? _ _ (HS0.out.2.1))).trans (HS0.out.2.1), (hx_.cell (World.block_lt_of_cell? _ _ (HS0.out.2.2.1))).trans (HS0.out.2.2.1), (hx_.cell (World.block_lt_of_cell? _ _ (HS0.out.2.2.2.1))).trans (HS0.out.2.2.2.1), (hx_.cell (World.block_lt_of_cell? _ _ (HS0.out.2.2.2.2.1))).trans (HS0.out.2.2.2.2.1), (hx_.cell (World.block_lt_of_cell? _ _ (HS0.out.2.2.2.2.2.1))).trans (HS0.out.2.2.2.2.2.1), (hx_.cell (World.block_lt_of_cell? _ _ (HS0.out.2.2.2.2.2.2))).trans (HS0.out.2.2.2.2.2.2)⟩ (fun hHeld => ?_)
    clear hK K
    refine last_ (i := 14) (N := none) (bz 15 32767) rfl rfl (by kernel_rfl) (by decide) (fun K hK => ?_)
    have hn_ : g10 ≠ g9 := blk_ne_ B10.out B9.out (by decide)
    have hy0_ := (blk_cell (blk_far (blk_far (blk_far B10.out (p := ⟨g9, 0, none⟩) hn_ (.int .i64 hd.f0)) (p := ⟨g9, 1, none⟩) hn_ (.int .i64 hd.f1)) (p := ⟨g9, 2, none⟩) hn_ (.int .i64 hd.f2)) 0).trans rfl
    have hy1_ := (blk_cell (blk_far (blk_far (blk_far B10.out (p := ⟨g9, 0, none⟩) hn_ (.int .i64 hd.f0)) (p := ⟨g9, 1, none⟩) hn_ (.int .i64 hd.f1)) (p := ⟨g9, 2, none⟩) hn_ (.int .i64 hd.f2)) 1).trans rfl
    have hf0_ := blk_frozen (blk_far (blk_far (blk_far B10.out (p := ⟨g9, 0, none⟩) hn_ (.int .i64 hd.f0)) (p := ⟨g9, 1, none⟩) hn_ (.int .i64 hd.f1)) (p := ⟨g9, 2, none⟩) hn_ (.int .i64 hd.f2)) 0
    have hf1_ := blk_frozen (blk_far (blk_far (blk_far B10.out (p := ⟨g9, 0, none⟩) hn_ (.int .i64 hd.f0)) (p := ⟨g9, 1, none⟩) hn_ (.int .i64 hd.f1)) (p := ⟨g9, 2, none⟩) hn_ (.int .i64 hd.f2)) 1
    refine skip_ (w1 := ?_) (by rfl) rfl ?_ ?_; rotate_left; (go_simp; rfl)
    refine hK.out _ _ ?_
    clear hK K
    refine done_ (by kernel_rfl) ?_
    clear hHeld hy0_ hy1_ hy2_ hf0_ hf1_ hf2_
    have C9 := Aside0.mk (blk_far (blk_far (blk_put (cs' := #[.int .i64 hd.f0, .int .i64 hd.f1, .int .i64 hd.f2]) (blk_set (blk_set B9.out 0 (.int .i64 hd.f0)) 1 (.int .i64 hd.f1)) 2 (.int .i64 hd.f2) rfl) (p := ⟨g10, 0, none⟩) hn_.symm (.int .i64 tn.f0)) (p := ⟨g10, 1, none⟩) hn_.symm (.int .i64 tn.f1))
    have C10 := Aside0.mk (blk_put (cs' := #[.int .i64 tn.f0, .int .i64 tn.f1]) (blk_set (blk_far (blk_far (blk_far B10.out (p := ⟨g9, 0, none⟩) hn_ (.int .i64 hd.f0)) (p := ⟨g9, 1, none⟩) hn_ (.int .i64 hd.f1)) (p := ⟨g9, 2, none⟩) hn_ (.int .i64 hd.f2)) 0 (.int .i64 tn.f0)) 1 (.int .i64 tn.f1) rfl)
    have HBx := Aside0.mk (show Below wd.heap.size wd (((((wj.setCell ⟨g9, 0, none⟩ (.int .i64 hd.f0)).setCell ⟨g9, 1, none⟩ (.int .i64 hd.f1)).setCell ⟨g9, 2, none⟩ (.int .i64 hd.f2)).setCell ⟨g10, 0, none⟩ (.int .i64 tn.f0)).setCell ⟨g10, 1, none⟩ (.int .i64 tn.f1)) from below_set (below_set (below_set (below_set (below_set HBd.out hg9_) hg9_) hg9_) hg10_) hg10_)
    generalize hW_ : ((((wj.setCell ⟨g9, 0, none⟩ (.int .i64 hd.f0)).setCell ⟨g9, 1, none⟩ (.int .i64 hd.f1)).setCell ⟨g9, 2, none⟩ (.int .i64 hd.f2)).setCell ⟨g10, 0, none⟩ (.int .i64 tn.f0)).setCell ⟨g10, 1, none⟩ (.int .i64 tn.f1) = w6 at *
    replace BK := Aside0.mk (blk_below BK.out HBx.out)
    replace B4 := Aside0.mk (blk_below B4.out HBx.out)
    replace B6 := Aside0.mk (blk_below B6.out HBx.out)
    replace HB := Aside0.mk (below_step HB.out HBx.out)
    clear hW_ hx_ hn_ hg9_ hg10_ HBd HBx HS0 B9 B10
    have hy1_ := (blk_cell C9.out 1).trans rfl
    have hy2_ := (blk_cell C9.out 2).trans rfl
    go_wp2
    clear hy1_ hy2_
    have hi0_ : ∀ w : World, (Instr.index 92 (.agg #[.int .i64 hd.f1, .int .i64 hd.f2]) (.int .i64 0)).run Try.prog w = .ok (.int .i64 hd.f1) w := fun _ => by kernel_rfl
    have hi1_ : ∀ w : World, (Instr.index 92 (.agg #[.int .i64 hd.f1, .int .i64 hd.f2]) (.int .i64 1)).run Try.prog w = .ok (.int .i64 hd.f2) w := fun _ => by kernel_rfl
    refine wp_loop_rounds 3 ?_
    rw [rounds_succ]
    go_upto_region 11 with (fail)
    have hb6_ := (blk_cell B6.out 7).trans rfl
    have ht6_ := (blk_cell C10.out 0).trans rfl
    have hd_ := below_drew1 (Below.refl w6.heap.size w6)
    replace BK := Aside0.mk (blk_drew BK.out)
    replace B4 := Aside0.mk (blk_drew B4.out)
    replace B6 := Aside0.mk (blk_drew B6.out)
    replace C9 := Aside0.mk (blk_drew C9.out)
    replace C10 := Aside0.mk (blk_drew C10.out)
    replace HB := Aside0.mk (below_step HB.out hd_)
    clear hd_
    refine start_ (n := 12) (S := fun w' => w'.cell? ⟨g6, 7, none⟩ = some (.int .i64 q.b0) ∧ w'.cell? ⟨g10, 0, none⟩ = some (.int .i64 tn.f0)) (ds := [11]) #[false, false, false, false, false, false, false, false, false, false, false, false] (by kernel_rfl) rfl rfl ⟨hb6_, ht6_⟩ (fun hHeld => ?_)
    generalize w6.drew = v1 at BK B4 B6 C9 C10 HB hHeld ⊢
    refine pure_y 0 (some 53) (bz 12 1) ?_
    refine pure_y 1 (some 54) (bz 12 3) ?_
    refine pure_y 2 (some 55) (bz 12 7) ?_
    refine pure_y 4 (some 57) (bz 12 23) ?_
    refine pure_y 6 (some 59) (bz 12 87) ?_
    refine pure_y 9 (some 62) (bz 12 599) ?_
    refine take_ (i := 3) (N := some 56) (v := ?_) (a' := ?_) (bz 12 607) rfl rfl (by kernel_rfl) (fun _ _ _ h => h) (Or.inl ⟨by rfl, ?_⟩) hHeld ?_ ?_
    rotate_left; (rintro w' ⟨s0, s1⟩; go_simp; with_reducible rfl); rotate_left; (simp only [Act.put, put_x, i64_w, i32_w]; rfl)
    refine take_ (i := 5) (N := some 58) (v := ?_) (a' := ?_) (bz 12 639) rfl rfl (by kernel_rfl) (fun _ _ _ h => h) (Or.inl ⟨by rfl, ?_⟩) hHeld ?_ ?_
    rotate_left; (rintro w' ⟨s0, s1⟩; go_simp; with_reducible rfl); rotate_left; (simp only [Act.put, put_x, i64_w, i32_w]; rfl)
    refine pure_y 7 (some 60) (bz 12 767) ?_
    refine pure_y 8 (some 61) (bz 12 1023) ?_
    refine pure_y 10 (some 63) (bz 12 2047) ?_
    refine last_ (i := 11) (N := none) (bz 12 4095) rfl rfl (by kernel_rfl) (by decide) (fun K hK => ?_)
    have hcl := hHeld.1
    have hfz := blk_frozen B6.out 7
    refine skip_ (w1 := ?_) (by rfl) rfl ?_ ?_; rotate_left; (go_simp; rfl)
    refine hK.out _ _ ?_
    clear hK K
    refine done_ (by kernel_rfl) ?_
    clear hHeld hcl hfz hb6_ ht6_
    have hx_ : Below w.heap.size w (v1.setCell ⟨g6, 7, none⟩ (.int .i64 (wrap64 (q.b0 + wrap64 (tn.f0 * hd.f1))))) := below_set HB.out HN6.out.2
    replace BK := Aside0.mk (blk_far BK.out (p := ⟨g6, 7, none⟩) (blk_ne_ BK.out B6.out (by decide)) (.int .i64 (wrap64 (q.b0 + wrap64 (tn.f0 * hd.f1)))))
    replace B4 := Aside0.mk (blk_far B4.out (p := ⟨g6, 7, none⟩) HN6.out.1 (.int .i64 (wrap64 (q.b0 + wrap64 (tn.f0 * hd.f1)))))
    replace C9 := Aside0.mk (blk_far C9.out (p := ⟨g6, 7, none⟩) (blk_ne_ C9.out B6.out (by decide)) (.int .i64 (wrap64 (q.b0 + wrap64 (tn.f0 * hd.f1)))))
    replace C10 := Aside0.mk (blk_far C10.out (p := ⟨g6, 7, none⟩) (blk_ne_ C10.out B6.out (by decide)) (.int .i64 (wrap64 (q.b0 + wrap64 (tn.f0 * hd.f1)))))
    replace B6 := Aside0.mk (blk_put (cs' := #[.int .i64 x.light, .int .i64 x.under, .int .i64 x.trim, .slice x.A3 x.holds.length x.c3, .int .i64 x.leaves, .slice x.A5 x.sills.length x.c5, .slice x.A6 x.lots.length x.c6, .int .i64 (wrap64 (q.b0 + wrap64 (tn.f0 * hd.f1))), .int .i64 q.b1, .int .i64 q.h0, .int .i64 q.h1]) B6.out 7 (.int .i64 (wrap64 (q.b0 + wrap64 (tn.f0 * hd.f1)))) rfl)
    replace HB := Aside0.mk hx_
    clear hx_
    generalize hW_ : v1.setCell ⟨g6, 7, none⟩ (.int .i64 (wrap64 (q.b0 + wrap64 (tn.f0 * hd.f1)))) = u1_ at *
    clear hW_
    go_upto_region 12 with (fail)
    have hb6_ := (blk_cell B6.out 9).trans rfl
    have ht6_ := (blk_cell C10.out 1).trans rfl
    have hd_ := below_drew1 (Below.refl u1_.heap.size u1_)
    replace BK := Aside0.mk (blk_drew BK.out)
    replace B4 := Aside0.mk (blk_drew B4.out)
    replace B6 := Aside0.mk (blk_drew B6.out)
    replace C9 := Aside0.mk (blk_drew C9.out)
    replace C10 := Aside0.mk (blk_drew C10.out)
    replace HB := Aside0.mk (below_step HB.out hd_)
    clear hd_
    refine start_ (n := 12) (S := fun w' => w'.cell? ⟨g6, 9, none⟩ = some (.int .i64 q.h0) ∧ w'.cell? ⟨g10, 1, none⟩ = some (.int .i64 tn.f1)) (ds := [11]) #[false, false, false, false, false, false, false, false, false, false, false, false] (by kernel_rfl) rfl rfl ⟨hb6_, ht6_⟩ (fun hHeld => ?_)
    generalize u1_.drew = v2 at BK B4 B6 C9 C10 HB hHeld ⊢
    refine pure_y 0 (some 64) (bz 12 1) ?_
    refine pure_y 1 (some 65) (bz 12 3) ?_
    refine pure_y 2 (some 66) (bz 12 7) ?_
    refine pure_y 4 (some 68) (bz 12 23) ?_
    refine pure_y 6 (some 70) (bz 12 87) ?_
    refine pure_y 9 (some 73) (bz 12 599) ?_
    refine take_ (i := 3) (N := some 67) (v := ?_) (a' := ?_) (bz 12 607) rfl rfl (by kernel_rfl) (fun _ _ _ h => h) (Or.inl ⟨by rfl, ?_⟩) hHeld ?_ ?_
    rotate_left; (rintro w' ⟨s0, s1⟩; go_simp; with_reducible rfl); rotate_left; (simp only [Act.put, put_x, i64_w, i32_w]; rfl)
    refine take_ (i := 5) (N := some 69) (v := ?_) (a' := ?_) (bz 12 639) rfl rfl (by kernel_rfl) (fun _ _ _ h => h) (Or.inl ⟨by rfl, ?_⟩) hHeld ?_ ?_
    rotate_left; (rintro w' ⟨s0, s1⟩; go_simp; with_reducible rfl); rotate_left; (simp only [Act.put, put_x, i64_w, i32_w]; rfl)
    refine pure_y 7 (some 71) (bz 12 767) ?_
    refine pure_y 8 (some 72) (bz 12 1023) ?_
    refine pure_y 10 (some 74) (bz 12 2047) ?_
    refine last_ (i := 11) (N := none) (bz 12 4095) rfl rfl (by kernel_rfl) (by decide) (fun K hK => ?_)
    have hcl := hHeld.1
    have hfz := blk_frozen B6.out 9
    refine skip_ (w1 := ?_) (by rfl) rfl ?_ ?_; rotate_left; (go_simp; rfl)
    refine hK.out _ _ ?_
    clear hK K
    refine done_ (by kernel_rfl) ?_
    clear hHeld hcl hfz hb6_ ht6_
    have hx_ : Below w.heap.size w (v2.setCell ⟨g6, 9, none⟩ (.int .i64 (wrap64 (q.h0 + wrap64 (tn.f1 * hd.f1))))) := below_set HB.out HN6.out.2
    replace BK := Aside0.mk (blk_far BK.out (p := ⟨g6, 9, none⟩) (blk_ne_ BK.out B6.out (by decide)) (.int .i64 (wrap64 (q.h0 + wrap64 (tn.f1 * hd.f1)))))
    replace B4 := Aside0.mk (blk_far B4.out (p := ⟨g6, 9, none⟩) HN6.out.1 (.int .i64 (wrap64 (q.h0 + wrap64 (tn.f1 * hd.f1)))))
    replace C9 := Aside0.mk (blk_far C9.out (p := ⟨g6, 9, none⟩) (blk_ne_ C9.out B6.out (by decide)) (.int .i64 (wrap64 (q.h0 + wrap64 (tn.f1 * hd.f1)))))
    replace C10 := Aside0.mk (blk_far C10.out (p := ⟨g6, 9, none⟩) (blk_ne_ C10.out B6.out (by decide)) (.int .i64 (wrap64 (q.h0 + wrap64 (tn.f1 * hd.f1)))))
    replace B6 := Aside0.mk (blk_put (cs' := #[.int .i64 x.light, .int .i64 x.under, .int .i64 x.trim, .slice x.A3 x.holds.length x.c3, .int .i64 x.leaves, .slice x.A5 x.sills.length x.c5, .slice x.A6 x.lots.length x.c6, .int .i64 (wrap64 (q.b0 + wrap64 (tn.f0 * hd.f1))), .int .i64 q.b1, .int .i64 (wrap64 (q.h0 + wrap64 (tn.f1 * hd.f1))), .int .i64 q.h1]) B6.out 9 (.int .i64 (wrap64 (q.h0 + wrap64 (tn.f1 * hd.f1)))) rfl)
    replace HB := Aside0.mk hx_
    clear hx_
    generalize hW_ : v2.setCell ⟨g6, 9, none⟩ (.int .i64 (wrap64 (q.h0 + wrap64 (tn.f1 * hd.f1)))) = u2_ at *
    clear hW_
    go_wp2
    rw [rounds_succ]
    go_upto_region 11 with (fail)
    have hb6_ := (blk_cell B6.out 8).trans rfl
    have ht6_ := (blk_cell C10.out 0).trans rfl
    have hd_ := below_drew1 (Below.refl u2_.heap.size u2_)
    replace BK := Aside0.mk (blk_drew BK.out)
    replace B4 := Aside0.mk (blk_drew B4.out)
    replace B6 := Aside0.mk (blk_drew B6.out)
    replace C9 := Aside0.mk (blk_drew C9.out)
    replace C10 := Aside0.mk (blk_drew C10.out)
    replace HB := Aside0.mk (below_step HB.out hd_)
    clear hd_
    refine start_ (n := 12) (S := fun w' => w'.cell? ⟨g6, 8, none⟩ = some (.int .i64 q.b1) ∧ w'.cell? ⟨g10, 0, none⟩ = some (.int .i64 tn.f0)) (ds := [11]) #[false, false, false, false, false, false, false, false, false, false, false, false] (by kernel_rfl) rfl rfl ⟨hb6_, ht6_⟩ (fun hHeld => ?_)
    generalize u2_.drew = v3 at BK B4 B6 C9 C10 HB hHeld ⊢
    refine pure_y 0 (some 53) (bz 12 1) ?_
    refine pure_y 1 (some 54) (bz 12 3) ?_
    refine pure_y 2 (some 55) (bz 12 7) ?_
    refine pure_y 4 (some 57) (bz 12 23) ?_
    refine pure_y 6 (some 59) (bz 12 87) ?_
    refine pure_y 9 (some 62) (bz 12 599) ?_
    refine take_ (i := 3) (N := some 56) (v := ?_) (a' := ?_) (bz 12 607) rfl rfl (by kernel_rfl) (fun _ _ _ h => h) (Or.inl ⟨by rfl, ?_⟩) hHeld ?_ ?_
    rotate_left; (rintro w' ⟨s0, s1⟩; go_simp; with_reducible rfl); rotate_left; (simp only [Act.put, put_x, i64_w, i32_w]; rfl)
    refine take_ (i := 5) (N := some 58) (v := ?_) (a' := ?_) (bz 12 639) rfl rfl (by kernel_rfl) (fun _ _ _ h => h) (Or.inl ⟨by rfl, ?_⟩) hHeld ?_ ?_
    rotate_left; (rintro w' ⟨s0, s1⟩; go_simp; with_reducible rfl); rotate_left; (simp only [Act.put, put_x, i64_w, i32_w]; rfl)
    refine pure_y 7 (some 60) (bz 12 767) ?_
    refine pure_y 8 (some 61) (bz 12 1023) ?_
    refine pure_y 10 (some 63) (bz 12 2047) ?_
    refine last_ (i := 11) (N := none) (bz 12 4095) rfl rfl (by kernel_rfl) (by decide) (fun K hK => ?_)
    have hcl := hHeld.1
    have hfz := blk_frozen B6.out 8
    refine skip_ (w1 := ?_) (by rfl) rfl ?_ ?_; rotate_left; (go_simp; rfl)
    refine hK.out _ _ ?_
    clear hK K
    refine done_ (by kernel_rfl) ?_
    clear hHeld hcl hfz hb6_ ht6_
    have hx_ : Below w.heap.size w (v3.setCell ⟨g6, 8, none⟩ (.int .i64 (wrap64 (q.b1 + wrap64 (tn.f0 * hd.f2))))) := below_set HB.out HN6.out.2
    replace BK := Aside0.mk (blk_far BK.out (p := ⟨g6, 8, none⟩) (blk_ne_ BK.out B6.out (by decide)) (.int .i64 (wrap64 (q.b1 + wrap64 (tn.f0 * hd.f2)))))
    replace B4 := Aside0.mk (blk_far B4.out (p := ⟨g6, 8, none⟩) HN6.out.1 (.int .i64 (wrap64 (q.b1 + wrap64 (tn.f0 * hd.f2)))))
    replace C9 := Aside0.mk (blk_far C9.out (p := ⟨g6, 8, none⟩) (blk_ne_ C9.out B6.out (by decide)) (.int .i64 (wrap64 (q.b1 + wrap64 (tn.f0 * hd.f2)))))
    replace C10 := Aside0.mk (blk_far C10.out (p := ⟨g6, 8, none⟩) (blk_ne_ C10.out B6.out (by decide)) (.int .i64 (wrap64 (q.b1 + wrap64 (tn.f0 * hd.f2)))))
    replace B6 := Aside0.mk (blk_put (cs' := #[.int .i64 x.light, .int .i64 x.under, .int .i64 x.trim, .slice x.A3 x.holds.length x.c3, .int .i64 x.leaves, .slice x.A5 x.sills.length x.c5, .slice x.A6 x.lots.length x.c6, .int .i64 (wrap64 (q.b0 + wrap64 (tn.f0 * hd.f1))), .int .i64 (wrap64 (q.b1 + wrap64 (tn.f0 * hd.f2))), .int .i64 (wrap64 (q.h0 + wrap64 (tn.f1 * hd.f1))), .int .i64 q.h1]) B6.out 8 (.int .i64 (wrap64 (q.b1 + wrap64 (tn.f0 * hd.f2)))) rfl)
    replace HB := Aside0.mk hx_
    clear hx_
    generalize hW_ : v3.setCell ⟨g6, 8, none⟩ (.int .i64 (wrap64 (q.b1 + wrap64 (tn.f0 * hd.f2)))) = u3_ at *
    clear hW_
    go_upto_region 12 with (fail)
    have hb6_ := (blk_cell B6.out 10).trans rfl
    have ht6_ := (blk_cell C10.out 1).trans rfl
    have hd_ := below_drew1 (Below.refl u3_.heap.size u3_)
    replace BK := Aside0.mk (blk_drew BK.out)
    replace B4 := Aside0.mk (blk_drew B4.out)
    replace B6 := Aside0.mk (blk_drew B6.out)
    replace C9 := Aside0.mk (blk_drew C9.out)
    replace C10 := Aside0.mk (blk_drew C10.out)
    replace HB := Aside0.mk (below_step HB.out hd_)
    clear hd_
    refine start_ (n := 12) (S := fun w' => w'.cell? ⟨g6, 10, none⟩ = some (.int .i64 q.h1) ∧ w'.cell? ⟨g10, 1, none⟩ = some (.int .i64 tn.f1)) (ds := [11]) #[false, false, false, false, false, false, false, false, false, false, false, false] (by kernel_rfl) rfl rfl ⟨hb6_, ht6_⟩ (fun hHeld => ?_)
    generalize u3_.drew = v4 at BK B4 B6 C9 C10 HB hHeld ⊢
    refine pure_y 0 (some 64) (bz 12 1) ?_
    refine pure_y 1 (some 65) (bz 12 3) ?_
    refine pure_y 2 (some 66) (bz 12 7) ?_
    refine pure_y 4 (some 68) (bz 12 23) ?_
    refine pure_y 6 (some 70) (bz 12 87) ?_
    refine pure_y 9 (some 73) (bz 12 599) ?_
    refine take_ (i := 3) (N := some 67) (v := ?_) (a' := ?_) (bz 12 607) rfl rfl (by kernel_rfl) (fun _ _ _ h => h) (Or.inl ⟨by rfl, ?_⟩) hHeld ?_ ?_
    rotate_left; (rintro w' ⟨s0, s1⟩; go_simp; with_reducible rfl); rotate_left; (simp only [Act.put, put_x, i64_w, i32_w]; rfl)
    refine take_ (i := 5) (N := some 69) (v := ?_) (a' := ?_) (bz 12 639) rfl rfl (by kernel_rfl) (fun _ _ _ h => h) (Or.inl ⟨by rfl, ?_⟩) hHeld ?_ ?_
    rotate_left; (rintro w' ⟨s0, s1⟩; go_simp; with_reducible rfl); rotate_left; (simp only [Act.put, put_x, i64_w, i32_w]; rfl)
    refine pure_y 7 (some 71) (bz 12 767) ?_
    refine pure_y 8 (some 72) (bz 12 1023) ?_
    refine pure_y 10 (some 74) (bz 12 2047) ?_
    refine last_ (i := 11) (N := none) (bz 12 4095) rfl rfl (by kernel_rfl) (by decide) (fun K hK => ?_)
    have hcl := hHeld.1
    have hfz := blk_frozen B6.out 10
    refine skip_ (w1 := ?_) (by rfl) rfl ?_ ?_; rotate_left; (go_simp; rfl)
    refine hK.out _ _ ?_
    clear hK K
    refine done_ (by kernel_rfl) ?_
    clear hHeld hcl hfz hb6_ ht6_
    have hx_ : Below w.heap.size w (v4.setCell ⟨g6, 10, none⟩ (.int .i64 (wrap64 (q.h1 + wrap64 (tn.f1 * hd.f2))))) := below_set HB.out HN6.out.2
    replace BK := Aside0.mk (blk_far BK.out (p := ⟨g6, 10, none⟩) (blk_ne_ BK.out B6.out (by decide)) (.int .i64 (wrap64 (q.h1 + wrap64 (tn.f1 * hd.f2)))))
    replace B4 := Aside0.mk (blk_far B4.out (p := ⟨g6, 10, none⟩) HN6.out.1 (.int .i64 (wrap64 (q.h1 + wrap64 (tn.f1 * hd.f2)))))
    replace C9 := Aside0.mk (blk_far C9.out (p := ⟨g6, 10, none⟩) (blk_ne_ C9.out B6.out (by decide)) (.int .i64 (wrap64 (q.h1 + wrap64 (tn.f1 * hd.f2)))))
    replace C10 := Aside0.mk (blk_far C10.out (p := ⟨g6, 10, none⟩) (blk_ne_ C10.out B6.out (by decide)) (.int .i64 (wrap64 (q.h1 + wrap64 (tn.f1 * hd.f2)))))
    replace B6 := Aside0.mk (blk_put (cs' := #[.int .i64 x.light, .int .i64 x.under, .int .i64 x.trim, .slice x.A3 x.holds.length x.c3, .int .i64 x.leaves, .slice x.A5 x.sills.length x.c5, .slice x.A6 x.lots.length x.c6, .int .i64 (wrap64 (q.b0 + wrap64 (tn.f0 * hd.f1))), .int .i64 (wrap64 (q.b1 + wrap64 (tn.f0 * hd.f2))), .int .i64 (wrap64 (q.h0 + wrap64 (tn.f1 * hd.f1))), .int .i64 (wrap64 (q.h1 + wrap64 (tn.f1 * hd.f2)))]) B6.out 10 (.int .i64 (wrap64 (q.h1 + wrap64 (tn.f1 * hd.f2)))) rfl)
    replace HB := Aside0.mk hx_
    clear hx_
    generalize hW_ : v4.setCell ⟨g6, 10, none⟩ (.int .i64 (wrap64 (q.h1 + wrap64 (tn.f1 * hd.f2)))) = u4_ at *
    clear hW_
    go_wp2
    rw [rounds_succ]
    go_wp2
    go_roundg (l1.length - (k + 1))
    case measure => omega
    case rel => exact ⟨k + 1, ladS hd tn q, by omega, by omega, by go_num, HF2, BK, B4, B6, HB⟩
  ·
   have : k = l1.length := by omega
   subst this
   have hq := HF.out
   rw [List.drop_length] at hq
   have hq2 : q = Q := Option.some.inj hq
   subst hq2
   have hy0_ := (blk_cell B6.out 0).trans rfl
   have hy1_ := (blk_cell B6.out 1).trans rfl
   have hy2_ := (blk_cell B6.out 2).trans rfl
   have hy3_ := (blk_cell B6.out 3).trans rfl
   have hy4_ := (blk_cell B6.out 4).trans rfl
   have hy5_ := (blk_cell B6.out 5).trans rfl
   have hy6_ := (blk_cell B6.out 6).trans rfl
   have hy7_ := (blk_cell B6.out 7).trans rfl
   have hy8_ := (blk_cell B6.out 8).trans rfl
   have hy9_ := (blk_cell B6.out 9).trans rfl
   have hy10_ := (blk_cell B6.out 10).trans rfl
   have hr0_ := (blk_cell B4.out 0).trans rfl
   have hr1_ := (blk_cell B4.out 1).trans rfl
   have hr2_ := (blk_cell B4.out 2).trans rfl
   have hr3_ := (blk_cell B4.out 3).trans rfl
   have hr4_ := (blk_cell B4.out 4).trans rfl
   have hr5_ := (blk_cell B4.out 5).trans rfl
   have hr6_ := (blk_cell B4.out 6).trans rfl
   have hr7_ := (blk_cell B4.out 7).trans rfl
   have hr8_ := (blk_cell B4.out 8).trans rfl
   have hr9_ := (blk_cell B4.out 9).trans rfl
   have hr10_ := (blk_cell B4.out 10).trans rfl
   have hf4_ := blk_frozen B4.out
   go_wp2
   have BR := B4
   replace BR := Aside0.mk (blk_put (cs' := #[.int .i64 x.light, .int .i64 0, .int .i64 0, .slice none 0 0, .int .i64 0, .slice none 0 0, .slice none 0 0, .int .i64 0, .int .i64 0, .int .i64 0, .int .i64 0]) BR.out 0 (.int .i64 x.light) rfl)
   replace BR := Aside0.mk (blk_put (cs' := #[.int .i64 x.light, .int .i64 x.under, .int .i64 0, .slice none 0 0, .int .i64 0, .slice none 0 0, .slice none 0 0, .int .i64 0, .int .i64 0, .int .i64 0, .int .i64 0]) BR.out 1 (.int .i64 x.under) rfl)
   replace BR := Aside0.mk (blk_put (cs' := #[.int .i64 x.light, .int .i64 x.under, .int .i64 x.trim, .slice none 0 0, .int .i64 0, .slice none 0 0, .slice none 0 0, .int .i64 0, .int .i64 0, .int .i64 0, .int .i64 0]) BR.out 2 (.int .i64 x.trim) rfl)
   replace BR := Aside0.mk (blk_put (cs' := #[.int .i64 x.light, .int .i64 x.under, .int .i64 x.trim, .slice x.A3 x.holds.length x.c3, .int .i64 0, .slice none 0 0, .slice none 0 0, .int .i64 0, .int .i64 0, .int .i64 0, .int .i64 0]) BR.out 3 (.slice x.A3 x.holds.length x.c3) rfl)
   replace BR := Aside0.mk (blk_put (cs' := #[.int .i64 x.light, .int .i64 x.under, .int .i64 x.trim, .slice x.A3 x.holds.length x.c3, .int .i64 x.leaves, .slice none 0 0, .slice none 0 0, .int .i64 0, .int .i64 0, .int .i64 0, .int .i64 0]) BR.out 4 (.int .i64 x.leaves) rfl)
   replace BR := Aside0.mk (blk_put (cs' := #[.int .i64 x.light, .int .i64 x.under, .int .i64 x.trim, .slice x.A3 x.holds.length x.c3, .int .i64 x.leaves, .slice x.A5 x.sills.length x.c5, .slice none 0 0, .int .i64 0, .int .i64 0, .int .i64 0, .int .i64 0]) BR.out 5 (.slice x.A5 x.sills.length x.c5) rfl)
   replace BR := Aside0.mk (blk_put (cs' := #[.int .i64 x.light, .int .i64 x.under, .int .i64 x.trim, .slice x.A3 x.holds.length x.c3, .int .i64 x.leaves, .slice x.A5 x.sills.length x.c5, .slice x.A6 x.lots.length x.c6, .int .i64 0, .int .i64 0, .int .i64 0, .int .i64 0]) BR.out 6 (.slice x.A6 x.lots.length x.c6) rfl)
   replace BR := Aside0.mk (blk_put (cs' := #[.int .i64 x.light, .int .i64 x.under, .int .i64 x.trim, .slice x.A3 x.holds.length x.c3, .int .i64 x.leaves, .slice x.A5 x.sills.length x.c5, .slice x.A6 x.lots.length x.c6, .int .i64 q.b0, .int .i64 0, .int .i64 0, .int .i64 0]) BR.out 7 (.int .i64 q.b0) rfl)
   replace BR := Aside0.mk (blk_put (cs' := #[.int .i64 x.light, .int .i64 x.under, .int .i64 x.trim, .slice x.A3 x.holds.length x.c3, .int .i64 x.leaves, .slice x.A5 x.sills.length x.c5, .slice x.A6 x.lots.length x.c6, .int .i64 q.b0, .int .i64 q.b1, .int .i64 0, .int .i64 0]) BR.out 8 (.int .i64 q.b1) rfl)
   replace BR := Aside0.mk (blk_put (cs' := #[.int .i64 x.light, .int .i64 x.under, .int .i64 x.trim, .slice x.A3 x.holds.length x.c3, .int .i64 x.leaves, .slice x.A5 x.sills.length x.c5, .slice x.A6 x.lots.length x.c6, .int .i64 q.b0, .int .i64 q.b1, .int .i64 q.h0, .int .i64 0]) BR.out 9 (.int .i64 q.h0) rfl)
   replace BR := Aside0.mk (blk_put (cs' := #[.int .i64 x.light, .int .i64 x.under, .int .i64 x.trim, .slice x.A3 x.holds.length x.c3, .int .i64 x.leaves, .slice x.A5 x.sills.length x.c5, .slice x.A6 x.lots.length x.c6, .int .i64 q.b0, .int .i64 q.b1, .int .i64 q.h0, .int .i64 q.h1]) BR.out 10 (.int .i64 q.h1) rfl)
   have HBe := Aside0.mk (show Below w.heap.size w (((((((((((wr.setCell ⟨g4, 0, none⟩ (.int .i64 x.light)).setCell ⟨g4, 1, none⟩ (.int .i64 x.under)).setCell ⟨g4, 2, none⟩ (.int .i64 x.trim)).setCell ⟨g4, 3, none⟩ (.slice x.A3 x.holds.length x.c3)).setCell ⟨g4, 4, none⟩ (.int .i64 x.leaves)).setCell ⟨g4, 5, none⟩ (.slice x.A5 x.sills.length x.c5)).setCell ⟨g4, 6, none⟩ (.slice x.A6 x.lots.length x.c6)).setCell ⟨g4, 7, none⟩ (.int .i64 q.b0)).setCell ⟨g4, 8, none⟩ (.int .i64 q.b1)).setCell ⟨g4, 9, none⟩ (.int .i64 q.h0)).setCell ⟨g4, 10, none⟩ (.int .i64 q.h1)) from below_set (below_set (below_set (below_set (below_set (below_set (below_set (below_set (below_set (below_set (below_set (HB.out) HN4.out) HN4.out) HN4.out) HN4.out) HN4.out) HN4.out) HN4.out) HN4.out) HN4.out) HN4.out) HN4.out)
   generalize hW_ : ((((((((((wr.setCell ⟨g4, 0, none⟩ (.int .i64 x.light)).setCell ⟨g4, 1, none⟩ (.int .i64 x.under)).setCell ⟨g4, 2, none⟩ (.int .i64 x.trim)).setCell ⟨g4, 3, none⟩ (.slice x.A3 x.holds.length x.c3)).setCell ⟨g4, 4, none⟩ (.int .i64 x.leaves)).setCell ⟨g4, 5, none⟩ (.slice x.A5 x.sills.length x.c5)).setCell ⟨g4, 6, none⟩ (.slice x.A6 x.lots.length x.c6)).setCell ⟨g4, 7, none⟩ (.int .i64 q.b0)).setCell ⟨g4, 8, none⟩ (.int .i64 q.b1)).setCell ⟨g4, 9, none⟩ (.int .i64 q.h0)).setCell ⟨g4, 10, none⟩ (.int .i64 q.h1) = we at *
   clear hW_ hf4_ hy0_ hy1_ hy2_ hy3_ hy4_ hy5_ hy6_ hy7_ hy8_ hy9_ hy10_ hr0_ hr1_ hr2_ hr3_ hr4_ hr5_ hr6_ hr7_ hr8_ hr9_ hr10_
   have hr0_ := (blk_cell BR.out 0).trans rfl
   have hr1_ := (blk_cell BR.out 1).trans rfl
   have hr2_ := (blk_cell BR.out 2).trans rfl
   have hr3_ := (blk_cell BR.out 3).trans rfl
   have hr4_ := (blk_cell BR.out 4).trans rfl
   have hr5_ := (blk_cell BR.out 5).trans rfl
   have hr6_ := (blk_cell BR.out 6).trans rfl
   have hr7_ := (blk_cell BR.out 7).trans rfl
   have hr8_ := (blk_cell BR.out 8).trans rfl
   have hr9_ := (blk_cell BR.out 9).trans rfl
   have hr10_ := (blk_cell BR.out 10).trans rfl
   exact bodyPost_ret (v := .agg #[.int .i64 x.light, .int .i64 x.under, .int .i64 x.trim, .slice x.A3 x.holds.length x.c3, .int .i64 x.leaves, .slice x.A5 x.sills.length x.c5, .slice x.A6 x.lots.length x.c6, .int .i64 q.b0, .int .i64 q.b1, .int .i64 q.h0, .int .i64 q.h1]) (by simp [results, Try.results55, go_sem, hr0_, hr1_, hr2_, hr3_, hr4_, hr5_, hr6_, hr7_, hr8_, hr9_, hr10_]) rfl ⟨rfl, HBe.out⟩
set_option maxHeartbeats 8000000 in
set_option maxRecDepth 100000 in
theorem water_calls (t0 t1 : Int) (A : Option Addr) (c : Nat) (l : List S62) (b : Bool) (i : Nat) (w : World) (hr : Kd.C k62 w A l.length l) (hc : l.length ≤ c) (hi : i < l.length) (hl : l.length ≤ 140737488351232) :
  Calls Try.prog 80 #[.agg #[.int .i64 t0, .int .i64 t1, .slice A l.length c, .bool b], .int .i64 (i : Int)] w fun e w' => e = .returned (.int .i64 (waterOf b (rd_T62 l (i : Int)))) ∧ Below w.heap.size w w' := by
 have hu123 := Try.underlying123
 have hu59 := Try.underlying59
 have hu62 := Try.underlying62
 have hu56 := Try.underlying56
 obtain ⟨ad, e, h0, h1, h2⟩ := at_T62 hr (i : Int) (by omega) (by omega)
 cases e
 rw [Int.toNat_natCast] at h0 h1 h2
 have hiz : (i : Int) < (l.length : Int) := by omega
 clear h0 hr
 generalize rd_T62 l (i : Int) = y at *
 have H1 := Aside0.mk h1
 have H2 := Aside0.mk h2
 clear h1 h2
 go_enter Try.func80, Try.ntmps80
 go_upto_region 2 with (first | ((with_reducible refine gate_dst (N := 2) rfl ?_); refine box_event ?hg (N := 2) ?hd (cs := #[.int .i64 t0, .int .i64 t1, .slice (some ad) l.length c, .bool b]) (t := 123) ?hr ?_; (case hd => rfl); (case hg => rfl); (case hr => first | (go_simp; done) | (go_simp; rfl)); intro gb hg w2 hbox hb2; have BK := Aside0.mk hbox; have HB := Aside0.mk hb2; clear hg hbox hb2; have hz0_ := (blk_cell BK.out 0).trans rfl; have hz1_ := (blk_cell BK.out 1).trans rfl; have hz2_ := (blk_cell BK.out 2).trans rfl; have hz3_ := (blk_cell BK.out 3).trans rfl; have h1 := (HB.out.cell (World.block_lt_of_cell? w _ H1.out)).trans H1.out; have h2 := (HB.out.cell (World.block_lt_of_cell? w _ H2.out)).trans H2.out))
 clear hz0_ hz1_ hz2_ hz3_ h1 h2
 obtain ⟨g5, hg_⟩ : ∃ b, b = w2.heap.size := ⟨_, rfl⟩
 have Ng5 := Aside0.mk (blk_new w2 (.cells #[.int .i64 y.f1.f0, .int .i64 y.f1.f1] 56 (0, 0)))
 have hbw : Below w2.heap.size w2 (w2.alloc (.cells #[.int .i64 y.f1.f0, .int .i64 y.f1.f1] 56 (0, 0))) := below_alloc (Below.refl _ _) _
 have hgs_ : w.heap.size ≤ g5 := by rw [hg_]; exact HB.out.size
 generalize hw_ : w2.alloc (.cells #[.int .i64 y.f1.f0, .int .i64 y.f1.f1] 56 (0, 0)) = w3 at *
 rw [← hg_] at Ng5 ⊢
 replace BK := Aside0.mk (blk_below BK.out hbw)
 replace HB := Aside0.mk (below_step HB.out hbw)
 have GEg5 : Aside0 (w.heap.size ≤ g5) := ⟨hgs_⟩
 clear hbw hw_ hg_ hgs_
 have hz0_ := (blk_cell BK.out 0).trans rfl
 have hz1_ := (blk_cell BK.out 1).trans rfl
 have hz2_ := (blk_cell BK.out 2).trans rfl
 have hz3_ := (blk_cell BK.out 3).trans rfl
 have hy0_ := (blk_cell Ng5.out 0).trans rfl
 have hy1_ := (blk_cell Ng5.out 1).trans rfl
 cases b
 ·
  go_wp2
  go_ret
  exact ⟨rfl, HB.out⟩
 ·
  go_wp2
  go_ret
  exact ⟨rfl, HB.out⟩
end Go.Proofs.Ytodmemndaaiolaa.PC7
namespace Go.Proofs.Ytodmemndaaiolaa.PC7
open Go.RowKit Go.Proofs.YtodmemndaaiolaaW.PrintWords Go.Proofs.YtodmemndaaiolaaW.PrintLast Go.Proofs.YtodmemndaaiolaaW.PrintMore
attribute [local go_sem] max2_int min2_int max_two min_two max_three min_three max_four min_four
set_option linter.unusedVariables false
set_option linter.unusedSimpArgs false
def ship_greatest.l0 : Nat → Int → List Int → Int → Int → Option (Int)
 | 0, _, _, _, _ => none
 | k + 1, x0, x7, x8, x9 => if x9 < x8 then (if 0 ≤ x9 then (if x9 < (x7.length : Int) then (ship_greatest.l0 k (mx x0 (rd x7 x9)) x7 x8 (wrap64 (x9 + 1))) else (none)) else (none)) else (some x0)
def ship_greatest.f (k : Nat) (a0 : Int) (l1 : List Int) : Option (Int) := ship_greatest.l0 k a0 l1 (l1.length : Int) 0
theorem ship_greatest.mono_l : ∀ k, (∀ y0 y1 y2 y3, LeO (ship_greatest.l0 k y0 y1 y2 y3) (ship_greatest.l0 (k + 1) y0 y1 y2 y3))
 | 0 => fun _ _ _ _ r h => by simp [ship_greatest.l0] at h
 | k + 1 => by
  have ih0 := ship_greatest.mono_l k
  ·
   intro y0 y1 y2 y3
   unfold ship_greatest.l0
   repeat' first
   | (with_reducible exact ih0 _ _ _ _)
   | (with_reducible exact LeO.refl _)
   | (with_reducible exact LeO.none _)
   | (with_reducible refine LeO.ite ?_ ?_)
   | (with_reducible refine LeO.bind ?_ (fun _ => ?_))
   | exact ih0 _ _ _ _
   | exact LeO.none _
   | refine LeO.ite ?_ ?_
   | refine LeO.bind ?_ (fun _ => ?_)
theorem ship_greatest.mono : ∀ a0 a1 k, LeO (ship_greatest.f k a0 a1) (ship_greatest.f (k + 1) a0 a1) := by
 intro a0 a1 k
 have ih0 := ship_greatest.mono_l k
 unfold ship_greatest.f
 repeat' first
   | (with_reducible exact ih0 _ _ _ _)
   | (with_reducible exact LeO.refl _)
   | (with_reducible exact LeO.none _)
   | (with_reducible refine LeO.ite ?_ ?_)
   | (with_reducible refine LeO.bind ?_ (fun _ => ?_))
   | exact ih0 _ _ _ _
   | exact LeO.none _
   | refine LeO.ite ?_ ?_
   | refine LeO.bind ?_ (fun _ => ?_)
set_option maxHeartbeats 8000000 in
set_option maxRecDepth 100000 in
theorem ship_greatest.calls (k : Nat) (a0 : Int) (A1 : Option Addr) (c1 : Nat) (l1 : List Int) (r : Int) (w : World) (hr1 : Kd.C (Kd.int .i64) w A1 l1.length l1) (hc1 : l1.length ≤ c1) (h : ship_greatest.f k a0 l1 = some r) :
  Calls Try.prog 79 #[.int .i64 a0, .slice A1 l1.length c1] w fun e w' => e = .returned (.int .i64 r) ∧ Below w.heap.size w w' := by
 have HR1 := Aside0.mk hr1
 have HC1 := Aside0.mk hc1
 clear hr1 hc1
 have HB := Aside0.mk (Below.refl w.heap.size w)
 have H : (ship_greatest.l0 k a0 l1 (l1.length : Int) 0) = some r := h
 clear h
 have H' := Aside0.mk H
 clear H
 go_enter Try.func79, Try.ntmps79
 go_wp2
 go_loopg [0, 9] k (fun kq v0 v9 w' => ∃ (x0_1 : Int) (x9_1 : Int), v0 = .int .i64 x0_1 ∧ v9 = .int .i64 x9_1 ∧ Aside0 (ship_greatest.l0 kq x0_1 l1 (l1.length : Int) x9_1 = some r) ∧ Aside0 (kq ≤ k) ∧ Aside0 (Below w.heap.size w w'))
 case atStart => exact ⟨(a0), (0), (by first | rfl | (simp; done) | (simp [*]; done)), (by first | rfl | (simp; done) | (simp [*]; done)), H', ⟨Nat.le_refl _⟩, ⟨by exact below_y HB.out⟩⟩
 case round =>
  clear H'
  obtain ⟨x0_1, x9_1, rfl, rfl, HA, HK1, HB⟩ := hrel
  cases gk with
  | zero => exact absurd HA.out (by simp [ship_greatest.l0])
  | succ k1 =>
   have H := HA.out
   clear HA
   simp only [ship_greatest.l0] at H
   by_cases c3 : x9_1 < (l1.length : Int)
   ·
    rw [if_pos c3] at H
    have c3b0 : decide (x9_1 < (l1.length : Int)) = true := decide_eq_true c3
    clear c3
    by_cases c4 : 0 ≤ x9_1
    ·
     rw [if_pos c4] at H
     have c4b0 : decide (0 ≤ x9_1) = true := decide_eq_true c4
     clear c4
     by_cases c5 : x9_1 < (l1.length : Int)
     ·
      rw [if_pos c5] at H
      have c5b0 : decide (x9_1 < (l1.length : Int)) = true := decide_eq_true c5
      clear c5
      obtain ⟨ji6, hji6⟩ : ∃ j_ : Int, (mx x0_1 (rd l1 x9_1)) = j_ := ⟨_, rfl⟩
      replace H : (ship_greatest.l0 k1 ji6 l1 (l1.length : Int) (wrap64 (x9_1 + 1))) = some r := by first | (rw [hji6] at H; exact H) | (simp only [hji6] at H ⊢; exact H)
      have hji6_ : (if x0_1 < (rd l1 x9_1) then (rd l1 x9_1) else x0_1) = ji6 := hji6
      have H' := Aside0.mk H
      clear H
      have p148 : 0 ≤ (x9_1 : Int) := of_x
      have q148 : x9_1 < (l1.length : Int) := of_x
      obtain ⟨ad148, e148, hx148_0⟩ := Kd.at_int HR1.out x9_1 p148 q148
      cases e148
      replace hx148_0 := cell_x HB hx148_0
      replace p148 := eq_true p148
      replace q148 := eq_true q148
      go_wp2
      go_roundg k1
      case measure => have := HK1.out; omega
      case rel => exact ⟨(ji6), (wrap64 (x9_1 + 1)), (by first | rfl | (simp; done) | (simp only [← hji6] <;> (first | rfl | simp)) | (simp [*]; done)), (by first | rfl | (simp; done) | (simp [*]; done)), H', ⟨by have := HK1.out; omega⟩, ⟨by exact below_y HB.out⟩⟩
     ·
      rw [if_neg c5] at H
      exact absurd H (by simp)
    ·
     rw [if_neg c4] at H
     exact absurd H (by simp)
   ·
    rw [if_neg c3] at H
    have c3b0 : decide (x9_1 < (l1.length : Int)) = false := decide_eq_false c3
    clear c3
    obtain rfl := Option.some.inj H
    go_wp2
    go_ret
    exact ⟨by first | rfl | (simp [errW_none, errW_some] <;> rfl) | (simp [*, errW_none, errW_some] <;> rfl), by exact below_y HB.out⟩
end Go.Proofs.Ytodmemndaaiolaa.PC7
namespace Go.Proofs.Ytodmemndaaiolaa.PC7
set_option linter.unusedVariables false
set_option linter.unusedSimpArgs false
open Go.RowKit Go.Proofs.YtodmemndaaiolaaW.PrintWords Go.Proofs.YtodmemndaaiolaaW.PrintLast Go.Proofs.YtodmemndaaiolaaW.PrintMore
theorem greatest_one (a b : Int) : ship_greatest.f 2 a [b] = some (mx a b) := by
 simp [ship_greatest.f, ship_greatest.l0, rd, wrap64]
theorem passW_step {soon : Bool} {l : List S62} {k : Nat} (hk : k < l.length) (now needs : Int) : passW soon (l.drop k) now needs =
  if k + 1 < l.length ∧ (l.getD (k + 1) z62).f0 ≤ now then passW soon (l.drop (k + 1)) now needs
  else if mx now (l.getD k z62).f0 ≤ 2880 ∧ needs ≤ wrap64 (1000 * waterOf soon (l.getD k z62)) then some (mx now (l.getD k z62).f0) else passW soon (l.drop (k + 1)) (mx now (l.getD k z62).f0) needs := by
 rw [drop_cons_of l k hk z62]
 by_cases h : k + 1 < l.length
 ·
  rw [drop_cons_of l (k + 1) h z62]
  simp only [passW, h, true_and]
 ·
  rw [List.drop_of_length_le (by omega : l.length ≤ k + 1)]
  simp only [passW, h, false_and, if_false]
structure SailLens (x : VoyV) : Prop where
 s : x.sills.length ≤ 100000
 l : ∀ k, k < x.sills.length → (x.sills.getD k z59).f1.length ≤ 100000
attribute [local go_sem] max2_int min2_int max_two min_two
set_option maxHeartbeats 8000000 in
set_option maxRecDepth 100000 in
theorem sail_calls (x : VoyV) (z : Q4) (soon : Bool) (w : World) (hx : x.Ok w) (hl : SailLens x) :
  Calls Try.prog 56 #[.agg #[.int .i64 x.light, .int .i64 x.under, .int .i64 x.trim, .slice x.A3 x.holds.length x.c3, .int .i64 x.leaves, .slice x.A5 x.sills.length x.c5, .slice x.A6 x.lots.length x.c6, .int .i64 z.b0, .int .i64 z.b1, .int .i64 z.h0, .int .i64 z.h1], .bool soon] w fun e w' => ∃ v, e = .returned v ∧ Kd.R (Kd.int .i64) 3 w' w.heap.size (fun _ => True) v (sailO x.under x.leaves x.sills z soon) ∧ Below w.heap.size w w' := by
 have hu26 := Try.underlying26
 have hu93 := Try.underlying93
 have hu95 := Try.underlying95
 have hu59 := Try.underlying59
 have hu62 := Try.underlying62
 have hu56 := Try.underlying56
 have hu123 := Try.underlying123
 obtain ⟨i0, hi, hz0, hz1, hz2⟩ := info_parts infoInt
 obtain ⟨A5, hA5⟩ : ∃ A5, A5 = x.A5 := ⟨_, rfl⟩
 have hs5 := hx.s
 rw [← hA5] at hs5 ⊢
 have HS5 := Aside0.mk hs5
 have HL := Aside0.mk hl
 have hmf : ∀ (fn : Fn) (first cap : Array Value) (w : World), (Instr.makeFunc fn first cap).run Try.prog w = .ok (.func fn first cap) w := fun _ _ _ _ => rfl
 clear hx hl hA5 hs5
 go_enter Try.func56, Try.ntmps56
 go_upto_region 1 with (first | ((with_reducible refine gate_dst (N := 2) rfl ?_); refine box_event ?hg (N := 2) ?hd (cs := #[.int .i64 x.light, .int .i64 x.under, .int .i64 x.trim, .slice x.A3 x.holds.length x.c3, .int .i64 x.leaves, .slice A5 x.sills.length x.c5, .slice x.A6 x.lots.length x.c6, .int .i64 z.b0, .int .i64 z.b1, .int .i64 z.h0, .int .i64 z.h1]) (t := 95) ?hr ?_; (case hd => rfl); (case hg => rfl); (case hr => first | (go_simp; done) | (go_simp; rfl)); intro gb hg w2 hbox hb2; have BK := Aside0.mk hbox; have HB := Aside0.mk hb2; clear hg hbox hb2; have hz0_ := (blk_cell BK.out 0).trans rfl; have hz1_ := (blk_cell BK.out 1).trans rfl; have hz2_ := (blk_cell BK.out 2).trans rfl; have hz3_ := (blk_cell BK.out 3).trans rfl; have hz4_ := (blk_cell BK.out 4).trans rfl; have hz5_ := (blk_cell BK.out 5).trans rfl; have hz6_ := (blk_cell BK.out 6).trans rfl; have hz7_ := (blk_cell BK.out 7).trans rfl; have hz8_ := (blk_cell BK.out 8).trans rfl; have hz9_ := (blk_cell BK.out 9).trans rfl; have hz10_ := (blk_cell BK.out 10).trans rfl))
 cases soon
 ·
  skip
  go_step3
  go_upto_region 2 with (fail)
  clear hz0_ hz1_ hz2_ hz3_ hz4_ hz5_ hz6_ hz7_ hz8_ hz9_ hz10_
  obtain ⟨g5, hg_⟩ : ∃ b, b = w2.heap.size := ⟨_, rfl⟩
  have Ng5 := Aside0.mk (blk_new w2 (.cells #[.int .i64 z.h0, .int .i64 z.h1] 93 (0, 0)))
  have hbw : Below w2.heap.size w2 (w2.alloc (.cells #[.int .i64 z.h0, .int .i64 z.h1] 93 (0, 0))) := below_alloc (Below.refl _ _) _
  have hgs_ : w.heap.size ≤ g5 := by rw [hg_]; exact HB.out.size
  generalize hw_ : w2.alloc (.cells #[.int .i64 z.h0, .int .i64 z.h1] 93 (0, 0)) = w3 at *
  rw [← hg_] at Ng5 ⊢
  replace BK := Aside0.mk (blk_below BK.out hbw)
  replace HB := Aside0.mk (below_step HB.out hbw)
  have GEg5 : Aside0 (w.heap.size ≤ g5) := ⟨hgs_⟩
  clear hbw hw_ hg_ hgs_
  have hz0_ := (blk_cell BK.out 0).trans rfl
  have hz1_ := (blk_cell BK.out 1).trans rfl
  have hz2_ := (blk_cell BK.out 2).trans rfl
  have hz3_ := (blk_cell BK.out 3).trans rfl
  have hz4_ := (blk_cell BK.out 4).trans rfl
  have hz5_ := (blk_cell BK.out 5).trans rfl
  have hz6_ := (blk_cell BK.out 6).trans rfl
  have hz7_ := (blk_cell BK.out 7).trans rfl
  have hz8_ := (blk_cell BK.out 8).trans rfl
  have hz9_ := (blk_cell BK.out 9).trans rfl
  have hz10_ := (blk_cell BK.out 10).trans rfl
  go_upto_region 4 with (fail)
  have B5 := Ng5
  clear Ng5
  obtain ⟨w4, hw4⟩ : ∃ w4 : World, w4 = w3 := ⟨_, rfl⟩
  rw [← hw4] at BK HB B5 ⊢
  clear hz0_ hz1_ hz2_ hz3_ hz4_ hz5_ hz6_ hz7_ hz8_ hz9_ hz10_ hw4
  have hd_ := below_drew1 (Below.refl w4.heap.size w4)
  have hq0_ := (blk_cell B5.out 0).trans rfl
  have hq1_ := (blk_cell B5.out 1).trans rfl
  have hq2_ := (blk_cell BK.out 1).trans rfl
  replace BK := Aside0.mk (blk_drew BK.out)
  replace HB := Aside0.mk (below_step HB.out hd_)
  clear hd_ B5
  refine start_ (n := 12) (S := fun w' => w'.cell? ⟨g5, 0, none⟩ = some (.int .i64 z.h0) ∧ w'.cell? ⟨g5, 1, none⟩ = some (.int .i64 z.h1) ∧ w'.cell? ⟨gb, 1, none⟩ = some (.int .i64 x.under)) (ds := []) #[false, false, false, false, false, false, false, false, false, false, false, false] (by kernel_rfl) rfl rfl ⟨hq0_, hq1_, hq2_⟩ (fun hHeld => ?_)
  generalize w4.drew = w5 at BK HB hHeld ⊢
  refine pure_y 0 (some 19) (bz 12 1) ?_
  refine pure_y 2 (some 21) (bz 12 5) ?_
  refine pure_y 6 (some 25) (bz 12 69) ?_
  refine pure_y 7 (some 26) (bz 12 197) ?_
  refine take_ (i := 1) (N := some 20) (v := ?_) (a' := ?_) (bz 12 199) rfl rfl (by kernel_rfl) (fun _ _ _ h => h) (Or.inl ⟨by rfl, ?_⟩) hHeld ?_ ?_
  rotate_left; (rintro w' ⟨s0, s1, s2⟩; go_simp; with_reducible rfl); rotate_left; (simp only [Act.put, put_x, i64_w, i32_w]; rfl)
  refine take_ (i := 3) (N := some 22) (v := ?_) (a' := ?_) (bz 12 207) rfl rfl (by kernel_rfl) (fun _ _ _ h => h) (Or.inl ⟨by rfl, ?_⟩) hHeld ?_ ?_
  rotate_left; (rintro w' ⟨s0, s1, s2⟩; go_simp; with_reducible rfl); rotate_left; (simp only [Act.put, put_x, i64_w, i32_w]; rfl)
  refine take_ (i := 8) (N := some 27) (v := ?_) (a' := ?_) (bz 12 463) rfl rfl (by kernel_rfl) (fun _ _ _ h => h) (Or.inl ⟨by rfl, ?_⟩) hHeld ?_ ?_
  rotate_left; (rintro w' ⟨s0, s1, s2⟩; go_simp; with_reducible rfl); rotate_left; (simp only [Act.put, put_x, i64_w, i32_w]; rfl)
  refine pure_y 9 (some 28) (bz 12 975) ?_
  refine one_ (i := 4) (N := some 23) (bz 12 991) rfl rfl (by kernel_rfl) (by decide) (fun K hK => ?_)
  obtain ⟨ys, hys⟩ : ∃ ys : List Int, ys = [z.h1] := ⟨_, rfl⟩
  refine Kd.R_lit_step (Kd.int .i64) _ 3 ?hg (N := 23) ?hd (xs := ([z.h1] : List Int)) (inner := [.int .i64 z.h1]) (ok := fun _ => True) (okp := fun _ => True) ?hr ?hp (fun _ hk => hk) trivial (Below.refl _ _) (Nat.le_refl _) (by simp) ?_; (case hd => rfl); (case hg => rfl); (case hr => first | (go_simp; done) | (go_simp; rfl)); (case hp => exact (Reps.one (show Kd.M (Kd.int .i64) _ _ _ (z.h1) [.int .i64 z.h1] from rfl) (Reps.none _ _)))
  intro vs_ w6 ho_ hb_ hg_ hnew_
  rw [← hys] at ho_
  obtain ⟨As, cs, rfl⟩ := Kd.R_slice ho_
  have RS := Aside0.mk (Kd.R_reads' ho_).2.2
  have ls_ := (Kd.R_reads' ho_).2.1
  have HYS := Aside0.mk hys
  clear hg_ hnew_ ho_ hys
  replace BK := Aside0.mk (blk_below BK.out hb_)
  replace HB := Aside0.mk (below_step HB.out hb_)
  have hb4_ := hb_
  clear hb_
  refine hK.out _ _ ⟨(hb4_.cell (World.block_lt_of_cell? _ _ (hHeld.1))).trans (hHeld.1), (hb4_.cell (World.block_lt_of_cell? _ _ (hHeld.2.1))).trans (hHeld.2.1), (hb4_.cell (World.block_lt_of_cell? _ _ (hHeld.2.2))).trans (hHeld.2.2)⟩ (fun hHeld => ?_)
  clear hK K
  refine norm_ (a' := ?_) ?_ ?_; rotate_left; (show Act.put _ (some 23) _ = _; simp only [Act.put, put_x, i64_w, i32_w]; rfl)
  refine one_ (i := 5) (N := some 24) (bz 12 1023) rfl rfl (by kernel_rfl) (by decide) (fun K hK => ?_)
  refine goes_ Try.func79 (by kernel_rfl) rfl #[.int .i64 z.h0, .slice As ys.length cs] (by rfl) rfl rfl (by (try simp only [List.map_toArray, List.map_cons, List.map_nil]); first | done | rfl) ?_
  with_reducible refine (ship_greatest.calls 2 (z.h0) As cs ys (mx (z.h0) (z.h1)) _ RS.out ls_ (by rw [HYS.out]; exact greatest_one _ _)).mono ?_
  rintro e w7 ⟨rfl, hb5_⟩
  refine ⟨_, rfl, ?_⟩
  replace BK := Aside0.mk (blk_below BK.out hb5_)
  replace HB := Aside0.mk (below_step HB.out hb5_)
  refine hK.out _ _ ⟨(hb5_.cell (World.block_lt_of_cell? _ _ (hHeld.1))).trans (hHeld.1), (hb5_.cell (World.block_lt_of_cell? _ _ (hHeld.2.1))).trans (hHeld.2.1), (hb5_.cell (World.block_lt_of_cell? _ _ (hHeld.2.2))).trans (hHeld.2.2)⟩ (fun hHeld => ?_)
  clear hK K
  refine norm_ (a' := ?_) ?_ ?_; rotate_left; (show Act.put _ (some 24) _ = _; simp only [Act.put, put_x, i64_w, i32_w]; rfl)
  refine pure_y 10 (some 29) (bz 12 2047) ?_
  refine pure_y 11 (some 6) (bz 12 4095) ?_
  refine done_ (by kernel_rfl) ?_
  clear hHeld hq0_ hq1_ hq2_ hb4_ hb5_ RS HYS ls_
  have HND := Aside0.mk (show needsW x.under z false = wrap64 (mx (z.h0) (z.h1) + wrap64 (1000 * x.under)) from rfl)
  have hz0_ := (blk_cell BK.out 0).trans rfl
  have hz1_ := (blk_cell BK.out 1).trans rfl
  have hz2_ := (blk_cell BK.out 2).trans rfl
  have hz3_ := (blk_cell BK.out 3).trans rfl
  have hz4_ := (blk_cell BK.out 4).trans rfl
  have hz5_ := (blk_cell BK.out 5).trans rfl
  have hz6_ := (blk_cell BK.out 6).trans rfl
  have hz7_ := (blk_cell BK.out 7).trans rfl
  have hz8_ := (blk_cell BK.out 8).trans rfl
  have hz9_ := (blk_cell BK.out 9).trans rfl
  have hz10_ := (blk_cell BK.out 10).trans rfl
  generalize wrap64 (mx (z.h0) (z.h1) + wrap64 (1000 * x.under)) = nd at *
  go_wp2
  go_step3
  go_wp2
  have HF : Aside0 ([] ++ sailW false x.sills x.leaves nd = sailO x.under x.leaves x.sills z false) := ⟨by rw [sailO, HND.out]; rfl⟩
  have hls := HL.out.s
  clear HND
  go_loopg [37, 7, 8] x.sills.length (fun gk v37 v7 v8 wr => ∃ (k : Nat) (now : Int) (acc : List Int), k ≤ x.sills.length ∧ x.sills.length - k ≤ gk ∧ v37 = .int .i64 k ∧ v7 = .int .i64 now ∧ acc.length ≤ k ∧ Aside0 (acc ++ sailW false (x.sills.drop k) now nd = sailO x.under x.leaves x.sills z false) ∧ Aside0 (wr.ownsRow w.heap.size 3 1 v8 acc.length (acc.map (Value.int .i64))) ∧ Aside0 (Below w.heap.size w wr))
  case atStart => exact ⟨0, x.leaves, [], by omega, by omega, rfl, rfl, by simp, HF, ⟨World.ownsRow_nil _ _ _ _⟩, HB⟩
  case round =>
   clear BK HF HB
   obtain ⟨k, now, acc, hk, hgk, rfl, rfl, hacc, HF, HO, HB⟩ := hrel
   by_cases hlt : k < x.sills.length
   ·
    have hlz : (k : Int) < (x.sills.length : Int) := by omega
    obtain ⟨ads, A2, c2, e, h0, h1, h2, l2, g2⟩ := at_T59 HS5.out (k : Int) (by omega) hlz
    cases e
    rw [Int.toNat_natCast] at h0 h1 h2
    replace h0 := cell_x HB h0
    replace h1 := cell_x HB h1
    replace h2 := cell_x HB h2
    have hlen := HL.out.l k hlt
    have hdr := drop_cons_of x.sills k hlt z59
    rw [hdr] at HF
    have hrd : x.sills.getD k z59 = rd_T59 x.sills (k : Int) := rfl
    rw [hrd] at HF hlen
    clear hdr hrd
    generalize rd_T59 x.sills (k : Int) = sl at *
    obtain ⟨P, hP⟩ : ∃ P, passW false sl.f1 (wrap64 (now + travelOf false sl)) nd = P := ⟨_, rfl⟩
    have HF2 := HF.out
    simp only [sailW] at HF2
    rw [hP] at HF2
    replace HF := Aside0.mk HF2
    have HP := Aside0.mk hP
    have G2 := Aside0.mk g2
    clear HF2 hP g2
    go_upto_region 10 with (fail)
    obtain ⟨g10, hg_⟩ : ∃ b, b = wr.heap.size := ⟨_, rfl⟩
    have B10 := Aside0.mk (blk_new wr (.cells #[.int .i64 sl.f0.f0, .int .i64 sl.f0.f1, .slice A2 sl.f1.length c2] 59 (0, 0)))
    have hbw : Below wr.heap.size wr (wr.alloc (.cells #[.int .i64 sl.f0.f0, .int .i64 sl.f0.f1, .slice A2 sl.f1.length c2] 59 (0, 0))) := below_alloc (Below.refl _ _) _
    generalize hw_ : wr.alloc (.cells #[.int .i64 sl.f0.f0, .int .i64 sl.f0.f1, .slice A2 sl.f1.length c2] 59 (0, 0)) = w8 at *
    rw [← hg_] at B10 ⊢
    replace HO := Aside0.mk (own_move HO.out (fun b hb => hbw.block b (own_lt HO.out b hb)))
    replace HB := Aside0.mk (below_step HB.out hbw)
    clear hbw hw_ hg_ h0 h1 h2
    have hb0_ := (blk_cell B10.out 0).trans rfl
    have hb1_ := (blk_cell B10.out 1).trans rfl
    have hb2_ := (blk_cell B10.out 2).trans rfl
    go_wp2
    clear hb0_ hb1_ hb2_
    have HP2 : Aside0 (passW false sl.f1 (wrap64 (now + sl.f0.f1)) nd = P) := HP
    generalize wrap64 (now + sl.f0.f1) = nw0 at *
    clear HP
    go_loopg [59, 7, 8] sl.f1.length (fun gk v59 v7 v8 wr => ∃ (j : Nat) (nw : Int), j ≤ sl.f1.length ∧ sl.f1.length - j ≤ gk ∧ v59 = .int .i64 j ∧ v7 = .int .i64 nw ∧ Aside0 (passW false (sl.f1.drop j) nw nd = P) ∧ Aside0 (wr.ownsRow w.heap.size 3 1 v8 acc.length (acc.map (Value.int .i64))) ∧ Aside0 (wr.heap[g10]? = some (.cells #[.int .i64 sl.f0.f0, .int .i64 sl.f0.f1, .slice A2 sl.f1.length c2] 59 (0, 0))) ∧ Aside0 (Below w.heap.size w wr))
    case atStart => exact ⟨0, nw0, by omega, by omega, rfl, rfl, HP2, HO, B10, HB⟩
    case round =>
     clear HP2 HO B10 HB
     obtain ⟨j, nw, hj, hgj, rfl, rfl, HP, HO, B10, HB⟩ := hrel
     by_cases hjl : j < sl.f1.length
     ·
      have hjz : (j : Int) < (sl.f1.length : Int) := by omega
      have hst := passW_step (soon := false) hjl nw nd
      rw [HP.out] at hst
      obtain ⟨adl, e, h0, h1, h2⟩ := at_T62 G2.out (j : Int) (by omega) hjz
      cases e
      rw [Int.toNat_natCast] at h0 h1 h2
      replace h0 := cell_x HB h0
      replace h1 := cell_x HB h1
      replace h2 := cell_x HB h2
      have hrd : sl.f1.getD j z62 = rd_T62 sl.f1 (j : Int) := rfl
      rw [hrd] at hst
      have HST := Aside0.mk hst
      have HWC := Aside0.mk (fun W (hB : Below w.heap.size w W) => water_calls sl.f0.f0 sl.f0.f1 (some adl) c2 sl.f1 false j W (Kd.C_below G2.out hB) l2 hjl (by omega))
      clear hrd hst HP
      generalize rd_T62 sl.f1 (j : Int) = lv at *
      go_upto_region 17 with (fail)
      obtain ⟨g13, hg_⟩ : ∃ b, b = wr.heap.size := ⟨_, rfl⟩
      have B13 := Aside0.mk (blk_new wr (.cells #[.int .i64 lv.f0, .int .i64 lv.f1.f0, .int .i64 lv.f1.f1] 62 (0, 0)))
      have hbw : Below wr.heap.size wr (wr.alloc (.cells #[.int .i64 lv.f0, .int .i64 lv.f1.f0, .int .i64 lv.f1.f1] 62 (0, 0))) := below_alloc (Below.refl _ _) _
      generalize hw_ : wr.alloc (.cells #[.int .i64 lv.f0, .int .i64 lv.f1.f0, .int .i64 lv.f1.f1] 62 (0, 0)) = w9 at *
      rw [← hg_] at B13 ⊢
      replace HO := Aside0.mk (own_move HO.out (fun b hb => hbw.block b (own_lt HO.out b hb)))
      replace B10 := Aside0.mk (blk_below B10.out hbw)
      replace HB := Aside0.mk (below_step HB.out hbw)
      clear hbw hw_ hg_ h0 h1 h2
      have hb2_ := (blk_cell B10.out 2).trans rfl
      have hc0_ := (blk_cell B13.out 0).trans rfl
      by_cases hn : j + 1 < sl.f1.length
      ·
       have hnz : (j : Int) + 1 < (sl.f1.length : Int) := by omega
       obtain ⟨adl2, e2, h3, _, _⟩ := at_T62 G2.out ((j + 1 : Nat) : Int) (by omega) (by omega)
       obtain rfl : adl = adl2 := by injection e2
       rw [Int.toNat_natCast] at h3
       replace h3 := cell_x HB h3
       have hrd2 : sl.f1.getD (j + 1) z62 = rd_T62 sl.f1 ((j + 1 : Nat) : Int) := rfl
       have hst := HST.out
       rw [hrd2] at hst
       generalize (rd_T62 sl.f1 ((j + 1 : Nat) : Int)).f0 = fn at *
       by_cases hle : fn ≤ nw
       ·
        rw [if_pos ⟨hn, hle⟩] at hst
        have HP := Aside0.mk hst.symm
        clear hst e2 HST hrd2
        go_wp2
        go_roundg (sl.f1.length - (j + 1))
        case measure => omega
        case rel => exact ⟨j + 1, nw, by omega, by omega, by go_num, rfl, HP, HO, B10, HB⟩
       ·
        rw [if_neg (fun h => hle h.2)] at hst
        clear e2 HST hrd2
        have hm_ : (if nw < lv.f0 then lv.f0 else nw) = mx nw lv.f0 := rfl
        generalize mx nw lv.f0 = m at *
        go_upto_region 18 with (fail)
        clear hb2_
        by_cases h28 : m ≤ 2880
        ·
         have hcall := HWC.out _ HB.out
         generalize waterOf false lv = wt at *
         have HCALL := Aside0.mk hcall
         have HSTX := Aside0.mk hst
         clear hcall hst HWC
         by_cases hw : nd ≤ wrap64 (1000 * wt)
         ·
          have hP := HSTX.out.trans (if_pos ⟨h28, hw⟩)
          have HP := Aside0.mk hP
          clear hP HSTX
          go_wp2_with (first | (go_at_call 80; refine HCALL.out.mono ?_; rintro e w10 ⟨rfl, hb10⟩; have HB10 := Aside0.mk (below_step HB.out hb10); have HO10 := Aside0.mk (own_move HO.out (fun b hb => hb10.block b (own_lt HO.out b hb))); clear hb10) | (at_builtin; refine wpList_append_own _ rfl _ _ 27 rfl w.heap.size 3 i0 (.int .i64 0) 1 8 Try.underlying27 hi hz0 hz1 hz2 rfl (by decide) _ _ _ rfl (HO10.out.alloc _) ⟨w10.heap.size, 0, none⟩ 1 1 [.int .i64 m] rfl rfl (cell_one_new _ _ _) (by simp [Value.oneCell']) (by unfold maxLen; omega) (by omega) (by have := HB10.out.size; simp; omega) ?_; intro v' w11 hown' hgrow _))
          go_roundg (x.sills.length - (k + 1))
          case measure => omega
          case rel =>
           refine ⟨k + 1, m, acc ++ [m], by omega, by omega, by go_num, rfl, by simp; omega, ⟨?_⟩, ⟨by simpa using hown'⟩, ⟨grow_below HB10.out HO10.out hgrow⟩⟩
           have hf := HF.out
           rw [HP.out] at hf
           simpa using hf
         ·
          have hP := HSTX.out.trans (if_neg (fun h => hw h.2))
          have HP := Aside0.mk hP.symm
          clear hP HSTX
          go_wp2_with (go_at_call 80; refine HCALL.out.mono ?_; rintro e w10 ⟨rfl, hb10⟩; have HB10 := Aside0.mk (below_step HB.out hb10); have HO10 := Aside0.mk (own_move HO.out (fun b hb => hb10.block b (own_lt HO.out b hb))); have BK10 := Aside0.mk (blk_below B10.out hb10); clear hb10)
          go_roundg (sl.f1.length - (j + 1))
          case measure => omega
          case rel => exact ⟨j + 1, m, by omega, by omega, by go_num, rfl, HP, HO10, BK10, HB10⟩
        ·
         have hP := hst.trans (if_neg (fun h => h28 h.1))
         have HP := Aside0.mk hP.symm
         clear hP hst HWC
         go_wp2
         go_roundg (sl.f1.length - (j + 1))
         case measure => omega
         case rel => exact ⟨j + 1, m, by omega, by omega, by go_num, rfl, HP, HO, B10, HB⟩
      ·
       have hnz : ¬ (j : Int) + 1 < (sl.f1.length : Int) := by omega
       have hst := HST.out
       rw [if_neg (fun h => hn h.1)] at hst
       clear HST
       have hm_ : (if nw < lv.f0 then lv.f0 else nw) = mx nw lv.f0 := rfl
       generalize mx nw lv.f0 = m at *
       go_upto_region 18 with (fail)
       clear hb2_
       by_cases h28 : m ≤ 2880
       ·
        have hcall := HWC.out _ HB.out
        generalize waterOf false lv = wt at *
        have HCALL := Aside0.mk hcall
        have HSTX := Aside0.mk hst
        clear hcall hst HWC
        by_cases hw : nd ≤ wrap64 (1000 * wt)
        ·
         have hP := HSTX.out.trans (if_pos ⟨h28, hw⟩)
         have HP := Aside0.mk hP
         clear hP HSTX
         go_wp2_with (first | (go_at_call 80; refine HCALL.out.mono ?_; rintro e w10 ⟨rfl, hb10⟩; have HB10 := Aside0.mk (below_step HB.out hb10); have HO10 := Aside0.mk (own_move HO.out (fun b hb => hb10.block b (own_lt HO.out b hb))); clear hb10) | (at_builtin; refine wpList_append_own _ rfl _ _ 27 rfl w.heap.size 3 i0 (.int .i64 0) 1 8 Try.underlying27 hi hz0 hz1 hz2 rfl (by decide) _ _ _ rfl (HO10.out.alloc _) ⟨w10.heap.size, 0, none⟩ 1 1 [.int .i64 m] rfl rfl (cell_one_new _ _ _) (by simp [Value.oneCell']) (by unfold maxLen; omega) (by omega) (by have := HB10.out.size; simp; omega) ?_; intro v' w11 hown' hgrow _))
         go_roundg (x.sills.length - (k + 1))
         case measure => omega
         case rel =>
          refine ⟨k + 1, m, acc ++ [m], by omega, by omega, by go_num, rfl, by simp; omega, ⟨?_⟩, ⟨by simpa using hown'⟩, ⟨grow_below HB10.out HO10.out hgrow⟩⟩
          have hf := HF.out
          rw [HP.out] at hf
          simpa using hf
        ·
         have hP := HSTX.out.trans (if_neg (fun h => hw h.2))
         have HP := Aside0.mk hP.symm
         clear hP HSTX
         go_wp2_with (go_at_call 80; refine HCALL.out.mono ?_; rintro e w10 ⟨rfl, hb10⟩; have HB10 := Aside0.mk (below_step HB.out hb10); have HO10 := Aside0.mk (own_move HO.out (fun b hb => hb10.block b (own_lt HO.out b hb))); have BK10 := Aside0.mk (blk_below B10.out hb10); clear hb10)
         go_roundg (sl.f1.length - (j + 1))
         case measure => omega
         case rel => exact ⟨j + 1, m, by omega, by omega, by go_num, rfl, HP, HO10, BK10, HB10⟩
       ·
        have hP := hst.trans (if_neg (fun h => h28 h.1))
        have HP := Aside0.mk hP.symm
        clear hP hst HWC
        go_wp2
        go_roundg (sl.f1.length - (j + 1))
        case measure => omega
        case rel => exact ⟨j + 1, m, by omega, by omega, by go_num, rfl, HP, HO, B10, HB⟩
     ·
      have : j = sl.f1.length := by omega
      subst this
      have hp := HP.out
      rw [List.drop_length] at hp
      simp only [passW] at hp
      go_wp2
      rw [Exit.noGoto_ret]
      go_ret
      have hf := HF.out
      rw [← hp] at hf
      simp only [List.append_nil] at hf
      rw [← hf]
      exact ⟨_, rfl, R_of_owns .i64 HO.out, HB.out⟩
   ·
    have : k = x.sills.length := by omega
    subst this
    go_wp2
    rw [Exit.noGoto_ret]
    go_ret
    have hf := HF.out
    rw [List.drop_length] at hf
    simp only [sailW, List.append_nil] at hf
    rw [← hf]
    exact ⟨_, rfl, R_of_owns .i64 HO.out, HB.out⟩
 ·
  skip
  go_step3
  go_upto_region 2 with (fail)
  clear hz0_ hz1_ hz2_ hz3_ hz4_ hz5_ hz6_ hz7_ hz8_ hz9_ hz10_
  obtain ⟨g5, hg_⟩ : ∃ b, b = w2.heap.size := ⟨_, rfl⟩
  have Ng5 := Aside0.mk (blk_new w2 (.cells #[.int .i64 z.h0, .int .i64 z.h1] 93 (0, 0)))
  have hbw : Below w2.heap.size w2 (w2.alloc (.cells #[.int .i64 z.h0, .int .i64 z.h1] 93 (0, 0))) := below_alloc (Below.refl _ _) _
  have hgs_ : w.heap.size ≤ g5 := by rw [hg_]; exact HB.out.size
  generalize hw_ : w2.alloc (.cells #[.int .i64 z.h0, .int .i64 z.h1] 93 (0, 0)) = w3 at *
  rw [← hg_] at Ng5 ⊢
  replace BK := Aside0.mk (blk_below BK.out hbw)
  replace HB := Aside0.mk (below_step HB.out hbw)
  have GEg5 : Aside0 (w.heap.size ≤ g5) := ⟨hgs_⟩
  clear hbw hw_ hg_ hgs_
  have hz0_ := (blk_cell BK.out 0).trans rfl
  have hz1_ := (blk_cell BK.out 1).trans rfl
  have hz2_ := (blk_cell BK.out 2).trans rfl
  have hz3_ := (blk_cell BK.out 3).trans rfl
  have hz4_ := (blk_cell BK.out 4).trans rfl
  have hz5_ := (blk_cell BK.out 5).trans rfl
  have hz6_ := (blk_cell BK.out 6).trans rfl
  have hz7_ := (blk_cell BK.out 7).trans rfl
  have hz8_ := (blk_cell BK.out 8).trans rfl
  have hz9_ := (blk_cell BK.out 9).trans rfl
  have hz10_ := (blk_cell BK.out 10).trans rfl
  have hy0_ := (blk_cell Ng5.out 0).trans rfl
  have hy1_ := (blk_cell Ng5.out 1).trans rfl
  have hf5_ := blk_frozen Ng5.out
  go_upto_region 4 with (fail)
  have B5 := Aside0.mk (blk_put (cs' := #[.int .i64 z.b0, .int .i64 z.b1]) (blk_set Ng5.out 0 (.int .i64 z.b0)) 1 (.int .i64 z.b1) rfl)
  have hx_ : Below w.heap.size w ((w3.setCell ⟨g5, 0, none⟩ (.int .i64 z.b0)).setCell ⟨g5, 1, none⟩ (.int .i64 z.b1)) := below_set (below_set HB.out GEg5.out) GEg5.out
  have hn_ := blk_ne_ BK.out Ng5.out (by decide)
  replace BK := Aside0.mk (blk_far (blk_far BK.out (p := ⟨g5, 0, none⟩) hn_ (.int .i64 z.b0)) (p := ⟨g5, 1, none⟩) hn_ (.int .i64 z.b1))
  replace HB := Aside0.mk hx_
  generalize hW_ : (w3.setCell ⟨g5, 0, none⟩ (.int .i64 z.b0)).setCell ⟨g5, 1, none⟩ (.int .i64 z.b1) = w4 at *
  clear hW_ hx_ hn_ hy0_ hy1_ hf5_ Ng5 hz0_ hz1_ hz2_ hz3_ hz4_ hz5_ hz6_ hz7_ hz8_ hz9_ hz10_
  have hd_ := below_drew1 (Below.refl w4.heap.size w4)
  have hq0_ := (blk_cell B5.out 0).trans rfl
  have hq1_ := (blk_cell B5.out 1).trans rfl
  have hq2_ := (blk_cell BK.out 1).trans rfl
  replace BK := Aside0.mk (blk_drew BK.out)
  replace HB := Aside0.mk (below_step HB.out hd_)
  clear hd_ B5
  refine start_ (n := 12) (S := fun w' => w'.cell? ⟨g5, 0, none⟩ = some (.int .i64 z.b0) ∧ w'.cell? ⟨g5, 1, none⟩ = some (.int .i64 z.b1) ∧ w'.cell? ⟨gb, 1, none⟩ = some (.int .i64 x.under)) (ds := []) #[false, false, false, false, false, false, false, false, false, false, false, false] (by kernel_rfl) rfl rfl ⟨hq0_, hq1_, hq2_⟩ (fun hHeld => ?_)
  generalize w4.drew = w5 at BK HB hHeld ⊢
  refine pure_y 0 (some 19) (bz 12 1) ?_
  refine pure_y 2 (some 21) (bz 12 5) ?_
  refine pure_y 6 (some 25) (bz 12 69) ?_
  refine pure_y 7 (some 26) (bz 12 197) ?_
  refine take_ (i := 1) (N := some 20) (v := ?_) (a' := ?_) (bz 12 199) rfl rfl (by kernel_rfl) (fun _ _ _ h => h) (Or.inl ⟨by rfl, ?_⟩) hHeld ?_ ?_
  rotate_left; (rintro w' ⟨s0, s1, s2⟩; go_simp; with_reducible rfl); rotate_left; (simp only [Act.put, put_x, i64_w, i32_w]; rfl)
  refine take_ (i := 3) (N := some 22) (v := ?_) (a' := ?_) (bz 12 207) rfl rfl (by kernel_rfl) (fun _ _ _ h => h) (Or.inl ⟨by rfl, ?_⟩) hHeld ?_ ?_
  rotate_left; (rintro w' ⟨s0, s1, s2⟩; go_simp; with_reducible rfl); rotate_left; (simp only [Act.put, put_x, i64_w, i32_w]; rfl)
  refine take_ (i := 8) (N := some 27) (v := ?_) (a' := ?_) (bz 12 463) rfl rfl (by kernel_rfl) (fun _ _ _ h => h) (Or.inl ⟨by rfl, ?_⟩) hHeld ?_ ?_
  rotate_left; (rintro w' ⟨s0, s1, s2⟩; go_simp; with_reducible rfl); rotate_left; (simp only [Act.put, put_x, i64_w, i32_w]; rfl)
  refine pure_y 9 (some 28) (bz 12 975) ?_
  refine one_ (i := 4) (N := some 23) (bz 12 991) rfl rfl (by kernel_rfl) (by decide) (fun K hK => ?_)
  obtain ⟨ys, hys⟩ : ∃ ys : List Int, ys = [z.b1] := ⟨_, rfl⟩
  refine Kd.R_lit_step (Kd.int .i64) _ 3 ?hg (N := 23) ?hd (xs := ([z.b1] : List Int)) (inner := [.int .i64 z.b1]) (ok := fun _ => True) (okp := fun _ => True) ?hr ?hp (fun _ hk => hk) trivial (Below.refl _ _) (Nat.le_refl _) (by simp) ?_; (case hd => rfl); (case hg => rfl); (case hr => first | (go_simp; done) | (go_simp; rfl)); (case hp => exact (Reps.one (show Kd.M (Kd.int .i64) _ _ _ (z.b1) [.int .i64 z.b1] from rfl) (Reps.none _ _)))
  intro vs_ w6 ho_ hb_ hg_ hnew_
  rw [← hys] at ho_
  obtain ⟨As, cs, rfl⟩ := Kd.R_slice ho_
  have RS := Aside0.mk (Kd.R_reads' ho_).2.2
  have ls_ := (Kd.R_reads' ho_).2.1
  have HYS := Aside0.mk hys
  clear hg_ hnew_ ho_ hys
  replace BK := Aside0.mk (blk_below BK.out hb_)
  replace HB := Aside0.mk (below_step HB.out hb_)
  have hb4_ := hb_
  clear hb_
  refine hK.out _ _ ⟨(hb4_.cell (World.block_lt_of_cell? _ _ (hHeld.1))).trans (hHeld.1), (hb4_.cell (World.block_lt_of_cell? _ _ (hHeld.2.1))).trans (hHeld.2.1), (hb4_.cell (World.block_lt_of_cell? _ _ (hHeld.2.2))).trans (hHeld.2.2)⟩ (fun hHeld => ?_)
  clear hK K
  refine norm_ (a' := ?_) ?_ ?_; rotate_left; (show Act.put _ (some 23) _ = _; simp only [Act.put, put_x, i64_w, i32_w]; rfl)
  refine one_ (i := 5) (N := some 24) (bz 12 1023) rfl rfl (by kernel_rfl) (by decide) (fun K hK => ?_)
  refine goes_ Try.func79 (by kernel_rfl) rfl #[.int .i64 z.b0, .slice As ys.length cs] (by rfl) rfl rfl (by (try simp only [List.map_toArray, List.map_cons, List.map_nil]); first | done | rfl) ?_
  with_reducible refine (ship_greatest.calls 2 (z.b0) As cs ys (mx (z.b0) (z.b1)) _ RS.out ls_ (by rw [HYS.out]; exact greatest_one _ _)).mono ?_
  rintro e w7 ⟨rfl, hb5_⟩
  refine ⟨_, rfl, ?_⟩
  replace BK := Aside0.mk (blk_below BK.out hb5_)
  replace HB := Aside0.mk (below_step HB.out hb5_)
  refine hK.out _ _ ⟨(hb5_.cell (World.block_lt_of_cell? _ _ (hHeld.1))).trans (hHeld.1), (hb5_.cell (World.block_lt_of_cell? _ _ (hHeld.2.1))).trans (hHeld.2.1), (hb5_.cell (World.block_lt_of_cell? _ _ (hHeld.2.2))).trans (hHeld.2.2)⟩ (fun hHeld => ?_)
  clear hK K
  refine norm_ (a' := ?_) ?_ ?_; rotate_left; (show Act.put _ (some 24) _ = _; simp only [Act.put, put_x, i64_w, i32_w]; rfl)
  refine pure_y 10 (some 29) (bz 12 2047) ?_
  refine pure_y 11 (some 6) (bz 12 4095) ?_
  refine done_ (by kernel_rfl) ?_
  clear hHeld hq0_ hq1_ hq2_ hb4_ hb5_ RS HYS ls_
  have HND := Aside0.mk (show needsW x.under z true = wrap64 (mx (z.b0) (z.b1) + wrap64 (1000 * x.under)) from rfl)
  have hz0_ := (blk_cell BK.out 0).trans rfl
  have hz1_ := (blk_cell BK.out 1).trans rfl
  have hz2_ := (blk_cell BK.out 2).trans rfl
  have hz3_ := (blk_cell BK.out 3).trans rfl
  have hz4_ := (blk_cell BK.out 4).trans rfl
  have hz5_ := (blk_cell BK.out 5).trans rfl
  have hz6_ := (blk_cell BK.out 6).trans rfl
  have hz7_ := (blk_cell BK.out 7).trans rfl
  have hz8_ := (blk_cell BK.out 8).trans rfl
  have hz9_ := (blk_cell BK.out 9).trans rfl
  have hz10_ := (blk_cell BK.out 10).trans rfl
  generalize wrap64 (mx (z.b0) (z.b1) + wrap64 (1000 * x.under)) = nd at *
  go_wp2
  go_step3
  go_wp2
  have HF : Aside0 ([] ++ sailW true x.sills x.leaves nd = sailO x.under x.leaves x.sills z true) := ⟨by rw [sailO, HND.out]; rfl⟩
  have hls := HL.out.s
  clear HND
  go_loopg [37, 7, 8] x.sills.length (fun gk v37 v7 v8 wr => ∃ (k : Nat) (now : Int) (acc : List Int), k ≤ x.sills.length ∧ x.sills.length - k ≤ gk ∧ v37 = .int .i64 k ∧ v7 = .int .i64 now ∧ acc.length ≤ k ∧ Aside0 (acc ++ sailW true (x.sills.drop k) now nd = sailO x.under x.leaves x.sills z true) ∧ Aside0 (wr.ownsRow w.heap.size 3 1 v8 acc.length (acc.map (Value.int .i64))) ∧ Aside0 (Below w.heap.size w wr))
  case atStart => exact ⟨0, x.leaves, [], by omega, by omega, rfl, rfl, by simp, HF, ⟨World.ownsRow_nil _ _ _ _⟩, HB⟩
  case round =>
   clear BK HF HB
   obtain ⟨k, now, acc, hk, hgk, rfl, rfl, hacc, HF, HO, HB⟩ := hrel
   by_cases hlt : k < x.sills.length
   ·
    have hlz : (k : Int) < (x.sills.length : Int) := by omega
    obtain ⟨ads, A2, c2, e, h0, h1, h2, l2, g2⟩ := at_T59 HS5.out (k : Int) (by omega) hlz
    cases e
    rw [Int.toNat_natCast] at h0 h1 h2
    replace h0 := cell_x HB h0
    replace h1 := cell_x HB h1
    replace h2 := cell_x HB h2
    have hlen := HL.out.l k hlt
    have hdr := drop_cons_of x.sills k hlt z59
    rw [hdr] at HF
    have hrd : x.sills.getD k z59 = rd_T59 x.sills (k : Int) := rfl
    rw [hrd] at HF hlen
    clear hdr hrd
    generalize rd_T59 x.sills (k : Int) = sl at *
    obtain ⟨P, hP⟩ : ∃ P, passW true sl.f1 (wrap64 (now + travelOf true sl)) nd = P := ⟨_, rfl⟩
    have HF2 := HF.out
    simp only [sailW] at HF2
    rw [hP] at HF2
    replace HF := Aside0.mk HF2
    have HP := Aside0.mk hP
    have G2 := Aside0.mk g2
    clear HF2 hP g2
    go_upto_region 10 with (fail)
    obtain ⟨g10, hg_⟩ : ∃ b, b = wr.heap.size := ⟨_, rfl⟩
    have B10 := Aside0.mk (blk_new wr (.cells #[.int .i64 sl.f0.f0, .int .i64 sl.f0.f1, .slice A2 sl.f1.length c2] 59 (0, 0)))
    have hbw : Below wr.heap.size wr (wr.alloc (.cells #[.int .i64 sl.f0.f0, .int .i64 sl.f0.f1, .slice A2 sl.f1.length c2] 59 (0, 0))) := below_alloc (Below.refl _ _) _
    generalize hw_ : wr.alloc (.cells #[.int .i64 sl.f0.f0, .int .i64 sl.f0.f1, .slice A2 sl.f1.length c2] 59 (0, 0)) = w8 at *
    rw [← hg_] at B10 ⊢
    replace HO := Aside0.mk (own_move HO.out (fun b hb => hbw.block b (own_lt HO.out b hb)))
    replace HB := Aside0.mk (below_step HB.out hbw)
    clear hbw hw_ hg_ h0 h1 h2
    have hb0_ := (blk_cell B10.out 0).trans rfl
    have hb1_ := (blk_cell B10.out 1).trans rfl
    have hb2_ := (blk_cell B10.out 2).trans rfl
    go_wp2
    clear hb0_ hb1_ hb2_
    have HP2 : Aside0 (passW true sl.f1 (wrap64 (now + sl.f0.f0)) nd = P) := HP
    generalize wrap64 (now + sl.f0.f0) = nw0 at *
    clear HP
    go_loopg [59, 7, 8] sl.f1.length (fun gk v59 v7 v8 wr => ∃ (j : Nat) (nw : Int), j ≤ sl.f1.length ∧ sl.f1.length - j ≤ gk ∧ v59 = .int .i64 j ∧ v7 = .int .i64 nw ∧ Aside0 (passW true (sl.f1.drop j) nw nd = P) ∧ Aside0 (wr.ownsRow w.heap.size 3 1 v8 acc.length (acc.map (Value.int .i64))) ∧ Aside0 (wr.heap[g10]? = some (.cells #[.int .i64 sl.f0.f0, .int .i64 sl.f0.f1, .slice A2 sl.f1.length c2] 59 (0, 0))) ∧ Aside0 (Below w.heap.size w wr))
    case atStart => exact ⟨0, nw0, by omega, by omega, rfl, rfl, HP2, HO, B10, HB⟩
    case round =>
     clear HP2 HO B10 HB
     obtain ⟨j, nw, hj, hgj, rfl, rfl, HP, HO, B10, HB⟩ := hrel
     by_cases hjl : j < sl.f1.length
     ·
      have hjz : (j : Int) < (sl.f1.length : Int) := by omega
      have hst := passW_step (soon := true) hjl nw nd
      rw [HP.out] at hst
      obtain ⟨adl, e, h0, h1, h2⟩ := at_T62 G2.out (j : Int) (by omega) hjz
      cases e
      rw [Int.toNat_natCast] at h0 h1 h2
      replace h0 := cell_x HB h0
      replace h1 := cell_x HB h1
      replace h2 := cell_x HB h2
      have hrd : sl.f1.getD j z62 = rd_T62 sl.f1 (j : Int) := rfl
      rw [hrd] at hst
      have HST := Aside0.mk hst
      have HWC := Aside0.mk (fun W (hB : Below w.heap.size w W) => water_calls sl.f0.f0 sl.f0.f1 (some adl) c2 sl.f1 true j W (Kd.C_below G2.out hB) l2 hjl (by omega))
      clear hrd hst HP
      generalize rd_T62 sl.f1 (j : Int) = lv at *
      go_upto_region 17 with (fail)
      obtain ⟨g13, hg_⟩ : ∃ b, b = wr.heap.size := ⟨_, rfl⟩
      have B13 := Aside0.mk (blk_new wr (.cells #[.int .i64 lv.f0, .int .i64 lv.f1.f0, .int .i64 lv.f1.f1] 62 (0, 0)))
      have hbw : Below wr.heap.size wr (wr.alloc (.cells #[.int .i64 lv.f0, .int .i64 lv.f1.f0, .int .i64 lv.f1.f1] 62 (0, 0))) := below_alloc (Below.refl _ _) _
      generalize hw_ : wr.alloc (.cells #[.int .i64 lv.f0, .int .i64 lv.f1.f0, .int .i64 lv.f1.f1] 62 (0, 0)) = w9 at *
      rw [← hg_] at B13 ⊢
      replace HO := Aside0.mk (own_move HO.out (fun b hb => hbw.block b (own_lt HO.out b hb)))
      replace B10 := Aside0.mk (blk_below B10.out hbw)
      replace HB := Aside0.mk (below_step HB.out hbw)
      clear hbw hw_ hg_ h0 h1 h2
      have hb2_ := (blk_cell B10.out 2).trans rfl
      have hc0_ := (blk_cell B13.out 0).trans rfl
      by_cases hn : j + 1 < sl.f1.length
      ·
       have hnz : (j : Int) + 1 < (sl.f1.length : Int) := by omega
       obtain ⟨adl2, e2, h3, _, _⟩ := at_T62 G2.out ((j + 1 : Nat) : Int) (by omega) (by omega)
       obtain rfl : adl = adl2 := by injection e2
       rw [Int.toNat_natCast] at h3
       replace h3 := cell_x HB h3
       have hrd2 : sl.f1.getD (j + 1) z62 = rd_T62 sl.f1 ((j + 1 : Nat) : Int) := rfl
       have hst := HST.out
       rw [hrd2] at hst
       generalize (rd_T62 sl.f1 ((j + 1 : Nat) : Int)).f0 = fn at *
       by_cases hle : fn ≤ nw
       ·
        rw [if_pos ⟨hn, hle⟩] at hst
        have HP := Aside0.mk hst.symm
        clear hst e2 HST hrd2
        go_wp2
        go_roundg (sl.f1.length - (j + 1))
        case measure => omega
        case rel => exact ⟨j + 1, nw, by omega, by omega, by go_num, rfl, HP, HO, B10, HB⟩
       ·
        rw [if_neg (fun h => hle h.2)] at hst
        clear e2 HST hrd2
        have hm_ : (if nw < lv.f0 then lv.f0 else nw) = mx nw lv.f0 := rfl
        generalize mx nw lv.f0 = m at *
        go_upto_region 18 with (fail)
        clear hb2_
        by_cases h28 : m ≤ 2880
        ·
         have hcall := HWC.out _ HB.out
         generalize waterOf true lv = wt at *
         have HCALL := Aside0.mk hcall
         have HSTX := Aside0.mk hst
         clear hcall hst HWC
         by_cases hw : nd ≤ wrap64 (1000 * wt)
         ·
          have hP := HSTX.out.trans (if_pos ⟨h28, hw⟩)
          have HP := Aside0.mk hP
          clear hP HSTX
          go_wp2_with (first | (go_at_call 80; refine HCALL.out.mono ?_; rintro e w10 ⟨rfl, hb10⟩; have HB10 := Aside0.mk (below_step HB.out hb10); have HO10 := Aside0.mk (own_move HO.out (fun b hb => hb10.block b (own_lt HO.out b hb))); clear hb10) | (at_builtin; refine wpList_append_own _ rfl _ _ 27 rfl w.heap.size 3 i0 (.int .i64 0) 1 8 Try.underlying27 hi hz0 hz1 hz2 rfl (by decide) _ _ _ rfl (HO10.out.alloc _) ⟨w10.heap.size, 0, none⟩ 1 1 [.int .i64 m] rfl rfl (cell_one_new _ _ _) (by simp [Value.oneCell']) (by unfold maxLen; omega) (by omega) (by have := HB10.out.size; simp; omega) ?_; intro v' w11 hown' hgrow _))
          go_roundg (x.sills.length - (k + 1))
          case measure => omega
          case rel =>
           refine ⟨k + 1, m, acc ++ [m], by omega, by omega, by go_num, rfl, by simp; omega, ⟨?_⟩, ⟨by simpa using hown'⟩, ⟨grow_below HB10.out HO10.out hgrow⟩⟩
           have hf := HF.out
           rw [HP.out] at hf
           simpa using hf
         ·
          have hP := HSTX.out.trans (if_neg (fun h => hw h.2))
          have HP := Aside0.mk hP.symm
          clear hP HSTX
          go_wp2_with (go_at_call 80; refine HCALL.out.mono ?_; rintro e w10 ⟨rfl, hb10⟩; have HB10 := Aside0.mk (below_step HB.out hb10); have HO10 := Aside0.mk (own_move HO.out (fun b hb => hb10.block b (own_lt HO.out b hb))); have BK10 := Aside0.mk (blk_below B10.out hb10); clear hb10)
          go_roundg (sl.f1.length - (j + 1))
          case measure => omega
          case rel => exact ⟨j + 1, m, by omega, by omega, by go_num, rfl, HP, HO10, BK10, HB10⟩
        ·
         have hP := hst.trans (if_neg (fun h => h28 h.1))
         have HP := Aside0.mk hP.symm
         clear hP hst HWC
         go_wp2
         go_roundg (sl.f1.length - (j + 1))
         case measure => omega
         case rel => exact ⟨j + 1, m, by omega, by omega, by go_num, rfl, HP, HO, B10, HB⟩
      ·
       have hnz : ¬ (j : Int) + 1 < (sl.f1.length : Int) := by omega
       have hst := HST.out
       rw [if_neg (fun h => hn h.1)] at hst
       clear HST
       have hm_ : (if nw < lv.f0 then lv.f0 else nw) = mx nw lv.f0 := rfl
       generalize mx nw lv.f0 = m at *
       go_upto_region 18 with (fail)
       clear hb2_
       by_cases h28 : m ≤ 2880
       ·
        have hcall := HWC.out _ HB.out
        generalize waterOf true lv = wt at *
        have HCALL := Aside0.mk hcall
        have HSTX := Aside0.mk hst
        clear hcall hst HWC
        by_cases hw : nd ≤ wrap64 (1000 * wt)
        ·
         have hP := HSTX.out.trans (if_pos ⟨h28, hw⟩)
         have HP := Aside0.mk hP
         clear hP HSTX
         go_wp2_with (first | (go_at_call 80; refine HCALL.out.mono ?_; rintro e w10 ⟨rfl, hb10⟩; have HB10 := Aside0.mk (below_step HB.out hb10); have HO10 := Aside0.mk (own_move HO.out (fun b hb => hb10.block b (own_lt HO.out b hb))); clear hb10) | (at_builtin; refine wpList_append_own _ rfl _ _ 27 rfl w.heap.size 3 i0 (.int .i64 0) 1 8 Try.underlying27 hi hz0 hz1 hz2 rfl (by decide) _ _ _ rfl (HO10.out.alloc _) ⟨w10.heap.size, 0, none⟩ 1 1 [.int .i64 m] rfl rfl (cell_one_new _ _ _) (by simp [Value.oneCell']) (by unfold maxLen; omega) (by omega) (by have := HB10.out.size; simp; omega) ?_; intro v' w11 hown' hgrow _))
         go_roundg (x.sills.length - (k + 1))
         case measure => omega
         case rel =>
          refine ⟨k + 1, m, acc ++ [m], by omega, by omega, by go_num, rfl, by simp; omega, ⟨?_⟩, ⟨by simpa using hown'⟩, ⟨grow_below HB10.out HO10.out hgrow⟩⟩
          have hf := HF.out
          rw [HP.out] at hf
          simpa using hf
        ·
         have hP := HSTX.out.trans (if_neg (fun h => hw h.2))
         have HP := Aside0.mk hP.symm
         clear hP HSTX
         go_wp2_with (go_at_call 80; refine HCALL.out.mono ?_; rintro e w10 ⟨rfl, hb10⟩; have HB10 := Aside0.mk (below_step HB.out hb10); have HO10 := Aside0.mk (own_move HO.out (fun b hb => hb10.block b (own_lt HO.out b hb))); have BK10 := Aside0.mk (blk_below B10.out hb10); clear hb10)
         go_roundg (sl.f1.length - (j + 1))
         case measure => omega
         case rel => exact ⟨j + 1, m, by omega, by omega, by go_num, rfl, HP, HO10, BK10, HB10⟩
       ·
        have hP := hst.trans (if_neg (fun h => h28 h.1))
        have HP := Aside0.mk hP.symm
        clear hP hst HWC
        go_wp2
        go_roundg (sl.f1.length - (j + 1))
        case measure => omega
        case rel => exact ⟨j + 1, m, by omega, by omega, by go_num, rfl, HP, HO, B10, HB⟩
     ·
      have : j = sl.f1.length := by omega
      subst this
      have hp := HP.out
      rw [List.drop_length] at hp
      simp only [passW] at hp
      go_wp2
      rw [Exit.noGoto_ret]
      go_ret
      have hf := HF.out
      rw [← hp] at hf
      simp only [List.append_nil] at hf
      rw [← hf]
      exact ⟨_, rfl, R_of_owns .i64 HO.out, HB.out⟩
   ·
    have : k = x.sills.length := by omega
    subst this
    go_wp2
    rw [Exit.noGoto_ret]
    go_ret
    have hf := HF.out
    rw [List.drop_length] at hf
    simp only [sailW, List.append_nil] at hf
    rw [← hf]
    exact ⟨_, rfl, R_of_owns .i64 HO.out, HB.out⟩
def lensOK (sills : List S59) : Prop := sills.length ≤ 100000 ∧ ∀ s, s ∈ sills → s.f1.length ≤ 100000
instance (sills : List S59) : Decidable (lensOK sills) := by unfold lensOK; infer_instance
def overE (soon late : List Int) : List S56 := (List.range late.length).map fun i => ⟨soon.getD i 0, late.getD i 0⟩
def verdictE (n : Nat) (soon late : List Int) : Int := if late.length = n then 1 else if soon.length < n then 2 else 3
def sailR (under leaves : Int) (sills : List S59) (q : Q4) : Option (Int × List S56 × Int) :=
 if (sailO under leaves sills q false).length ≤ (sailO under leaves sills q true).length then some (verdictE sills.length (sailO under leaves sills q true) (sailO under leaves sills q false), overE (sailO under leaves sills q true) (sailO under leaves sills q false), 0) else none
noncomputable def ship_Sail.f (a0_0 : Int) (a0_1 : Int) (a0_2 : Int) (l0_3 : List (S85)) (a0_4 : Int) (l0_5 : List (S59)) (l0_6 : List (S79)) (l1 : List Int) : Option (Int × (List (S56)) × Int) :=
 (stowE a0_0 a0_1 a0_2 l0_3 a0_4 l0_5 l0_6 l1).bind fun e => if e = 0 then (if l1.length ≤ 140737488351232 ∧ lensOK l0_5 then (ladenO a0_0 l0_3 l0_6 l1).bind fun q => sailR a0_1 a0_4 l0_5 q else none) else some (0, [], e)
theorem overE_take (soon late : List Int) (k : Nat) (h : k < late.length) : ((overE soon late).take (k + 1)) = (overE soon late).take k ++ [⟨rd soon (k : Int), rd late (k : Int)⟩] := by
 have hl : k < (overE soon late).length := by simp [overE]; exact h
 rw [List.take_succ_eq_append_getElem hl]
 simp [overE, rd]
theorem SailLens.of {x : VoyV} (h : lensOK x.sills) : SailLens x := ⟨h.1, fun k hk => h.2 _ (by
 have : x.sills.getD k z59 = x.sills[k] := by simp [List.getD, hk]
 rw [this]; exact List.getElem_mem hk)⟩
set_option maxHeartbeats 8000000 in
set_option maxRecDepth 100000 in
theorem sailing_calls (x : VoyV) (A1 : Option Addr) (c1 : Nat) (l1 : List Int) (r1 : Int) (r2 : List S56) (r3 : Int) (w : World) (hx : x.Ok w) (hr1 : Kd.C (Kd.int .i64) w A1 l1.length l1) (hc1 : l1.length ≤ c1) (h : ship_Sail.f x.light x.under x.trim x.holds x.leaves x.sills x.lots l1 = some (r1, r2, r3)) :
  Calls Try.prog 22 #[.agg #[.int .i64 x.light, .int .i64 x.under, .int .i64 x.trim, .slice x.A3 x.holds.length x.c3, .int .i64 x.leaves, .slice x.A5 x.sills.length x.c5, .slice x.A6 x.lots.length x.c6], .slice A1 l1.length c1] w fun e w' => ∃ v1_ : Value, e = .returned (.tuple #[.int .i64 r1, v1_, .int .i64 r3]) ∧ Kd.R k56 56 w' w.heap.size (fun _ => True) v1_ r2 ∧ Below w.heap.size w w' := by
 have hu26 := Try.underlying26
 have hu93 := Try.underlying93
 have hu95 := Try.underlying95
 have hu56 := Try.underlying56
 unfold ship_Sail.f at h
 obtain ⟨er, hst, h⟩ := Option.bind_eq_some_iff.1 h
 obtain ⟨ks, hst⟩ := limO_ev hst
 have HX := Aside0.mk hx
 have HR1 := Aside0.mk hr1
 have HST := Aside0.mk hst
 have H := Aside0.mk h
 clear hx hr1 hst h
 go_enter Try.func22, Try.ntmps22
 go_wp2_with (first | ((with_reducible refine gate_dst (N := 2) rfl ?_); refine box_event ?hg (N := 2) ?hd (cs := #[.int .i64 x.light, .int .i64 x.under, .int .i64 x.trim, .slice x.A3 x.holds.length x.c3, .int .i64 x.leaves, .slice x.A5 x.sills.length x.c5, .slice x.A6 x.lots.length x.c6]) (t := 26) ?hr ?_; (case hd => rfl); (case hg => rfl); (case hr => first | (go_simp; done) | (go_simp; rfl)); intro gb hg w2 hbox hb2; have BK := Aside0.mk hbox; have HB := Aside0.mk hb2; clear hg hbox hb2; have hz0_ := (blk_cell BK.out 0).trans rfl; have hz1_ := (blk_cell BK.out 1).trans rfl; have hz2_ := (blk_cell BK.out 2).trans rfl; have hz3_ := (blk_cell BK.out 3).trans rfl; have hz4_ := (blk_cell BK.out 4).trans rfl; have hz5_ := (blk_cell BK.out 5).trans rfl; have hz6_ := (blk_cell BK.out 6).trans rfl))
 refine (ship_CheckStowage.calls ks x.light x.under x.trim x.A3 x.c3 x.holds x.leaves x.A5 x.c5 x.sills x.A6 x.c6 x.lots A1 c1 l1 er w2 (HX.out.below HB.out).h (HX.out.below HB.out).hc (HX.out.below HB.out).s (HX.out.below HB.out).sc (HX.out.below HB.out).l (HX.out.below HB.out).lc (Kd.C_below HR1.out HB.out) hc1 HST.out).mono ?_
 rintro e w5 ⟨rfl, hb5⟩
 replace BK := Aside0.mk (blk_below BK.out hb5)
 replace HB := Aside0.mk (below_step HB.out hb5)
 clear hb5 hz0_ hz1_ hz2_ hz3_ hz4_ hz5_ hz6_
 by_cases her : er = 0
 case neg =>
  have hh := H.out
  rw [if_neg her] at hh
  have hnb : (er == 0) = false := beq_eq_false_iff_ne.2 her
  simp only [Option.some.injEq, Prod.mk.injEq] at hh
  obtain ⟨rfl, rfl, rfl⟩ := hh
  clear her H
  go_wp2
  go_ret3
  exact ⟨_, rfl, Kd.R_nil _ _ _ _ _, HB.out⟩
 have hh := H.out
 rw [if_pos her] at hh
 by_cases hl1 : l1.length ≤ 140737488351232 ∧ lensOK x.sills
 case neg => rw [if_neg hl1] at hh; cases hh
 rw [if_pos hl1] at hh
 obtain ⟨z, hz, hh⟩ := Option.bind_eq_some_iff.1 hh
 have HLN := Aside0.mk (SailLens.of hl1.2)
 replace hl1 := hl1.1
 subst her
 have HZ := Aside0.mk hz
 have HH := Aside0.mk hh
 clear hz H hh
 have hz0_ := (blk_cell BK.out 0).trans rfl
 have hz1_ := (blk_cell BK.out 1).trans rfl
 have hz2_ := (blk_cell BK.out 2).trans rfl
 have hz3_ := (blk_cell BK.out 3).trans rfl
 have hz4_ := (blk_cell BK.out 4).trans rfl
 have hz5_ := (blk_cell BK.out 5).trans rfl
 have hz6_ := (blk_cell BK.out 6).trans rfl
 go_wp2_with (fail)
 refine (laden_calls x A1 c1 l1 z w5 (HX.out.below HB.out) (Kd.C_below HR1.out HB.out) hc1 hl1 HZ.out).mono ?_
 rintro e w6 ⟨rfl, hb6⟩
 replace BK := Aside0.mk (blk_below BK.out hb6)
 replace HB := Aside0.mk (below_step HB.out hb6)
 clear hb6 hz0_ hz1_ hz2_ hz3_ hz4_ hz5_ hz6_
 go_upto_region 5 with (fail)
 obtain ⟨g8, hg_⟩ : ∃ b, b = w6.heap.size := ⟨_, rfl⟩
 have Ng8 := Aside0.mk (blk_new w6 (.cells #[.int .i64 x.light, .int .i64 x.under, .int .i64 x.trim, .slice x.A3 x.holds.length x.c3, .int .i64 x.leaves, .slice x.A5 x.sills.length x.c5, .slice x.A6 x.lots.length x.c6, .int .i64 z.b0, .int .i64 z.b1, .int .i64 z.h0, .int .i64 z.h1] 95 (0, 0)))
 have hbw : Below w6.heap.size w6 (w6.alloc (.cells #[.int .i64 x.light, .int .i64 x.under, .int .i64 x.trim, .slice x.A3 x.holds.length x.c3, .int .i64 x.leaves, .slice x.A5 x.sills.length x.c5, .slice x.A6 x.lots.length x.c6, .int .i64 z.b0, .int .i64 z.b1, .int .i64 z.h0, .int .i64 z.h1] 95 (0, 0))) := below_alloc (Below.refl _ _) _
 have hgs_ : w.heap.size ≤ g8 := by rw [hg_]; exact HB.out.size
 generalize hw_ : w6.alloc (.cells #[.int .i64 x.light, .int .i64 x.under, .int .i64 x.trim, .slice x.A3 x.holds.length x.c3, .int .i64 x.leaves, .slice x.A5 x.sills.length x.c5, .slice x.A6 x.lots.length x.c6, .int .i64 z.b0, .int .i64 z.b1, .int .i64 z.h0, .int .i64 z.h1] 95 (0, 0)) = w7 at *
 rw [← hg_] at Ng8 ⊢
 replace BK := Aside0.mk (blk_below BK.out hbw)
 replace HB := Aside0.mk (below_step HB.out hbw)
 have GEg8 : Aside0 (w.heap.size ≤ g8) := ⟨hgs_⟩
 clear hbw hw_ hg_ hgs_
 have hz0_ := (blk_cell Ng8.out 0).trans rfl
 have hz1_ := (blk_cell Ng8.out 1).trans rfl
 have hz2_ := (blk_cell Ng8.out 2).trans rfl
 have hz3_ := (blk_cell Ng8.out 3).trans rfl
 have hz4_ := (blk_cell Ng8.out 4).trans rfl
 have hz5_ := (blk_cell Ng8.out 5).trans rfl
 have hz6_ := (blk_cell Ng8.out 6).trans rfl
 have hz7_ := (blk_cell Ng8.out 7).trans rfl
 have hz8_ := (blk_cell Ng8.out 8).trans rfl
 have hz9_ := (blk_cell Ng8.out 9).trans rfl
 have hz10_ := (blk_cell Ng8.out 10).trans rfl
 have hd_ := below_drew1 (Below.refl w7.heap.size w7)
 replace BK := Aside0.mk (blk_drew BK.out)
 replace HB := Aside0.mk (below_step HB.out hd_)
 clear hd_
 have hsl := sailW_len true x.sills x.leaves (needsW x.under z true)
 have hll := sailW_len false x.sills x.leaves (needsW x.under z false)
 obtain ⟨so, hso⟩ : ∃ l, sailO x.under x.leaves x.sills z true = l := ⟨_, rfl⟩
 obtain ⟨la, hla⟩ : ∃ l, sailO x.under x.leaves x.sills z false = l := ⟨_, rfl⟩
 have HC1 := Aside0.mk (fun W (hb : Below w.heap.size w W) => sail_calls x z true W (HX.out.below hb) HLN.out)
 have HC2 := Aside0.mk (fun W (hb : Below w.heap.size w W) => sail_calls x z false W (HX.out.below hb) HLN.out)
 rw [hso] at HC1
 rw [hla] at HC2
 have HH2 := HH.out
 unfold sailR at HH2
 rw [hso, hla] at HH2
 have hls := HLN.out.s
 have hsl : so.length ≤ x.sills.length := by rw [← hso]; exact hsl
 have hll : la.length ≤ x.sills.length := by rw [← hla]; exact hll
 by_cases hsm : la.length ≤ so.length
 case neg => rw [if_neg hsm] at HH2; cases HH2
 rw [if_pos hsm] at HH2
 simp only [Option.some.injEq, Prod.mk.injEq] at HH2
 obtain ⟨hr1, hr2, hr3⟩ := HH2
 subst hr1; subst hr2; subst hr3
 clear hso hla HH HZ
 refine start_ (n := 6) (S := fun w' => w'.cell? ⟨g8, 0, none⟩ = some (.int .i64 x.light) ∧ w'.cell? ⟨g8, 1, none⟩ = some (.int .i64 x.under) ∧ w'.cell? ⟨g8, 2, none⟩ = some (.int .i64 x.trim) ∧ w'.cell? ⟨g8, 3, none⟩ = some (.slice x.A3 x.holds.length x.c3) ∧ w'.cell? ⟨g8, 4, none⟩ = some (.int .i64 x.leaves) ∧ w'.cell? ⟨g8, 5, none⟩ = some (.slice x.A5 x.sills.length x.c5) ∧ w'.cell? ⟨g8, 6, none⟩ = some (.slice x.A6 x.lots.length x.c6) ∧ w'.cell? ⟨g8, 7, none⟩ = some (.int .i64 z.b0) ∧ w'.cell? ⟨g8, 8, none⟩ = some (.int .i64 z.b1) ∧ w'.cell? ⟨g8, 9, none⟩ = some (.int .i64 z.h0) ∧ w'.cell? ⟨g8, 10, none⟩ = some (.int .i64 z.h1)) (ds := []) #[false, false, false, false, false, false] (by kernel_rfl) rfl rfl ⟨hz0_, hz1_, hz2_, hz3_, hz4_, hz5_, hz6_, hz7_, hz8_, hz9_, hz10_⟩ (fun hHeld => ?_)
 generalize w7.drew = w8 at BK HB hHeld ⊢
 refine take_ (i := 0) (N := some 22) (v := ?_) (a' := ?_) #[true, false, false, false, false, false] rfl rfl (by kernel_rfl) (fun _ _ _ h => h) (Or.inl ⟨by rfl, ?_⟩) hHeld ?_ ?_
 rotate_left; (rintro w' ⟨s0, s1, s2, s3, s4, s5, s6, s7, s8, s9, s10⟩; go_simp; with_reducible rfl); rotate_left; (simp only [Act.put, put_x, i64_w, i32_w]; rfl)
 refine take_ (i := 2) (N := some 24) (v := ?_) (a' := ?_) #[true, false, true, false, false, false] rfl rfl (by kernel_rfl) (fun _ _ _ h => h) (Or.inl ⟨by rfl, ?_⟩) hHeld ?_ ?_
 rotate_left; (rintro w' ⟨s0, s1, s2, s3, s4, s5, s6, s7, s8, s9, s10⟩; go_simp; with_reducible rfl); rotate_left; (simp only [Act.put, put_x, i64_w, i32_w]; rfl)
 refine one_ (i := 1) (N := some 23) #[true, true, true, false, false, false] rfl rfl (by kernel_rfl) (by decide) (fun K hK => ?_)
 refine goes_ Try.func56 (by kernel_rfl) rfl #[.agg #[.int .i64 x.light, .int .i64 x.under, .int .i64 x.trim, .slice x.A3 x.holds.length x.c3, .int .i64 x.leaves, .slice x.A5 x.sills.length x.c5, .slice x.A6 x.lots.length x.c6, .int .i64 z.b0, .int .i64 z.b1, .int .i64 z.h0, .int .i64 z.h1], .bool true] (by rfl) rfl rfl (by (try simp only [List.map_toArray, List.map_cons, List.map_nil]); first | done | rfl) ?_
 with_reducible refine (HC1.out _ HB.out).mono ?_
 rintro e w9 ⟨v_, rfl, hr_, hb1_⟩
 obtain ⟨As, cs, rfl⟩ := Kd.R_slice hr_
 have RS := Aside0.mk (Kd.R_reads' hr_).2.2
 replace BK := Aside0.mk (blk_below BK.out hb1_)
 replace HB := Aside0.mk (below_step HB.out hb1_)
 clear hr_
 refine ⟨_, rfl, ?_⟩
 refine hK.out _ _ ⟨(hb1_.cell (World.block_lt_of_cell? _ _ (hHeld.1))).trans (hHeld.1), (hb1_.cell (World.block_lt_of_cell? _ _ (hHeld.2.1))).trans (hHeld.2.1), (hb1_.cell (World.block_lt_of_cell? _ _ (hHeld.2.2.1))).trans (hHeld.2.2.1), (hb1_.cell (World.block_lt_of_cell? _ _ (hHeld.2.2.2.1))).trans (hHeld.2.2.2.1), (hb1_.cell (World.block_lt_of_cell? _ _ (hHeld.2.2.2.2.1))).trans (hHeld.2.2.2.2.1), (hb1_.cell (World.block_lt_of_cell? _ _ (hHeld.2.2.2.2.2.1))).trans (hHeld.2.2.2.2.2.1), (hb1_.cell (World.block_lt_of_cell? _ _ (hHeld.2.2.2.2.2.2.1))).trans (hHeld.2.2.2.2.2.2.1), (hb1_.cell (World.block_lt_of_cell? _ _ (hHeld.2.2.2.2.2.2.2.1))).trans (hHeld.2.2.2.2.2.2.2.1), (hb1_.cell (World.block_lt_of_cell? _ _ (hHeld.2.2.2.2.2.2.2.2.1))).trans (hHeld.2.2.2.2.2.2.2.2.1), (hb1_.cell (World.block_lt_of_cell? _ _ (hHeld.2.2.2.2.2.2.2.2.2.1))).trans (hHeld.2.2.2.2.2.2.2.2.2.1), (hb1_.cell (World.block_lt_of_cell? _ _ (hHeld.2.2.2.2.2.2.2.2.2.2))).trans (hHeld.2.2.2.2.2.2.2.2.2.2)⟩ (fun hHeld => ?_)
 clear hK K
 refine norm_ (a' := ?_) ?_ ?_; rotate_left; (show Act.put _ (some 23) _ = _; simp only [Act.put, put_x, i64_w, i32_w]; rfl)
 refine one_ (i := 3) (N := some 25) #[true, true, true, true, false, false] rfl rfl (by kernel_rfl) (by decide) (fun K hK => ?_)
 refine goes_ Try.func56 (by kernel_rfl) rfl #[.agg #[.int .i64 x.light, .int .i64 x.under, .int .i64 x.trim, .slice x.A3 x.holds.length x.c3, .int .i64 x.leaves, .slice x.A5 x.sills.length x.c5, .slice x.A6 x.lots.length x.c6, .int .i64 z.b0, .int .i64 z.b1, .int .i64 z.h0, .int .i64 z.h1], .bool false] (by rfl) rfl rfl (by (try simp only [List.map_toArray, List.map_cons, List.map_nil]); first | done | rfl) ?_
 with_reducible refine (HC2.out _ HB.out).mono ?_
 rintro e w10 ⟨v_, rfl, hr_, hb3_⟩
 obtain ⟨Al, cl, rfl⟩ := Kd.R_slice hr_
 have RL := Aside0.mk (Kd.R_reads' hr_).2.2
 replace BK := Aside0.mk (blk_below BK.out hb3_)
 replace HB := Aside0.mk (below_step HB.out hb3_)
 replace RS := Aside0.mk (Kd.C_below RS.out hb3_)
 clear hr_
 refine ⟨_, rfl, ?_⟩
 refine hK.out _ _ ⟨(hb3_.cell (World.block_lt_of_cell? _ _ (hHeld.1))).trans (hHeld.1), (hb3_.cell (World.block_lt_of_cell? _ _ (hHeld.2.1))).trans (hHeld.2.1), (hb3_.cell (World.block_lt_of_cell? _ _ (hHeld.2.2.1))).trans (hHeld.2.2.1), (hb3_.cell (World.block_lt_of_cell? _ _ (hHeld.2.2.2.1))).trans (hHeld.2.2.2.1), (hb3_.cell (World.block_lt_of_cell? _ _ (hHeld.2.2.2.2.1))).trans (hHeld.2.2.2.2.1), (hb3_.cell (World.block_lt_of_cell? _ _ (hHeld.2.2.2.2.2.1))).trans (hHeld.2.2.2.2.2.1), (hb3_.cell (World.block_lt_of_cell? _ _ (hHeld.2.2.2.2.2.2.1))).trans (hHeld.2.2.2.2.2.2.1), (hb3_.cell (World.block_lt_of_cell? _ _ (hHeld.2.2.2.2.2.2.2.1))).trans (hHeld.2.2.2.2.2.2.2.1), (hb3_.cell (World.block_lt_of_cell? _ _ (hHeld.2.2.2.2.2.2.2.2.1))).trans (hHeld.2.2.2.2.2.2.2.2.1), (hb3_.cell (World.block_lt_of_cell? _ _ (hHeld.2.2.2.2.2.2.2.2.2.1))).trans (hHeld.2.2.2.2.2.2.2.2.2.1), (hb3_.cell (World.block_lt_of_cell? _ _ (hHeld.2.2.2.2.2.2.2.2.2.2))).trans (hHeld.2.2.2.2.2.2.2.2.2.2)⟩ (fun hHeld => ?_)
 clear hK K
 refine norm_ (a' := ?_) ?_ ?_; rotate_left; (show Act.put _ (some 25) _ = _; simp only [Act.put, put_x, i64_w, i32_w]; rfl)
 refine pure_y 4 (some 9) #[true, true, true, true, true, false] ?_
 refine pure_y 5 (some 10) #[true, true, true, true, true, true] ?_
 refine done_ (by kernel_rfl) ?_
 clear hHeld hb1_ hb3_ HC1 HC2 Ng8 hz0_ hz1_ hz2_ hz3_ hz4_ hz5_ hz6_ hz7_ hz8_ hz9_ hz10_
 go_wp2
 have hov : (overE so la).length = la.length := by simp [overE]
 go_loopg [28, 5] la.length (fun gk v28 v5 wr => ∃ k : Nat, k ≤ la.length ∧ la.length - k ≤ gk ∧ v28 = .int .i64 k ∧ Aside0 (Kd.R k56 56 wr w10.heap.size (fun _ => True) v5 ((overE so la).take k)) ∧ Aside0 (wr.heap[gb]? = some (.cells #[.int .i64 x.light, .int .i64 x.under, .int .i64 x.trim, .slice x.A3 x.holds.length x.c3, .int .i64 x.leaves, .slice x.A5 x.sills.length x.c5, .slice x.A6 x.lots.length x.c6] 26 (0, 0))) ∧ Aside0 (Below w10.heap.size w10 wr))
 case atStart => exact ⟨0, by omega, by omega, rfl, ⟨Kd.R_nil _ _ _ _ _⟩, BK, ⟨Below.refl _ _⟩⟩
 case round =>
  clear BK
  obtain ⟨k, hk, hgk, rfl, HO, BK, HBr⟩ := hrel
  by_cases hlt : k < la.length
  ·
   have hlz : (k : Int) < (la.length : Int) := by omega
   have hlz2 : (k : Int) < (so.length : Int) := by omega
   obtain ⟨ada, e, h0⟩ := Kd.at_int RL.out (k : Int) (by omega) hlz
   cases e
   obtain ⟨ads, e, h1⟩ := Kd.at_int RS.out (k : Int) (by omega) hlz2
   cases e
   rw [Int.toNat_natCast] at h0 h1
   replace h0 := (HBr.out.cell (World.block_lt_of_cell? w10 _ h0)).trans h0
   replace h1 := (HBr.out.cell (World.block_lt_of_cell? w10 _ h1)).trans h1
   have HTK := Aside0.mk (overE_take so la k hlt)
   have htl : ((overE so la).take k).length = k := by rw [List.length_take, hov]; omega
   generalize (overE so la).take k = xs at *
   generalize rd la (k : Int) = b at *
   generalize rd so (k : Int) = a at *
   go_wp2_with (first | ((with_reducible refine gate_builtin (b := .append) (xs := #[.tmp 33, .tmp 40]) rfl ?_); (try (refine gate_guard (by rfl) ?_; dsimp only)); at_builtin; refine Kd.R_append k56 w10.heap.size rfl (.tmp 33) (.tmp 40) 39 56 (.agg #[(.int .i64 0), (.int .i64 0)]) 16 rfl Try.underlying39 info56 rfl (by decide) (by omega) _ xs ⟨a, b⟩ [.int .i64 a, .int .i64 b] (fun _ => True) (fun _ => False) rfl rfl ?aP (fun _ hk => hk.elim) ?aF ?aO HBr.out ?aS ?aL ?_; (case aP => exact k56_mkM _ _ _ ⟨a, b⟩); (case aF => exact (fun _ _ => trivial)); (case aO => exact HO.out); (case aS => exact HBr.out.size); (case aL => omega); intro v9 w11 ho hb hg hat; have HO2 := Aside0.mk ho; have HBr2 := Aside0.mk hb; have BK2 := Aside0.mk (blk_grown BK.out hg (Kd.R_ne HO.out BK.out (by decide))); clear ho hb hg hat))
   go_roundg (la.length - (k + 1))
   case measure => omega
   case rel => exact ⟨k + 1, by omega, by omega, by go_num, ⟨by rw [HTK.out]; exact HO2.out⟩, BK2, HBr2⟩
  ·
   have : k = la.length := by omega
   subst this
   have HOe := HO.out
   rw [← hov, List.take_length] at HOe
   have HOF := Aside0.mk (Kd.R_lower HOe HB.out.size)
   have HBF := Aside0.mk (below_step HB.out HBr.out)
   have hz5_ := (blk_cell BK.out 5).trans rfl
   clear HOe HO HBr
   by_cases hv1 : la.length = x.sills.length
   ·
    have hv : verdictE x.sills.length so la = 1 := if_pos hv1
    have HV := Aside0.mk hv
    have hb1 : ((la.length : Int) == (x.sills.length : Int)) = true := beq_iff_eq.2 (by omega)
    clear hv
    go_wp2
    go_ret3
    refine ⟨_, ?_, HOF.out, HBF.out⟩
    rw [HV.out]; rfl
   ·
    have hb1 : ((la.length : Int) == (x.sills.length : Int)) = false := beq_eq_false_iff_ne.2 (by omega)
    by_cases hv2 : so.length < x.sills.length
    ·
     have hv : verdictE x.sills.length so la = 2 := (if_neg hv1).trans (if_pos hv2)
     have HV := Aside0.mk hv
     have hb2 : decide ((so.length : Int) < (x.sills.length : Int)) = true := decide_eq_true (by omega)
     clear hv
     go_wp2
     go_ret3
     refine ⟨_, ?_, HOF.out, HBF.out⟩
     rw [HV.out]; rfl
    ·
     have hv : verdictE x.sills.length so la = 3 := (if_neg hv1).trans (if_neg hv2)
     have HV := Aside0.mk hv
     have hb2 : decide ((so.length : Int) < (x.sills.length : Int)) = false := decide_eq_false (by omega)
     clear hv
     go_wp2
     go_ret3
     refine ⟨_, ?_, HOF.out, HBF.out⟩
     rw [HV.out]; rfl
theorem ship_Sail.calls (a0_0 : Int) (a0_1 : Int) (a0_2 : Int) (A0_3 : Option Addr) (c0_3 : Nat) (l0_3 : List (S85)) (a0_4 : Int) (A0_5 : Option Addr) (c0_5 : Nat) (l0_5 : List (S59)) (A0_6 : Option Addr) (c0_6 : Nat) (l0_6 : List (S79)) (A1 : Option Addr) (c1 : Nat) (l1 : List Int) (r1 : Int) (r2 : List (S56)) (r3 : Int) (w : World) (hr0_3 : Kd.C k85 w A0_3 l0_3.length l0_3) (hc0_3 : l0_3.length ≤ c0_3) (hr0_5 : Kd.C k59 w A0_5 l0_5.length l0_5) (hc0_5 : l0_5.length ≤ c0_5) (hr0_6 : Kd.C k79 w A0_6 l0_6.length l0_6) (hc0_6 : l0_6.length ≤ c0_6) (hr1 : Kd.C (Kd.int .i64) w A1 l1.length l1) (hc1 : l1.length ≤ c1) (h : ship_Sail.f a0_0 a0_1 a0_2 l0_3 a0_4 l0_5 l0_6 l1 = some (r1, r2, r3)) :
  Calls Try.prog 22 #[.agg #[.int .i64 a0_0, .int .i64 a0_1, .int .i64 a0_2, .slice A0_3 l0_3.length c0_3, .int .i64 a0_4, .slice A0_5 l0_5.length c0_5, .slice A0_6 l0_6.length c0_6], .slice A1 l1.length c1] w fun e w' => ∃ v1_ : Value, e = .returned (.tuple #[.int .i64 r1, v1_, .int .i64 r3]) ∧ Kd.R k56 56 w' w.heap.size (fun _ => True) v1_ r2 ∧ Below w.heap.size w w' := sailing_calls ⟨a0_0, a0_1, a0_2, A0_3, c0_3, l0_3, a0_4, A0_5, c0_5, l0_5, A0_6, c0_6, l0_6⟩ A1 c1 l1 r1 r2 r3 w ⟨hr0_3, hc0_3, hr0_5, hc0_5, hr0_6, hc0_6⟩ hr1 hc1 h
end Go.Proofs.Ytodmemndaaiolaa.PC7
namespace Go.Proofs.Ytodmemndaaiolaa.PC7
set_option linter.unusedVariables false
set_option linter.unusedSimpArgs false
def dep : List (Int × Int) → Int → Int
  | [], _ => 0
  | [(_, d)], _ => d
  | (_, d) :: (f2, d2) :: r, t => if f2 ≤ t then dep ((f2, d2) :: r) t else d
def pass : List (Int × Int) → Int → Int → Option Int
  | [], _, _ => none
  | [(f, d)], now, needs => if max now f ≤ 2880 ∧ needs ≤ 1000 * d then some (max now f) else none
  | (f, d) :: (f2, d2) :: r, now, needs => if f2 ≤ now then pass ((f2, d2) :: r) now needs else if max now f ≤ 2880 ∧ needs ≤ 1000 * d then some (max now f) else pass ((f2, d2) :: r) (max now f) needs
def rises : List (Int × Int) → Prop
  | [] => True
  | [_] => True
  | (f, _) :: (f2, d2) :: r => f < f2 ∧ rises ((f2, d2) :: r)
def First (l : List (Int × Int)) (needs a : Int) : Option Int → Prop
  | some t => a ≤ t ∧ t ≤ 2880 ∧ needs ≤ 1000 * dep l t ∧ ∀ u, a ≤ u → u < t → ¬ needs ≤ 1000 * dep l u
  | none => ∀ u, a ≤ u → u ≤ 2880 → ¬ needs ≤ 1000 * dep l u
def from0 : List (Int × Int) → Int
  | [] => 0
  | (f, _) :: _ => f
theorem pass_first (l : List (Int × Int)) : ∀ (now needs : Int), l ≠ [] → rises l → First l needs (max now (from0 l)) (pass l now needs) := by
  induction l with
  | nil => intro now needs h; exact absurd rfl h
  | cons p l ih =>
    intro now needs _ hr
    obtain ⟨f, d⟩ := p
    cases l with
    | nil =>
      simp only [pass, from0]
      by_cases h : max now f ≤ 2880 ∧ needs ≤ 1000 * d
      · rw [if_pos h]
        refine ⟨Int.le_refl _, h.1, h.2, fun u h1 h2 => by omega⟩
      · rw [if_neg h]
        intro u h1 h2 h3
        exact h ⟨by omega, h3⟩
    | cons p2 l =>
      obtain ⟨f2, d2⟩ := p2
      obtain ⟨hlt, hr2⟩ := hr
      simp only [pass, from0]
      by_cases h1 : f2 ≤ now
      · rw [if_pos h1]
        have hi := ih now needs (by simp) hr2
        simp only [from0] at hi
        have e1 : max now f = now := by omega
        have e2 : max now f2 = now := by omega
        rw [e1]
        rw [e2] at hi
        have hd : ∀ u, now ≤ u → dep ((f, d) :: (f2, d2) :: l) u = dep ((f2, d2) :: l) u := fun u hu => by simp only [dep]; rw [if_pos (by omega)]
        cases hp : pass ((f2, d2) :: l) now needs with
        | none =>
          rw [hp] at hi
          intro u a b
          rw [hd u a]
          exact hi u a b
        | some t =>
          rw [hp] at hi
          obtain ⟨a, b, c, e⟩ := hi
          refine ⟨a, b, by rw [hd t a]; exact c, fun u x y => by rw [hd u x]; exact e u x y⟩
      · rw [if_neg h1]
        have hlow : ∀ u, u < f2 → dep ((f, d) :: (f2, d2) :: l) u = d := fun u hu => by simp only [dep]; rw [if_neg (by omega)]
        have hup : ∀ u, f2 ≤ u → dep ((f, d) :: (f2, d2) :: l) u = dep ((f2, d2) :: l) u := fun u hu => by simp only [dep]; rw [if_pos hu]
        by_cases h : max now f ≤ 2880 ∧ needs ≤ 1000 * d
        · rw [if_pos h]
          exact ⟨Int.le_refl _, h.1, by rw [hlow _ (by omega)]; exact h.2, fun u a b => by omega⟩
        · rw [if_neg h]
          have hi := ih (max now f) needs (by simp) hr2
          simp only [from0] at hi
          have e2 : max (max now f) f2 = f2 := by omega
          rw [e2] at hi
          have hno : ∀ u, max now f ≤ u → u < f2 → u ≤ 2880 → ¬ needs ≤ 1000 * dep ((f, d) :: (f2, d2) :: l) u := fun u a b c e => by
            rw [hlow u b] at e
            exact h ⟨by omega, e⟩
          cases hp : pass ((f2, d2) :: l) (max now f) needs with
          | none =>
            rw [hp] at hi
            intro u a b
            by_cases hu : u < f2
            · exact hno u a hu b
            · rw [hup u (by omega)]; exact hi u (by omega) b
          | some t =>
            rw [hp] at hi
            obtain ⟨a, b, c, e⟩ := hi
            refine ⟨by omega, b, by rw [hup t a]; exact c, fun u x y => ?_⟩
            by_cases hu : u < f2
            · exact hno u x hu (by omega)
            · rw [hup u (by omega)]; exact e u (by omega) y
theorem first_le {l l2 : List (Int × Int)} {needs needs2 a a2 : Int} {x y : Option Int} (h : First l needs a x) (h2 : First l2 needs2 a2 y) (ha : a2 ≤ a) (hn : needs2 ≤ needs) (hd : ∀ t, dep l t ≤ dep l2 t) :
    ∀ t, x = some t → ∃ t2, y = some t2 ∧ t2 ≤ t := by
  rintro t rfl
  obtain ⟨h1, h3, h4, _⟩ := h
  have hg : needs2 ≤ 1000 * dep l2 t := by have := hd t; omega
  cases y with
  | none => exact absurd hg (h2 t (by omega) h3)
  | some t2 =>
    refine ⟨t2, rfl, ?_⟩
    obtain ⟨_, _, _, h5⟩ := h2
    by_cases hlt : t < t2
    · exact absurd hg (h5 t (by omega) hlt)
    · omega
def sailL : List (Int × List (Int × Int)) → Int → Int → List Int
  | [], _, _ => []
  | (w, l) :: r, now, needs => match pass l (now + w) needs with
    | some t => t :: sailL r t needs
    | none => []
structure SillOK (s : Int × List (Int × Int)) : Prop where
  ne : s.2 ≠ []
  ri : rises s.2
  zero : from0 s.2 = 0
  way : 0 ≤ s.1
def Better : List (Int × List (Int × Int)) → List (Int × List (Int × Int)) → Prop
  | [], [] => True
  | (w, l) :: r, (w2, l2) :: r2 => (w2 ≤ w ∧ ∀ t, dep l t ≤ dep l2 t) ∧ Better r r2
  | _, _ => False
theorem sailL_le (ss : List (Int × List (Int × Int))) : ∀ (ss2 : List (Int × List (Int × Int))) (now now2 needs needs2 : Int), Better ss ss2 → (∀ s, s ∈ ss → SillOK s) → (∀ s, s ∈ ss2 → SillOK s) → 0 ≤ now2 → now2 ≤ now → needs2 ≤ needs →
    (sailL ss now needs).length ≤ (sailL ss2 now2 needs2).length ∧ ∀ i, i < (sailL ss now needs).length → (sailL ss2 now2 needs2).getD i 0 ≤ (sailL ss now needs).getD i 0 := by
  induction ss with
  | nil => intro ss2 now now2 needs needs2 _ _ _ _ _ _; exact ⟨Nat.zero_le _, fun i hi => by simp [sailL] at hi⟩
  | cons s ss ih =>
    intro ss2 now now2 needs needs2 hb h1 h2 h0 hn hne
    cases ss2 with
    | nil => exact hb.elim
    | cons s2 ss2 =>
      obtain ⟨w, l⟩ := s
      obtain ⟨w2, l2⟩ := s2
      obtain ⟨⟨hw, hd⟩, hb⟩ := hb
      have k1 := h1 _ (List.mem_cons_self ..)
      have k2 := h2 _ (List.mem_cons_self ..)
      have f1 := pass_first l (now + w) needs k1.ne k1.ri
      have f2 := pass_first l2 (now2 + w2) needs2 k2.ne k2.ri
      rw [show from0 l = 0 from k1.zero] at f1
      rw [show from0 l2 = 0 from k2.zero] at f2
      simp only [sailL]
      cases hp : pass l (now + w) needs with
      | none => exact ⟨Nat.zero_le _, fun i hi => by simp at hi⟩
      | some t =>
        have hw2 : 0 ≤ w2 := k2.way
        rw [hp] at f1
        obtain ⟨t2, e, hle⟩ := first_le f1 f2 (by omega) hne hd t rfl
        rw [e]
        rw [e] at f2
        have ht2 : 0 ≤ t2 := by have := f2.1; omega
        obtain ⟨a, b⟩ := ih ss2 t t2 needs needs2 hb (fun s hs => h1 s (List.mem_cons_of_mem _ hs)) (fun s hs => h2 s (List.mem_cons_of_mem _ hs)) ht2 hle hne
        refine ⟨by simpa using a, fun i hi => ?_⟩
        cases i with
        | zero => simpa using hle
        | succ i => simpa using b i (by simpa using hi)
end Go.Proofs.Ytodmemndaaiolaa.PC7
namespace Go.Proofs.Ytodmemndaaiolaa.PC7
set_option linter.unusedVariables false
set_option linter.unusedSimpArgs false
open Go.RowKit Go.Proofs.YtodmemndaaiolaaW.PrintWords Go.Proofs.YtodmemndaaiolaaW.PrintLast Go.Proofs.YtodmemndaaiolaaW.PrintMore
theorem mx_max (a b : Int) : mx a b = max a b := by
  unfold mx
  by_cases h : a < b
  · rw [if_pos h]; omega
  · rw [if_neg h]; omega
def plainS (soon : Bool) (s : S59) : Int × List (Int × Int) := (travelOf soon s, s.f1.map fun l => (l.f0, waterOf soon l))
theorem water_wrap {l : S62} (soon : Bool) (h1 : 0 ≤ l.f1.f0) (h2 : l.f1.f0 ≤ l.f1.f1) (h3 : l.f1.f1 ≤ 10000) : wrap64 (1000 * waterOf soon l) = 1000 * waterOf soon l := by
  unfold waterOf
  cases soon <;> simp only [if_true, Bool.false_eq_true, if_false] <;> exact wrap64_id (by omega) (by omega)
theorem passW_eq (soon : Bool) (needs : Int) : ∀ (l : List S62), (∀ x, x ∈ l → 0 ≤ x.f1.f0 ∧ x.f1.f0 ≤ x.f1.f1 ∧ x.f1.f1 ≤ 10000) → ∀ now, passW soon l now needs = pass (l.map fun l => (l.f0, waterOf soon l)) now needs
  | [], _, now => rfl
  | [a], h, now => by
    obtain ⟨h1, h2, h3⟩ := h a (by simp)
    simp only [passW, List.map_cons, List.map_nil, pass, water_wrap soon h1 h2 h3, mx_max]
  | a :: b :: r, h, now => by
    obtain ⟨h1, h2, h3⟩ := h a (by simp)
    have ih := passW_eq soon needs (b :: r) (fun x hx => h x (List.mem_cons_of_mem _ hx))
    simp only [List.map_cons] at ih
    simp only [passW, List.map_cons, pass, water_wrap soon h1 h2 h3, mx_max, ih]
theorem levs_mem {T fr : Int} {l : List S62} (h : LevsOK T fr l) (hT : T ≤ 1000) : ∀ x, x ∈ l → 0 ≤ x.f1.f0 ∧ x.f1.f0 ≤ x.f1.f1 ∧ x.f1.f1 ≤ 10000 := by
  intro x hx
  obtain ⟨i, hi, rfl⟩ := List.getElem_of_mem hx
  have := h.bd i hi
  rw [getD_get _ _ _ hi] at this
  exact ⟨this.2.2.1, this.2.2.2.1, by omega⟩
theorem pass_le : ∀ (l : List (Int × Int)) (now needs t : Int), pass l now needs = some t → t ≤ 2880
  | [], _, _, _, h => by simp [pass] at h
  | [(f, d)], now, needs, t, h => by
    simp only [pass] at h
    by_cases hc : max now f ≤ 2880 ∧ needs ≤ 1000 * d
    · rw [if_pos hc] at h; injection h with h; omega
    · rw [if_neg hc] at h; cases h
  | (f, d) :: (f2, d2) :: r, now, needs, t, h => by
    simp only [pass] at h
    by_cases h1 : f2 ≤ now
    · rw [if_pos h1] at h; exact pass_le _ _ _ _ h
    · rw [if_neg h1] at h
      by_cases hc : max now f ≤ 2880 ∧ needs ≤ 1000 * d
      · rw [if_pos hc] at h; injection h with h; omega
      · rw [if_neg hc] at h; exact pass_le _ _ _ _ h
theorem pass_ge : ∀ (l : List (Int × Int)) (now needs t : Int), pass l now needs = some t → now ≤ t
  | [], _, _, _, h => by simp [pass] at h
  | [(f, d)], now, needs, t, h => by
    simp only [pass] at h
    by_cases hc : max now f ≤ 2880 ∧ needs ≤ 1000 * d
    · rw [if_pos hc] at h; injection h with h; omega
    · rw [if_neg hc] at h; cases h
  | (f, d) :: (f2, d2) :: r, now, needs, t, h => by
    simp only [pass] at h
    by_cases h1 : f2 ≤ now
    · rw [if_pos h1] at h; exact pass_ge _ _ _ _ h
    · rw [if_neg h1] at h
      by_cases hc : max now f ≤ 2880 ∧ needs ≤ 1000 * d
      · rw [if_pos hc] at h; injection h with h; omega
      · rw [if_neg hc] at h; have := pass_ge _ _ _ _ h; omega
theorem sailW_eq {T : Int} (hT : T ≤ 1000) (soon : Bool) (needs : Int) : ∀ (ss : List S59), (∀ s, s ∈ ss → SillV T s) → ∀ now, 0 ≤ now → now ≤ 2880 → sailW soon ss now needs = sailL (ss.map (plainS soon)) now needs
  | [], _, _, _, _ => rfl
  | s :: ss, h, now, h0, h1 => by
    obtain ⟨a1, a2, a3, a4, a5, fr, hl⟩ := h s (by simp)
    have hw : wrap64 (now + travelOf soon s) = now + travelOf soon s := by
      unfold travelOf
      cases soon <;> simp only [if_true, Bool.false_eq_true, if_false] <;> exact wrap64_id (by omega) (by omega)
    have htr : 0 ≤ travelOf soon s := by unfold travelOf; cases soon <;> simp <;> omega
    simp only [sailW, List.map_cons, plainS, sailL, hw, passW_eq soon needs s.f1 (levs_mem hl hT)]
    cases hp : pass (s.f1.map fun l => (l.f0, waterOf soon l)) (now + travelOf soon s) needs with
    | none => rfl
    | some t =>
      have t1 := pass_le _ _ _ _ hp
      have t2 := pass_ge _ _ _ _ hp
      simp only
      rw [sailW_eq hT soon needs ss (fun x hx => h x (List.mem_cons_of_mem _ hx)) t (by omega) t1]
theorem rises_of {T fr : Int} (soon : Bool) : ∀ (l : List S62), (∀ i, i + 1 < l.length → (l.getD i z62).f0 < (l.getD (i + 1) z62).f0) → rises (l.map fun l => (l.f0, waterOf soon l))
  | [], _ => trivial
  | [_], _ => trivial
  | a :: b :: r, h => by
    refine ⟨by simpa using h 0 (by simp), ?_⟩
    have := rises_of (T := T) (fr := fr) soon (b :: r) (fun i hi => by simpa using h (i + 1) (by simpa using hi))
    simpa using this
theorem sillOK_of {T : Int} {s : S59} (h : SillV T s) (soon : Bool) : SillOK (plainS soon s) := by
  obtain ⟨a1, a2, a3, a4, a5, fr, hl⟩ := h
  refine ⟨?_, rises_of (T := T) (fr := fr) soon s.f1 hl.up, ?_, ?_⟩
  · intro e
    have : s.f1 = [] := by simpa [plainS] using e
    rw [this] at a4; simp at a4
  · have hz := hl.zero (by omega)
    cases hs : s.f1 with
    | nil => rw [hs] at a4; simp at a4
    | cons b r => rw [hs] at hz; simpa [plainS, hs, from0] using hz
  · show 0 ≤ travelOf soon s
    unfold travelOf; cases soon <;> simp <;> omega
theorem sillsOK_of {T : Int} {ss : List S59} (h : ∀ s, s ∈ ss → SillV T s) (soon : Bool) : ∀ p, p ∈ ss.map (plainS soon) → SillOK p := by
  intro p hp
  obtain ⟨s, hs, rfl⟩ := List.mem_map.1 hp
  exact sillOK_of (h s hs) soon
theorem dep_le {f : S62 → Int} {g : S62 → Int} (t : Int) : ∀ (l : List S62), (∀ x, x ∈ l → f x ≤ g x) → dep (l.map fun l => (l.f0, f l)) t ≤ dep (l.map fun l => (l.f0, g l)) t
  | [], _ => Int.le_refl _
  | [a], h => h a (by simp)
  | a :: b :: r, h => by
    have ih := dep_le t (b :: r) (fun x hx => h x (List.mem_cons_of_mem _ hx))
    simp only [List.map_cons] at ih
    simp only [List.map_cons, dep]
    by_cases hc : b.f0 ≤ t
    · rw [if_pos hc, if_pos hc]; exact ih
    · rw [if_neg hc, if_neg hc]; exact h a (by simp)
theorem better_soon {T : Int} : ∀ (ss : List S59), (∀ s, s ∈ ss → SillV T s) → Better (ss.map (plainS false)) (ss.map (plainS true))
  | [], _ => trivial
  | s :: r, h => by
    obtain ⟨a1, a2, a3, a4, a5, fr, hl⟩ := h s (by simp)
    refine ⟨⟨by simpa [travelOf] using a2, fun t => dep_le t s.f1 fun x hx => ?_⟩, better_soon r (fun x hx => h x (List.mem_cons_of_mem _ hx))⟩
    obtain ⟨i, hi, rfl⟩ := List.getElem_of_mem hx
    have := hl.bd i hi
    rw [getD_get _ _ _ hi] at this
    simpa [waterOf] using this.2.2.2.1
structure QOK (B : Int) (q : Q4) : Prop where
  b0 : 0 ≤ q.b0 ∧ q.b0 ≤ q.h0
  b1 : 0 ≤ q.b1 ∧ q.b1 ≤ q.h1
  h0 : q.h0 ≤ B
  h1 : q.h1 ≤ B
def QLe (p q : Q4) : Prop := p.b0 ≤ q.b0 ∧ p.b1 ≤ q.b1 ∧ p.h0 ≤ q.h0 ∧ p.h1 ≤ q.h1
theorem mul_bd {a b A B : Int} (h0 : 0 ≤ a) (h1 : a ≤ A) (h2 : 0 ≤ b) (h3 : b ≤ B) : 0 ≤ a * b ∧ a * b ≤ A * B :=
  ⟨Int.mul_nonneg h0 h2, Int.mul_le_mul h1 h3 h2 (by omega)⟩
theorem ladS_ok {T B : Int} {h : S85} {c : S79} {q : Q4} (hT : T ≤ 1000) (hh : HoldV T h) (hc : LotV T c) (hB : 0 ≤ B ∧ B ≤ 1000000000000) (hq : QOK B q) : QOK (B + 1500000) (ladS h c.f0 q) ∧ QLe q (ladS h c.f0 q) ∧ ∀ p, QLe p q → QLe p (ladS h c.f0 q) := by
  obtain ⟨a1, a2, a3, a4, a5, a6⟩ := hh
  obtain ⟨c1, c2, c3, c4, c5⟩ := hc
  obtain ⟨⟨q1, q2⟩, ⟨q3, q4⟩, q5, q6⟩ := hq
  have m1 := mul_bd (A := 1000) (B := 1500) c1 (by omega) a3 (by omega)
  have m2 := mul_bd (A := 1000) (B := 1500) c1 (by omega) a5 (by omega)
  have m3 := mul_bd (A := 1000) (B := 1500) (show 0 ≤ c.f0.f1 by omega) (by omega) a3 (by omega)
  have m4 := mul_bd (A := 1000) (B := 1500) (show 0 ≤ c.f0.f1 by omega) (by omega) a5 (by omega)
  have m5 := Int.mul_le_mul_of_nonneg_right c2 a3
  have m6 := Int.mul_le_mul_of_nonneg_right c2 a5
  have e : ladS h c.f0 q = ⟨q.b0 + c.f0.f0 * h.f1, q.b1 + c.f0.f0 * h.f2, q.h0 + c.f0.f1 * h.f1, q.h1 + c.f0.f1 * h.f2⟩ := by
    unfold ladS
    rw [wrap64_id (n := c.f0.f0 * h.f1) (by omega) (by omega), wrap64_id (n := c.f0.f0 * h.f2) (by omega) (by omega), wrap64_id (n := c.f0.f1 * h.f1) (by omega) (by omega), wrap64_id (n := c.f0.f1 * h.f2) (by omega) (by omega),
      wrap64_id (by omega) (by omega), wrap64_id (by omega) (by omega), wrap64_id (by omega) (by omega), wrap64_id (by omega) (by omega)]
  rw [e]
  refine ⟨⟨⟨?_, ?_⟩, ⟨?_, ?_⟩, ?_, ?_⟩, ⟨?_, ?_, ?_, ?_⟩, fun p ⟨p1, p2, p3, p4⟩ => ⟨?_, ?_, ?_, ?_⟩⟩ <;> simp only <;> omega
def Lighter : List Int → List Int → Prop
  | [], [] => True
  | a :: s, b :: t => (b = a ∨ b = -1) ∧ Lighter s t
  | _, _ => False
theorem needsW_eq {q : Q4} (hq : QOK 10000000000 q) {under : Int} (hu : 0 ≤ under ∧ under ≤ 5000) (soon : Bool) : needsW under q soon = max (if soon then q.b0 else q.h0) (if soon then q.b1 else q.h1) + 1000 * under := by
  obtain ⟨⟨q1, q2⟩, ⟨q3, q4⟩, q5, q6⟩ := hq
  unfold needsW
  rw [mx_max, wrap64_id (n := 1000 * under) (by omega) (by omega)]
  cases soon <;> simp only [if_true, Bool.false_eq_true, if_false] <;> exact wrap64_id (by omega) (by omega)
end Go.Proofs.Ytodmemndaaiolaa.PC7
namespace Go.Proofs.Ytodmemndaaiolaa.PC7
open Go.RowKit Go.Proofs.YtodmemndaaiolaaW.PrintWords Go.Proofs.YtodmemndaaiolaaW.PrintLast Go.Proofs.YtodmemndaaiolaaW.PrintMore
attribute [local go_sem] max2_int min2_int max_two min_two max_three min_three max_four min_four
set_option linter.unusedVariables false
set_option linter.unusedSimpArgs false
end Go.Proofs.Ytodmemndaaiolaa.PC7
namespace Go.Proofs.Ytodmemndaaiolaa.PC7
set_option linter.unusedVariables false
set_option linter.unusedSimpArgs false
open Go.RowKit Go.Proofs.YtodmemndaaiolaaW.PrintWords Go.Proofs.YtodmemndaaiolaaW.PrintLast Go.Proofs.YtodmemndaaiolaaW.PrintMore
theorem sailO_eq {H S L' : Nat} {T L U R V : Int} {holds : List S85} {sills : List S59} {lots : List S79} (h : VoyOK H S L' T L U R holds V sills lots) (hT : T ≤ 1000) (q : Q4) (soon : Bool) : sailO U V sills q soon = sailL (sills.map (plainS soon)) V (needsW U q soon) :=
  sailW_eq hT soon _ sills h.si V h.leaves.1 (by have := h.leaves; omega)
theorem rd56 (l : List S56) (k : Nat) : rd_T56 l (k : Int) = l.getD k z56 := by simp [rd_T56]
theorem over_getD (so la : List Int) (i : Nat) (h : i < la.length) : (overE so la).getD i z56 = ⟨so.getD i 0, la.getD i 0⟩ := by
  have hl : i < (overE so la).length := by simp [overE]; exact h
  rw [getD_get _ _ _ hl]
  simp [overE]
theorem over_len (so la : List Int) : (overE so la).length = la.length := by simp [overE]
end Go.Proofs.Ytodmemndaaiolaa.PC7
namespace Go.Proofs.Ytodmemndaaiolaa.PC7
set_option linter.unusedVariables false
open Go.RowKit Go.Shelf Go.Proofs.YtodmemndaaiolaaW.PrintWords Go.Proofs.YtodmemndaaiolaaW.PrintLast Go.Proofs.YtodmemndaaiolaaW.PrintMore
def GivesR {α : Type} (n g : Nat) (lb : Array Value) (encs : α → Array Value) (Rx : Nat → α → World → Prop) (Kp : World → World → Prop) (S : List α → Prop) (w : World) : Prop :=
  ∀ (l : Nat) (J : Nat → List α → World → Prop) (W : World), Below w.heap.size w W → (∀ b, AbidesFrom W.heap.size (J b)) → (∀ b pre A i v, W.heap.size ≤ b → J b pre A → A.cell? ⟨b, i, none⟩ ≠ none → J b pre (A.setCell ⟨b, i, none⟩ v)) →
    (∀ b pre x W1, W.heap.size ≤ b → J b pre W1 → Rx b x W1 → YieldAt Fence.wide (n - 1) Try.prog l (encs x) W1 fun e W' => e = .returned (.bool true) ∧ J b (pre ++ [x]) W' ∧ Kp W1 W') →
    (∀ b, W.heap.size ≤ b → J b [] W) → CallsIn Fence.wide n Try.prog g (#[.func (.yield l) #[] #[]] ++ lb) W fun e W' => (∃ v, e = .returned v) ∧ ∃ b xs, W.heap.size ≤ b ∧ S xs ∧ J b xs W'
def roundOwes {α : Type} (Kp : World → World → Prop) (I : List α → World → Prop) (xs : List α) (W : World) : Exit → Act → World → Prop
  | .normal, _, W' => KeepsOthers W W' ∧ Kp W W' ∧ I xs W'
  | _, _, _ => False
theorem loop_far {W : World} {l b i : Nat} {r : Loop} {v : Value} (h : W.heap[l]? = some (.loop r)) (hc : W.cell? ⟨b, i, none⟩ ≠ none) : (W.setCell ⟨b, i, none⟩ v).heap[l]? = some (.loop r) := by
  have hne : l ≠ b := fun e => by subst e; simp [World.cell?, h] at hc
  rw [Below.heap_setCell _ _ _ _ hne]; exact h
theorem defer_far {W : World} {l b i : Nat} {v : Value} {d : Option (List Deferred)} (h : W.heap[l]? = some (.deferred d)) (hc : W.cell? ⟨b, i, none⟩ ≠ none) : (W.setCell ⟨b, i, none⟩ v).heap[l]? = some (.deferred d) := by
  have hne : l ≠ b := fun e => by subst e; simp [World.cell?, h] at hc
  rw [Below.heap_setCell _ _ _ _ hne]; exact h
theorem range_gives {α : Type} {g : Operand} {ps : Array Tmp} {assign body : Code} {Q : Exit → Act → World → Prop} {a : Act} {w w0 : World} {n gf : Nat} {lb : Array Value} (h1 : 1 ≤ n)
    (hg : a.eval g = .func (.func gf) #[] lb) (eg : ∀ args w, (callFunc gf args).run Try.prog w = .ok (.enter gf args) w)
    {encs : α → Array Value} {Rx : Nat → α → World → Prop} {Kp : World → World → Prop} {S : List α → Prop} (hseq : GivesR (n - 1) gf lb encs Rx Kp S w0)
    (hKt : ∀ {A B C : World}, Kp A B → Kp B C → Kp A C) (hKb : ∀ (W : World) (l : Nat) (o o' : Obj), W.heap[l]? = some o → o.isCells = false → Kp W (W.putObj l o'))
    (hRb : ∀ (b : Nat) (x : α) (W : World) (l : Nat) (o o' : Obj), W.heap[l]? = some o → o.isCells = false → Rx b x W → Rx b x (W.putObj l o'))
    (hb0 : Below w0.heap.size w0 w) (hps : ∀ x, (encs x).size = ps.size) (I : Nat → List α → World → Prop) (hI : ∀ b, OwnFrom w.heap.size (I b)) (hIs : ∀ b pre A i v, w.heap.size ≤ b → I b pre A → A.cell? ⟨b, i, none⟩ ≠ none → I b pre (A.setCell ⟨b, i, none⟩ v)) (h0 : ∀ b, w.heap.size ≤ b → I b [] w) (a₁ : α → Act)
    (hassign : ∀ (l : Nat) (x : α) (W : World) (K : Act → World → Prop), K (a₁ x) W →
      assign.wpIn (Fence.wide.inRound l) (n - 1 - 1) Try.prog (Exit.then K (fun _ _ _ => False)) { tmps := (ps.zip (encs x)).foldl (fun t (p, v) => t.setIfInBounds p v) a.tmps, defers := [] } W)
    (hbody : ∀ (l b : Nat) (pre : List α) (x : α) (W : World), w.heap.size ≤ b → I b pre W → Rx b x W → body.wpIn (Fence.wide.inRound l) (n - 1 - 1) Try.prog (roundOwes Kp (I b) (pre ++ [x]) W) (a₁ x) W)
    (hdone : ∀ (D b : Nat) (xs : List α) (W : World), w.heap.size ≤ D → w.heap.size ≤ b → S xs → I b xs W → W.heap[D]? = some (.deferred (some [])) → Q .normal { a with defers := { target := .collected D, args := #[] } :: a.defers } W) :
    (Code.rangeFunc g ps assign body).wpIn Fence.wide n Try.prog Q a w := by
  refine wpIn_rangeFunc fun fn hfn => ?_
  obtain ⟨r0, hr0⟩ : ∃ r : Loop, r = { state := .ready, pending := none, fn, tmps := a.tmps, params := ps, assign, body, defers := w.heap.size } := ⟨_, rfl⟩
  have hsz : ∀ W : World, W = (w.alloc (.deferred (some []))).alloc (.loop r0) → W.heap[w.heap.size + 1]? = some (.loop r0) ∧ W.heap[w.heap.size]? = some (.deferred (some [])) ∧ W.heap.size = w.heap.size + 2 := by
    rintro W rfl
    refine ⟨?_, (Below.heap_alloc _ _ _ (by simp)).trans (World.alloc_heap_new w _), by simp⟩
    have := World.alloc_heap_new (w.alloc (.deferred (some []))) (.loop r0)
    rwa [World.size_alloc] at this
  obtain ⟨Ws, hWs⟩ : ∃ W : World, W = (w.alloc (.deferred (some []))).alloc (.loop r0) := ⟨_, rfl⟩
  obtain ⟨hL, hD, hS⟩ := hsz Ws hWs
  refine ⟨w.heap.size + 1, [{ target := .collected w.heap.size, args := #[] }], Ws, { target := .fn (.func gf) lb, args := #[.func (.yield (w.heap.size + 1)) #[] #[]] }, Ws, gf, #[.func (.yield (w.heap.size + 1)) #[] #[]] ++ lb, Ws, ?_, ?_, ?_, ?_, fun _ => h1, ?_⟩
  · rw [hWs, hr0]; exact run_enterLoop_outer _ _ _ _ _
  · simp only [resolve, hg]; simp [go_sem]
  · intro f' hf'; simp [Target.leads] at hf'; subst hf'; trivial
  · simp [invoke, go_sem, eg]
  have walkNo : ∀ {A : World} {row : Option Nat}, (∀ r, row = some r → Ws.heap.size ≤ r ∧ ∃ o : Obj, A.heap[r]? = some o ∧ o.isWalk = true) → ∀ r, row = some r → w.heap.size ≤ r ∧ ∃ o : Obj, A.heap[r]? = some o ∧ o.isCells = false := by
    intro A row hr r e
    obtain ⟨hB, o, ho, hw⟩ := hr r e
    exact ⟨by omega, o, ho, Obj.not_cells_of_walk hw⟩
  refine (hseq (w.heap.size + 1) (fun b pre W => I b pre W ∧ W.heap[w.heap.size + 1]? = some (.loop r0) ∧ W.heap[w.heap.size]? = some (.deferred (some []))) Ws (by rw [hWs]; exact hb0.trans ((((Below.refl _ w).alloc (Nat.le_refl _) _).alloc (by simp) _).mono hb0.size)) ?_ ?_ ?_
    (fun b hb => ⟨by rw [hWs]; exact (hI b).alloc _ ((hI b).alloc _ (h0 b (by omega))), hL, hD⟩)).mono ?_
  · intro b s A B row hs hgr hr
    exact ⟨hI b s A B row hs.1 hgr (walkNo hr), (grownBy_keeps hgr (fun r e => (hr r e).2) hs.2.1 rfl).trans hs.2.1, (grownBy_keeps hgr (fun r e => (hr r e).2) hs.2.2 rfl).trans hs.2.2⟩
  · rintro b pre A i v hb ⟨hi, hl, hd⟩ hc
    exact ⟨hIs b pre A i v (by omega) hi hc, loop_far hl hc, defer_far hd hc⟩
  · rintro b pre x W hb ⟨hi, hl, hd⟩ hrx
    have hy := run_yield (P := Try.prog) (args := encs x) hl (by rw [hr0]; exact hps x)
    rw [hr0] at hy
    refine ⟨fn, _, assign, body, hy, roundIn_of_wpIn hfn (hassign _ x W _ ?_)⟩
    clear hy
    have hlt := (Array.getElem?_eq_some_iff.1 hl).1
    refine ⟨_, run_beginRound hl (by rw [hr0]), ?_⟩
    have hl2 : (W.putObj (w.heap.size + 1) (.loop { r0 with state := .busy })).heap[w.heap.size + 1]? = some (.loop { r0 with state := .busy }) := World.putObj_heap_same hlt
    have hd2 : (W.putObj (w.heap.size + 1) (.loop { r0 with state := .busy })).heap[w.heap.size]? = some (.deferred (some [])) := (World.putObj_heap_other (by omega)).trans hd
    refine wpIn_mono (hbody _ b pre x _ (by omega) ((hI b).putObj _ hi (by omega) hl rfl) (hRb b x _ _ _ _ hl rfl hrx)) ?_
    rintro e a3 W3 hp
    cases e with
    | normal =>
      obtain ⟨hk3, hkp3, hi3⟩ := hp
      have hl3 := hk3.same _ _ hl2 rfl
      have hd3 := hk3.same _ _ hd2 rfl
      have hend := run_endRound (P := Try.prog) none hl3
      refine ⟨_, _, hend, rfl, ⟨(hI b).putObj _ hi3 (by omega) hl3 rfl, ?_, (World.putObj_heap_other (by omega)).trans hd3⟩, hKt (hKb _ _ _ _ hl rfl) (hKt hkp3 (hKb _ _ _ _ hl3 rfl))⟩
      refine (World.putObj_heap_same (Array.getElem?_eq_some_iff.1 hl3).1).trans ?_
      rw [hr0]
      rfl
    | ret => exact hp.elim
    | exit id => exact hp.elim
    | goto t => exact hp.elim
    | panic ch => exact hp.elim
    | outgrown => exact hp.elim
  · rintro e W2 ⟨⟨v, rfl⟩, b, xs, hb, hS2, hi, hl, hd⟩
    have hend := run_endLoop (P := Try.prog) hl (by rw [hr0]; simp)
    have hpend : r0.pending = none := by rw [hr0]
    rw [hpend] at hend
    exact ⟨none, _, hend, hdone _ b xs _ (Nat.le_refl _) (by omega) hS2 ((hI b).putObj _ hi (by omega) hl rfl) ((World.putObj_heap_other (by omega)).trans hd)⟩
end Go.Proofs.Ytodmemndaaiolaa.PC7
namespace Go.Proofs.Ytodmemndaaiolaa.PC7
set_option linter.unusedVariables false
def nextL (H : Int) : List Int → Option (List Int)
  | [] => none
  | d :: t => match nextL H t with
    | some t' => some (d :: t')
    | none => if d = H - 1 then none else some ((d + 1) :: List.replicate t.length (-1))
theorem nextL_app (H : Int) (t t' : List Int) (h : nextL H t = some t') : ∀ a : List Int, nextL H (a ++ t) = some (a ++ t')
  | [] => h
  | d :: a => by simp only [List.cons_append, nextL, nextL_app H t t' h a]
theorem nextL_rep (H : Int) : ∀ k, nextL H (List.replicate k (H - 1)) = none
  | 0 => rfl
  | k + 1 => by rw [List.replicate_succ]; simp only [nextL, nextL_rep H k, if_true]
theorem nextL_at (H d : Int) (a : List Int) (k : Nat) (h : d ≠ H - 1) : nextL H (a ++ d :: List.replicate k (H - 1)) = some (a ++ (d + 1) :: List.replicate k (-1)) := by
  refine nextL_app H _ _ ?_ a
  simp only [nextL, nextL_rep, if_neg h, List.length_replicate]
inductive Runs {α : Type} (f : α → Option α) : List α → Option α → Prop
  | one (x : α) (e : Option α) (h : f x = e) : Runs f [x] e
  | cons (x y : α) (r : List α) (e : Option α) (h : f x = some y) (hr : Runs f (y :: r) e) : Runs f (x :: y :: r) e
theorem Runs.app {α : Type} {f : α → Option α} {A : List α} {eA : Option α} (h : Runs f A eA) : ∀ {b : α} {B : List α} {e : Option α}, eA = some b → Runs f (b :: B) e → Runs f (A ++ b :: B) e := by
  induction h with
  | one x e0 hx => intro b B e hb hB; subst hb; exact .cons _ _ _ _ hx hB
  | cons x y r e0 hx hr ih => intro b B e hb hB; exact .cons _ _ _ _ hx (ih hb hB)
theorem Runs.get {α : Type} {f : α → Option α} {L : List α} {e : Option α} (h : Runs f L e) : e = none → ∀ k x, L[k]? = some x → f x = L[k + 1]? := by
  induction h with
  | one x e hx => intro he k y hy; cases k with
    | zero => simp at hy; subst hy; rw [hx, he]; rfl
    | succ k => simp at hy
  | cons x y r e hx hr ih => intro he k z hz; cases k with
    | zero => simp at hz; subst hz; rw [hx]; rfl
    | succ k => exact ih he k z hz
theorem Runs.consed (H d : Int) (n : Nat) {L : List (List Int)} {e : Option (List Int)} (h : Runs (nextL H) L e) : e = none → (∀ t ∈ L, t.length = n) →
    Runs (nextL H) (L.map (d :: ·)) (if d = H - 1 then none else some ((d + 1) :: List.replicate n (-1))) := by
  induction h with
  | one x e hx =>
    intro he hl
    refine .one _ _ ?_
    rw [he] at hx
    simp only [nextL, hx, hl x (by simp)]
  | cons x y r e hx hr ih =>
    intro he hl
    refine .cons _ _ _ _ ?_ (ih he fun t ht => hl t (by simp_all))
    simp only [nextL, hx]
def stowsL (H : Nat) : Nat → List (List Int)
  | 0 => [[]]
  | n + 1 => (List.range (H + 1)).flatMap fun (d : Nat) => (stowsL H n).map fun t => ((d : Int) - 1) :: t
theorem stowsL_mem (H : Nat) : ∀ n t, t ∈ stowsL H n → t.length = n ∧ ∀ y ∈ t, -1 ≤ y ∧ y < (H : Int)
  | 0, t, h => by simp [stowsL] at h; subst h; simp
  | n + 1, t, h => by
    simp only [stowsL, List.mem_flatMap, List.mem_range, List.mem_map] at h
    obtain ⟨d, hd, s, hs, rfl⟩ := h
    obtain ⟨h1, h2⟩ := stowsL_mem H n s hs
    refine ⟨by simp [h1], fun y hy => ?_⟩
    rcases List.mem_cons.1 hy with rfl | hy
    · omega
    · exact h2 y hy
theorem stowsL_head (H : Nat) : ∀ n, ∃ r, stowsL H n = List.replicate n (-1) :: r
  | 0 => ⟨[], rfl⟩
  | n + 1 => by
    obtain ⟨r, hr⟩ := stowsL_head H n
    simp only [stowsL, List.range_succ_eq_map, List.flatMap_cons, hr, List.map_cons, List.cons_append, List.replicate_succ]
    exact ⟨_, rfl⟩
theorem stowsL_runs (H : Nat) : ∀ n, Runs (nextL H) (stowsL H n) none
  | 0 => .one _ _ rfl
  | n + 1 => by
    have ih := stowsL_runs H n
    have hl : ∀ t ∈ stowsL H n, t.length = n := fun t ht => (stowsL_mem H n t ht).1
    have key : ∀ k, k ≤ H → Runs (nextL H) ((List.range (k + 1)).flatMap fun (d : Nat) => (stowsL H n).map fun t => ((d : Int) - 1) :: t) (if k = H then none else some ((k : Int) :: List.replicate n (-1))) := by
      intro k
      induction k with
      | zero =>
        intro hk
        have h := Runs.consed H ((0 : Nat) - 1) n ih rfl hl
        have e : (if (((0 : Nat) : Int) - 1) = (H : Int) - 1 then none else some ((((0 : Nat) : Int) - 1 + 1) :: List.replicate n (-1))) = (if 0 = H then none else some (((0 : Nat) : Int) :: List.replicate n (-1))) := by
          by_cases h0 : 0 = H
          · rw [if_pos h0, if_pos (by omega)]
          · rw [if_neg h0, if_neg (by omega)]; congr 2
        rw [e] at h
        simpa using h
      | succ k ihk =>
        intro hk
        have h1 := ihk (by omega)
        rw [if_neg (by omega)] at h1
        have h2 := Runs.consed H (((k + 1 : Nat) : Int) - 1) n ih rfl hl
        have e : (if (((k + 1 : Nat) : Int) - 1) = (H : Int) - 1 then none else some ((((k + 1 : Nat) : Int) - 1 + 1) :: List.replicate n (-1))) = (if k + 1 = H then none else some (((k + 1 : Nat) : Int) :: List.replicate n (-1))) := by
          by_cases h0 : k + 1 = H
          · rw [if_pos h0, if_pos (by omega)]
          · rw [if_neg h0, if_neg (by omega)]; congr 2; omega
        rw [e] at h2
        obtain ⟨r, hr⟩ := stowsL_head H n
        rw [List.range_succ, List.flatMap_append, List.flatMap_singleton]
        have hd : (((k + 1 : Nat) : Int) - 1) = (k : Int) := by omega
        rw [hr, List.map_cons, hd] at h2 ⊢
        rw [← hr]
        exact h1.app rfl h2
    have := key H (Nat.le_refl _)
    rw [if_pos rfl] at this
    exact this
theorem stowsL_next (H n k : Nat) (x : List Int) (h : (stowsL H n)[k]? = some x) : nextL H x = (stowsL H n)[k + 1]? := (stowsL_runs H n).get rfl k x h
def curL (t : List Int) (j : Nat) : List Int := t.take j ++ List.replicate (t.length - j) (-1)
theorem curL_all (t : List Int) : curL t t.length = t := by simp [curL]
theorem take_snoc (t : List Int) (j : Nat) (h : j < t.length) : t.take (j + 1) = t.take j ++ [t.getD j 0] := by
  rw [List.take_succ_eq_append_getElem h, List.getD, List.getElem?_eq_getElem h]; rfl
theorem curL_get (t : List Int) (j : Nat) (h : j < t.length) : (curL t (j + 1))[j]? = some (t.getD j 0) := by
  rw [curL, take_snoc t j h, List.append_assoc, List.getElem?_append_right (by simp; omega)]
  simp [Nat.min_eq_left (Nat.le_of_lt h)]
theorem curL_set (t : List Int) (j : Nat) (y : Int) (h : j < t.length) : (curL t (j + 1)).set j y = t.take j ++ y :: List.replicate (t.length - (j + 1)) (-1) := by
  rw [curL, take_snoc t j h, List.append_assoc, List.set_append_right _ _ (by simp; omega)]
  simp [Nat.min_eq_left (Nat.le_of_lt h)]
theorem curL_back (t : List Int) (j : Nat) (h : j < t.length) : (curL t (j + 1)).set j (-1) = curL t j := by
  rw [curL_set t j _ h, curL, show t.length - j = t.length - (j + 1) + 1 by omega, List.replicate_succ]
theorem full_back (t : List Int) (H : Int) (j : Nat) (h : j < t.length) (hf : t = t.take (j + 1) ++ List.replicate (t.length - (j + 1)) (H - 1)) (hd : t.getD j 0 = H - 1) : t = t.take j ++ List.replicate (t.length - j) (H - 1) := by
  have hf2 := hf
  rw [take_snoc t j h, hd, List.append_assoc] at hf2
  rw [show t.length - j = t.length - (j + 1) + 1 by omega, List.replicate_succ]
  exact hf2
theorem next_at (t : List Int) (H : Int) (j : Nat) (h : j < t.length) (hf : t = t.take (j + 1) ++ List.replicate (t.length - (j + 1)) (H - 1)) (hd : t.getD j 0 ≠ H - 1) : nextL H t = some ((curL t (j + 1)).set j (t.getD j 0 + 1)) := by
  rw [curL_set t j _ h]
  have hf2 := hf
  rw [take_snoc t j h, List.append_assoc] at hf2
  have h3 := nextL_at H (t.getD j 0) (t.take j) (t.length - (j + 1)) hd
  rw [show t.take j ++ t.getD j 0 :: List.replicate (t.length - (j + 1)) (H - 1) = t from hf2.symm] at h3
  exact h3
theorem next_none (t : List Int) (H : Int) (hf : t = t.take 0 ++ List.replicate (t.length - 0) (H - 1)) : nextL H t = none := by
  rw [hf]; simp only [List.take_zero, List.nil_append]; exact nextL_rep H _
theorem map_set_int (l : List Int) (j : Nat) (y : Int) : ((l.map (Value.int .i64)).toArray.setIfInBounds j (.int .i64 y)) = ((l.set j y).map (Value.int .i64)).toArray := by
  simp [List.map_set]
theorem enum_more {T : List (List Int)} {pre : List (Value × List Int)} {k : Nat} {t : List Int} (v : Value) (hp : pre.map (·.2) = T.take k) (ht : T[k]? = some t) : (pre ++ [(v, t)]).map (·.2) = T.take (k + 1) := by
  obtain ⟨h, e⟩ := List.getElem?_eq_some_iff.1 ht
  rw [List.map_append, hp, List.take_succ_eq_append_getElem h, e]; rfl
theorem enum_done {T : List (List Int)} {pre : List (Value × List Int)} {k : Nat} {t : List Int} (v : Value) (hp : pre.map (·.2) = T.take k) (ht : T[k]? = some t) (hn : T[k + 1]? = none) : (pre ++ [(v, t)]).map (·.2) = T := by
  rw [enum_more v hp ht]
  exact List.take_of_length_le (List.getElem?_eq_none_iff.1 hn)
end Go.Proofs.Ytodmemndaaiolaa.PC7
namespace Go.Proofs.Ytodmemndaaiolaa.PC7
open Go.RowKit Go.Proofs.YtodmemndaaiolaaW.PrintWords Go.Proofs.YtodmemndaaiolaaW.PrintLast Go.Proofs.YtodmemndaaiolaaW.PrintMore
attribute [local go_sem] max2_int min2_int max_two min_two max_three min_three max_four min_four
set_option linter.unusedVariables false
set_option linter.unusedSimpArgs false
def bits_Mul64.f (a0 : Int) (a1 : Int) : Option (Int × Int) := some (IntKind.u64.wrap ((IntKind.u64.wrap ((IntKind.u64.wrap ((a0 / 4294967296) * (a1 / 4294967296))) + ((IntKind.u64.wrap ((IntKind.u64.wrap ((a0 / 4294967296) * (Go.bits .and .u64 a1 4294967295))) + ((IntKind.u64.wrap ((Go.bits .and .u64 a0 4294967295) * (Go.bits .and .u64 a1 4294967295))) / 4294967296))) / 4294967296))) + ((IntKind.u64.wrap ((Go.bits .and .u64 (IntKind.u64.wrap ((IntKind.u64.wrap ((a0 / 4294967296) * (Go.bits .and .u64 a1 4294967295))) + ((IntKind.u64.wrap ((Go.bits .and .u64 a0 4294967295) * (Go.bits .and .u64 a1 4294967295))) / 4294967296))) 4294967295) + (IntKind.u64.wrap ((Go.bits .and .u64 a0 4294967295) * (a1 / 4294967296))))) / 4294967296)), IntKind.u64.wrap (a0 * a1))
set_option maxHeartbeats 8000000 in
set_option maxRecDepth 100000 in
theorem bits_Mul64.calls (a0 : Int) (a1 : Int) (r1 : Int) (r2 : Int) (w : World) (h : bits_Mul64.f a0 a1 = some (r1, r2)) :
  Calls Try.prog 92 #[.int .u64 a0, .int .u64 a1] w fun e w' => e = .returned (.tuple #[.int .u64 r1, .int .u64 r2]) ∧ Drawn0 w w' := by
 have H : (some (IntKind.u64.wrap ((IntKind.u64.wrap ((IntKind.u64.wrap ((a0 / 4294967296) * (a1 / 4294967296))) + ((IntKind.u64.wrap ((IntKind.u64.wrap ((a0 / 4294967296) * (Go.bits .and .u64 a1 4294967295))) + ((IntKind.u64.wrap ((Go.bits .and .u64 a0 4294967295) * (Go.bits .and .u64 a1 4294967295))) / 4294967296))) / 4294967296))) + ((IntKind.u64.wrap ((Go.bits .and .u64 (IntKind.u64.wrap ((IntKind.u64.wrap ((a0 / 4294967296) * (Go.bits .and .u64 a1 4294967295))) + ((IntKind.u64.wrap ((Go.bits .and .u64 a0 4294967295) * (Go.bits .and .u64 a1 4294967295))) / 4294967296))) 4294967295) + (IntKind.u64.wrap ((Go.bits .and .u64 a0 4294967295) * (a1 / 4294967296))))) / 4294967296)), IntKind.u64.wrap (a0 * a1))) = some (r1, r2) := h
 clear h
 simp only [Option.some.injEq, Prod.mk.injEq] at H
 obtain ⟨rfl, rfl⟩ := H
 go_enter Try.func92, Try.ntmps92
 go_wp2
 go_ret2
 exact ⟨by first | rfl | (simp; done) | (simp [*]; done), by repeat (first | exact Drawn0.refl _ | apply Drawn0.step)⟩
def bits_Mul.f (a0 : Int) (a1 : Int) : Option (Int × Int) := (bits_Mul64.f a0 a1).bind fun bt155 => (some (bt155.1, bt155.2))
set_option maxHeartbeats 8000000 in
set_option maxRecDepth 100000 in
theorem bits_Mul.calls (a0 : Int) (a1 : Int) (r1 : Int) (r2 : Int) (w : World) (h : bits_Mul.f a0 a1 = some (r1, r2)) :
  Calls Try.prog 90 #[.int .u64 a0, .int .u64 a1] w fun e w' => e = .returned (.tuple #[.int .u64 r1, .int .u64 r2]) ∧ Drawn0 w w' := by
 have H : ((bits_Mul64.f a0 a1).bind fun bt155 => (some (bt155.1, bt155.2))) = some (r1, r2) := h
 clear h
 replace H := Option.bind_eq_some_iff.mp H
 obtain ⟨⟨t155, t156⟩, A30, H⟩ := H
 replace H : (some (t155, t156)) = some (r1, r2) := H
 have A3 := Aside0.mk A30
 clear A30
 simp only [Option.some.injEq, Prod.mk.injEq] at H
 obtain ⟨rfl, rfl⟩ := H
 go_enter Try.func90, Try.ntmps90
 go_wp2_with (first | ((with_reducible refine gate_callee (f := 92) rfl ?_); refine goesL_ (some 25) rfl rfl Try.func92 (by kernel_rfl) rfl #[.int .u64 a0, .int .u64 a1] rfl (by (try simp only [List.map_toArray, List.map_cons, List.map_nil]); first | done | rfl | (simp only [List.length_drop, List.length_take]; rfl)) ?_; (with_reducible refine (bits_Mul64.calls a0 a1 t155 t156 _ A3.out).mono ?_); rintro e w' ⟨rfl, ⟨nd, rfl⟩⟩; refine ⟨_, rfl, ?_⟩))
 go_ret2
 exact ⟨by first | rfl | (simp; done) | (simp [*]; done), by repeat (first | exact Drawn0.refl _ | apply Drawn0.step)⟩
end Go.Proofs.Ytodmemndaaiolaa.PC7
namespace Go.Proofs.Ytodmemndaaiolaa.PC7
set_option linter.unusedVariables false
set_option linter.unusedSimpArgs false
open Go.RowKit Go.Proofs.YtodmemndaaiolaaW.PrintWords Go.Proofs.YtodmemndaaiolaaW.PrintLast Go.Proofs.YtodmemndaaiolaaW.PrintMore
theorem mul_one : ∀ n : Nat, n ≤ 6 → bits_Mul.f 1 (n : Int) = some (0, (n : Int))
 | 0, _ => by kernel_rfl
 | 1, _ => by kernel_rfl
 | 2, _ => by kernel_rfl
 | 3, _ => by kernel_rfl
 | 4, _ => by kernel_rfl
 | 5, _ => by kernel_rfl
 | 6, _ => by kernel_rfl
 | n + 7, h => by omega
def repL (n m : Nat) : List Value := List.replicate m (Value.int .i64 (-1)) ++ List.replicate (n - m) (Value.int .i64 0)
theorem repL_len (n m : Nat) (h : m ≤ n) : (repL n m).length = n := by simp [repL]; omega
theorem repL_zero (n : Nat) : madeCells #[Value.int .i64 0] n = (repL n 0).toArray := by
 apply Array.ext
 ·
  simp [size_madeCells, repL]
 ·
  intro i h1 h2
  simp [madeCells, repL, Nat.mod_one]
theorem repL_splice (n m k : Nat) (h : m + k ≤ n) : splice (repL n m) m (List.replicate k (Value.int .i64 (-1))) = repL n (m + k) := by
 unfold splice repL
 have h1 : (List.replicate m (Value.int .i64 (-1)) ++ List.replicate (n - m) (Value.int .i64 0)).take m = List.replicate m (Value.int .i64 (-1)) := by rw [List.take_append_of_le_length (by simp)]; simp
 rw [h1, List.length_replicate, List.drop_append, List.drop_of_length_le (by simp), List.nil_append, List.drop_replicate, ← List.append_assoc, List.replicate_append_replicate]
 congr 2
 simp
 omega
theorem repL_get (n m j : Nat) (h : j < m) : (repL n m)[j]? = some (Value.int .i64 (-1)) := by
 unfold repL
 rw [List.getElem?_append_left (by simpa using h)]
 simp [h]
set_option maxHeartbeats 8000000 in
set_option maxRecDepth 100000 in
theorem repeat_calls (gx n : Nat) (w : World) (hn : n ≤ 6) (hx : w.heap[gx]? = some (.cells #[.int .i64 (-1)] 3 (0, 0))) :
  Calls Try.prog 83 #[.slice (some ⟨gx, 0, none⟩) 1 1, .int .i64 (n : Int)] w fun e w' => ∃ g, e = .returned (.slice (some ⟨g, 0, none⟩) n n) ∧ w'.heap[g]? = some (.cells (List.replicate n (Value.int .i64 (-1))).toArray 3 (0, 0)) ∧ w.heap.size ≤ g ∧ Below w.heap.size w w' := by
 have HX := Aside0.mk hx
 have HM := Aside0.mk (mul_one n hn)
 have hnn : ¬ (n : Int) < 0 := by omega
 have hcv : IntKind.u64.wrap (n : Int) = (n : Int) := IntWalk.u64_in _ (by omega)
 have hci : IntKind.i64.wrap (n : Int) = (n : Int) := IntWalk.i64_in _ (by omega)
 have hbig : decide ((9223372036854775807 : Int) < (n : Int)) = false := decide_eq_false (by omega)
 clear hx
 go_enter Try.func83, Try.ntmps83
 go_wp2_with (fail)
 refine (bits_Mul.calls 1 (n : Int) 0 (n : Int) w HM.out).mono ?_
 rintro e w' ⟨rfl, ⟨m, rfl⟩⟩
 have hmk : ∀ W : World, (Instr.makeSlice 27 (.int .i64 (n : Int)) (.int .i64 (n : Int))).run Try.prog W = .ok (.slice (some ⟨W.heap.size, 0, none⟩) n n) (W.alloc (.cells (repL n 0).toArray 3)) := fun W => by
  rw [run_make_row' 27 3 (.int .i64 0) 8 Try.underlying27 info3 rfl .i64 .i64 n (by omega) (by omega) W, repL_zero]
 have hsz3 : (Try.prog.info? 3).map (·.size) = some 1 := by kernel_rfl
 have HSZ := Aside0.mk hsz3
 clear hsz3
 obtain ⟨w1, hw1⟩ : ∃ w1 : World, w1 = w.drewN m := ⟨_, rfl⟩
 have HB := Aside0.mk (show Below w.heap.size w w1 by rw [hw1]; exact pw_below_drewN (Below.refl _ _) m)
 rw [← hw1]
 clear hw1
 go_upto_region 7 with (fail)
 clear hmk
 obtain ⟨g, hg_⟩ : ∃ b, b = w1.heap.size := ⟨_, rfl⟩
 have Ng := Aside0.mk (blk_new w1 (.cells (repL n 0).toArray 3 (0, 0)))
 have hbw : Below w1.heap.size w1 (w1.alloc (.cells (repL n 0).toArray 3 (0, 0))) := below_alloc (Below.refl _ _) _
 have hgs_ : w.heap.size ≤ g := by rw [hg_]; exact HB.out.size
 generalize hw_ : w1.alloc (.cells (repL n 0).toArray 3 (0, 0)) = w2 at *
 rw [← hg_] at Ng ⊢
 replace HB := Aside0.mk (below_step HB.out hbw)
 have GEg : Aside0 (w.heap.size ≤ g) := ⟨hgs_⟩
 clear hbw hw_ hg_ hgs_
 have hcs : ∃ k, k = min 1 n := ⟨_, rfl⟩
 obtain ⟨k0, hk0⟩ := hcs
 have HXc := Aside0.mk (blk_below HX.out HB.out)
 have CL := Aside0.mk (show (List.replicate k0 (Value.int .i64 (-1))).length = Nat.min 1 n by rw [List.length_replicate, hk0])
 have CP := Aside0.mk (show 0 < (List.replicate k0 (Value.int .i64 (-1))).length → some (⟨g, 0, none⟩ : Addr) = some ⟨g, 0, none⟩ ∧ ∃ ad, some (⟨gx, 0, none⟩ : Addr) = some ad ∧ ∀ j v, (List.replicate k0 (Value.int .i64 (-1)))[j]? = some v → w2.cell? (ad.add j) = some v from fun hp => ⟨rfl, _, rfl, fun j v hj => by
  have hj0 : j < k0 := by
   have := (List.getElem?_eq_some_iff.1 hj).1
   simpa using this
  have : j = 0 := by omega
  subst this
  rw [List.getElem?_replicate] at hj
  rw [if_pos hj0] at hj
  injection hj with hj
  subst hj
  exact (blk_cell HXc.out 0).trans rfl⟩)
 have CF := Aside0.mk (show 0 + (List.replicate k0 (Value.int .i64 (-1))).length ≤ (repL n 0).length by rw [repL_len n 0 (by omega), List.length_replicate]; omega)
 have C1 := Aside0.mk (show ∀ v ∈ List.replicate k0 (Value.int .i64 (-1)), v.oneCell' = true from fun v hv => by rw [List.eq_of_mem_replicate hv]; rfl)
 go_wp2_with ((with_reducible refine gate_builtin (b := .copy) (xs := #[.tmp 31, .tmp 32]) rfl ?_); refine wpList_copy_splice rfl (.tmp 31) (.tmp 32) 27 27 rfl 3 Try.underlying27 HSZ.out (some ⟨g, 0, none⟩) (some ⟨gx, 0, none⟩) n n 1 1 rfl rfl g 0 (repL n 0) 3 Ng.out (List.replicate k0 (Value.int .i64 (-1))) CL.out CP.out CF.out C1.out w.heap.size w HB.out GEg.out ?_; intro w3 hid hb3; have B3 := Aside0.mk hid.out; have HB3 := Aside0.mk hb3; clear hid hb3)
 have B4 := Aside0.mk (show w3.heap[g]? = some (.cells (repL n k0).toArray 3 (0, 0)) by have h := repL_splice n 0 k0 (by omega); rw [Nat.zero_add] at h; rw [← h]; exact B3.out)
 clear Ng B3 CL CP CF C1 HB HXc
 go_loopg [8] n (fun gk v8 wr => ∃ m : Nat, m ≤ n ∧ (0 < m ∨ n = 0) ∧ n - m ≤ gk ∧ v8 = .int .i64 m ∧ Aside0 (wr.heap[g]? = some (.cells (repL n m).toArray 3 (0, 0))) ∧ Aside0 (Below w.heap.size w wr))
 case atStart => exact ⟨k0, by omega, by omega, by omega, by rw [hk0], B4, HB3⟩
 case round =>
  clear B4 HB3
  obtain ⟨m, hm, hm0, hgk, rfl, B3, HB⟩ := hrel
  by_cases hlt : m < n
  ·
   have hlz : (m : Int) < (n : Int) := by omega
   obtain ⟨k1, hk1⟩ : ∃ k, k = min m (n - m) := ⟨_, rfl⟩
   go_upto_region 9 with (fail)
   have hd_ := below_drew1 (Below.refl wr.heap.size wr)
   replace B3 := Aside0.mk (blk_drew B3.out)
   replace HB := Aside0.mk (below_step HB.out hd_)
   clear hd_
   have CL := Aside0.mk (show (List.replicate k1 (Value.int .i64 (-1))).length = Nat.min m (n - m) by rw [List.length_replicate, hk1])
   have CP := Aside0.mk (show 0 < (List.replicate k1 (Value.int .i64 (-1))).length → (if n = m then some (⟨g, 0, none⟩ : Addr) else some ⟨g, m, none⟩) = some ⟨g, m, none⟩ ∧ ∃ ad, some (⟨g, 0, none⟩ : Addr) = some ad ∧ ∀ j v, (List.replicate k1 (Value.int .i64 (-1)))[j]? = some v → wr.drew.cell? (ad.add j) = some v from fun hp => ⟨if_neg (by omega), _, rfl, fun j v hj => by
    have hj0 : j < k1 := by
     have := (List.getElem?_eq_some_iff.1 hj).1
     simpa using this
    rw [List.getElem?_replicate, if_pos hj0] at hj
    refine ((congrArg wr.drew.cell? (show Addr.add ⟨g, 0, none⟩ j = ⟨g, j, none⟩ by simp [Addr.add, eq_comm])).trans (blk_cell B3.out j)).trans ?_
    rw [List.getElem?_toArray, repL_get n m j (by omega)]
    exact hj⟩)
   have CF := Aside0.mk (show m + (List.replicate k1 (Value.int .i64 (-1))).length ≤ (repL n m).length by rw [repL_len n m hm, List.length_replicate]; omega)
   have C1 := Aside0.mk (show ∀ v ∈ List.replicate k1 (Value.int .i64 (-1)), v.oneCell' = true from fun v hv => by rw [List.eq_of_mem_replicate hv]; rfl)
   refine start_ (n := 10) (S := fun w' => True) (ds := [7]) #[false, false, false, false, false, false, false, false, false, false] (by kernel_rfl) rfl rfl trivial (fun hHeld => ?_)
   generalize wr.drew = wd at B3 HB CP hHeld ⊢
   refine pure_y 0 (some 38) (bz 10 1) ?_
   refine pure_y 1 (some 39) (bz 10 3) ?_
   refine pure_y 2 (some 40) (bz 10 7) ?_
   refine pure_y 3 (some 41) (bz 10 15) ?_
   refine pure_y 4 (some 42) (bz 10 31) ?_
   refine pure_y 5 (some 43) (bz 10 63) ?_
   refine pure_y 6 (some 44) (bz 10 127) ?_
   refine last_ (i := 7) (N := some 45) (bz 10 255) rfl rfl (by kernel_rfl) (by decide) (fun K hK => ?_)
   refine step_copy_splice rfl (.tmp 41) (.tmp 44) 27 27 rfl 3 Try.underlying27 HSZ.out _ _ _ _ _ _ rfl rfl g m (repL n m) 3 B3.out (List.replicate k1 (.int .i64 (-1))) CL.out CP.out CF.out C1.out w.heap.size w HB.out GEg.out ?_
   intro w' hid hb'
   have B5 := Aside0.mk hid.out
   have HB5 := Aside0.mk hb'
   clear hid hb'
   refine hK.out _ _ ?_
   clear hK K
   refine norm_ (a' := ?_) ?_ ?_; rotate_left; (show Act.put _ (some 45) _ = _; simp only [Act.put, put_x, i64_w, i32_w]; rfl)
   refine pure_y 8 (some 46) (bz 10 511) ?_
   refine pure_y 9 (some 8) (bz 10 1023) ?_
   refine done_ (by kernel_rfl) ?_
   clear CL CP CF C1 HB
   have B6 := Aside0.mk (show w'.heap[g]? = some (.cells (repL n (m + k1)).toArray 3 (0, 0)) by rw [← repL_splice n m k1 (by omega)]; exact B5.out)
   go_wp2
   go_roundg (n - (m + k1))
   case measure => omega
   case rel => exact ⟨m + k1, by omega, by omega, by omega, (congrArg (Value.int .i64) (by first | omega | (rw [IntWalk.wrap64_in _ (by omega)]; omega))), B6, HB5⟩
  ·
   have : m = n := by omega
   subst this
   go_wp2
   go_ret
   refine ⟨g, rfl, ?_, GEg.out, HB.out⟩
   have hb := B3.out
   unfold repL at hb
   rw [Nat.sub_self] at hb
   simpa using hb
set_option maxHeartbeats 8000000 in
set_option maxRecDepth 100000 in
theorem clone_calls (ad : Addr) (c : Nat) (l : List Int) (w : World) (hr : Kd.C (Kd.int .i64) w (some ad) l.length l) (hc : l.length ≤ c) (hl : l.length ≤ 1000000) :
  Calls Try.prog 84 #[.slice (some ad) l.length c] w fun e w' => ∃ v, e = .returned v ∧ Kd.R (Kd.int .i64) 3 w' w.heap.size (fun _ => True) v l ∧ Below w.heap.size w w' := by
 have HR0 := Aside0.mk hr
 clear hr
 obtain ⟨y0, hy0⟩ : ∃ y : List Int, y = [] := ⟨_, rfl⟩
 have hyl : y0.length = 0 := by rw [hy0]; rfl
 have HY := Aside0.mk hy0
 clear hy0
 have hnil : ∀ w : World, (binOp .eql 27 (.slice (some ad) l.length c) (.slice none 0 0)).run Try.prog w = .ok (.bool false) w := fun w => Lib.run_eql_slice_nil w 27 3 (some ad) l.length c 0 0 Try.underlying27
 go_enter Try.func84, Try.ntmps84
 go_wp2_with (first
  | ((with_reducible refine gate_dst (N := 5) rfl ?_); refine Kd.R_lit (Kd.int .i64) _ 3 ?hg (N := 5) ?hd (xs := ([] : List Int)) (inner := []) (ok := fun _ => True) (okp := fun _ => True) ?hr ?hp (fun _ hk => hk) trivial (Below.refl _ _) (Nat.le_refl _) (by simp) ?_; (case hd => rfl); (case hg => rfl); (case hr => first | (go_simp; done) | (go_simp; rfl)); (case hp => exact (Reps.none _ _)); intro v3 w3 ho hb hg_ hnew_; clear hg_ hnew_; rw [← HY.out] at ho; have HO := Aside0.mk ho; have HB := Aside0.mk hb; clear hb ho)
  | ((with_reducible refine gate_builtin (b := .append) (xs := #[.tmp 5, .tmp 6]) rfl ?_); at_builtin; refine Kd.R_append_rows (Kd.int .i64) (w0 := w) w.heap.size rfl (.tmp 5) (.tmp 6) 27 3 (.int .i64 0) 8 rfl Try.underlying27 info3 rfl (by decide) (by omega) v3 y0 l _ _ _ (fun _ => True) (fun _ => False) rfl rfl ?aO ?aR (fun _ _ h => h) (fun _ h => h.elim) ?aF ?aB ?aS ?aL ?_; (case aR => exact Kd.C_below HR0.out HB.out); (case aB => exact HB.out); (case aF => exact (fun _ _ => trivial)); (case aO => exact HO.out); (case aS => exact HB.out.size); (case aL => omega); intro v4 w5 ho hb hg hat; rw [HY.out, List.nil_append] at ho; have HO5 := Aside0.mk ho; have HB5 := Aside0.mk hb; clear ho hb hg hat))
 go_ret
 exact ⟨_, rfl, HO5.out, HB5.out⟩
end Go.Proofs.Ytodmemndaaiolaa.PC7
namespace Go.Proofs.Ytodmemndaaiolaa.PC7
set_option linter.unusedVariables false
set_option linter.unusedSimpArgs false
open Go.RowKit Go.Proofs.YtodmemndaaiolaaW.PrintWords Go.Proofs.YtodmemndaaiolaaW.PrintLast Go.Proofs.YtodmemndaaiolaaW.PrintMore
open Go.Shelf
attribute [local go_sem] Oper.semAt_some
def KpB (gb : Nat) (A B : World) : Prop := ∀ b o, b ≠ gb → A.heap[b]? = some o → o.isCells = true → B.heap[b]? = some o
def encStow (x : Value × List Int) : Array Value := #[x.1]
def RxS (n₀ : Nat) (L : List (List Int)) (b : Nat) (x : Value × List Int) (W : World) : Prop := x.2 ∈ L ∧ ∃ base, n₀ ≤ base ∧ b < base ∧ Kd.R (Kd.int .i64) 3 W base (fun _ => True) x.1 x.2
set_option maxHeartbeats 8000000 in
set_option maxRecDepth 100000 in
theorem clone_row (g N : Nat) (l : List Int) (w : World) (hb : w.heap[g]? = some (.cells (l.map (Value.int .i64)).toArray 3 (0, 0))) (hl : l.length = N) (hN : N ≤ 6) :
  Calls Try.prog 84 #[.slice (some ⟨g, 0, none⟩) N N] w fun e w' => ∃ v, e = .returned v ∧ Kd.R (Kd.int .i64) 3 w' w.heap.size (fun _ => True) v l ∧ Below w.heap.size w w' := by
 subst hl
 refine clone_calls ⟨g, 0, none⟩ l.length l w ?_ (Nat.le_refl _) (by omega)
 refine (Kd.R_reads' (R_of_owns .i64 (e := 3) (W := w) (base := 0) (v := .slice (some ⟨g, 0, none⟩) l.length l.length) (xs := l) ⟨by simp, .inr ⟨g, l.length, _, rfl, Nat.zero_le _, hb, Nat.le_refl _, by unfold maxLen; omega, by simp, by rw [Nat.mul_one]; exact List.take_of_length_le (by simp)⟩⟩)).2.2
set_option maxHeartbeats 8000000 in
set_option maxRecDepth 100000 in
theorem stowages_gives (n gv n₀ gbest : Nat) (hn : 1 ≤ n) (x : VoyV) (w : World) (hb : w.heap[gv]? = some (.cells #[.int .i64 x.light, .int .i64 x.under, .int .i64 x.trim, .slice x.A3 x.holds.length x.c3, .int .i64 x.leaves, .slice x.A5 x.sills.length x.c5, .slice x.A6 x.lots.length x.c6] 26 (0, 0))) (hne : gv ≠ gbest) (hlt : gbest < w.heap.size) (hH : x.holds.length ≤ 100) (hN : x.lots.length ≤ 6) (hn0 : n₀ ≤ w.heap.size) :
  GivesR n 82 #[.pointer (some ⟨gv, 0, none⟩)] encStow (RxS n₀ (stowsL x.holds.length x.lots.length)) (KpB gbest) (fun xs => xs.map (·.2) = stowsL x.holds.length x.lots.length) w := by
 intro l J W hW hJ hJs hY h0
 refine callsIn_wide.2 ?_
 have BV := Aside0.mk (blk_below hb hW)
 have HY := Aside0.mk hY
 have H0 := Aside0.mk h0
 have HW := Aside0.mk (Below.refl W.heap.size W)
 have HLT := Aside0.mk (show gbest < W.heap.size from Nat.lt_of_lt_of_le hlt hW.size)
 have HN0 := Aside0.mk (Nat.le_trans hn0 hW.size)
 have HNV := Aside0.mk (show gv < W.heap.size from blk_lt BV.out)
 clear hb hY h0 hW hlt hn0
 have hz6_ : (W.alloc (.cells #[.int .i64 (-1)] 3 (0, 0))).cell? ⟨gv, 6, none⟩ = some (.slice x.A6 x.lots.length x.c6) := (blk_cell (blk_below BV.out (below_alloc HW.out _)) 6).trans rfl
 go_enter Try.func82, Try.ntmps82
 go_wp2_with (fail)
 refine (repeat_calls W.heap.size x.lots.length _ hN (blk_new _ _)).mono ?_
 rintro e w1 ⟨g, rfl, hg1, hgs, hb1⟩
 have BG0 := Aside0.mk hg1
 have GE := Aside0.mk (show W.heap.size ≤ g by have := World.size_alloc W (.cells #[.int .i64 (-1)] 3 (0, 0)); omega)
 have HB1 := Aside0.mk (show Below W.heap.size W w1 from below_step (below_alloc (Below.refl _ _) _) hb1)
 have BV1 := Aside0.mk (blk_below BV.out HB1.out)
 have HJ1 := Aside0.mk (hJ g _ _ _ _ (H0.out g GE.out) (grown_of_below HB1.out none) (by simp))
 clear hg1 hgs hb1 hz6_ H0 HW BV
 go_wp2_with (fail)
 obtain ⟨T, hT⟩ : ∃ T : List (List Int), T = stowsL x.holds.length x.lots.length := ⟨_, rfl⟩
 obtain ⟨r0, hr0⟩ := stowsL_head x.holds.length x.lots.length
 have HTM := Aside0.mk (fun k t (h : (stowsL x.holds.length x.lots.length)[k]? = some t) => stowsL_mem _ _ t (List.mem_of_getElem? h))
 have HTN := Aside0.mk (stowsL_next x.holds.length x.lots.length)
 rw [← hT] at hr0 HTM HTN
 have HTQ := Aside0.mk hT
 have HT0 := Aside0.mk (show T[0]? = some (List.replicate x.lots.length (-1)) by rw [hr0]; rfl)
 have HTT := Aside0.mk (show 0 < T.length by rw [hr0]; simp)
 clear hr0 r0 hT
 go_loopg [4] T.length (fun gk v4 wr => ∃ k : Nat, ∃ pre : List (Value × List Int), ∃ t : List Int, k < T.length ∧ T.length - k ≤ gk + 1 ∧ Aside0 (pre.map (·.2) = T.take k) ∧ Aside0 (T[k]? = some t) ∧ Aside0 (J g pre wr) ∧ Aside0 (wr.heap[g]? = some (.cells (t.map (Value.int .i64)).toArray 3 (0, 0))) ∧ Aside0 (wr.heap[gv]? = some (.cells #[.int .i64 x.light, .int .i64 x.under, .int .i64 x.trim, .slice x.A3 x.holds.length x.c3, .int .i64 x.leaves, .slice x.A5 x.sills.length x.c5, .slice x.A6 x.lots.length x.c6] 26 (0, 0))))
 case atStart => exact ⟨0, [], _, HTT.out, by omega, ⟨rfl⟩, HT0, HJ1, ⟨by rw [BG0.out]; simp⟩, BV1⟩
 case round =>
  clear BG0 HB1 BV1 HJ1 HT0 HTT
  obtain ⟨k, pre, t, hk, hgk, HPR, HTK, HJP, BG, BV⟩ := hrel
  obtain ⟨htl, hte⟩ := HTM.out k t HTK.out
  have HTE := Aside0.mk hte
  clear hte
  refine (wpIn_wide (n := n)).1 ?_
  gi_wp2
  refine ⟨trivial, callsIn_wide.2 ((clone_row g x.lots.length t wr BG.out htl hN).mono ?_)⟩
  rintro e w2 ⟨v, rfl, hR, hb2⟩
  have hgl : g < wr.heap.size := blk_lt BG.out
  have hRX : RxS n₀ (stowsL x.holds.length x.lots.length) g (v, t) w2 := ⟨by rw [← HTQ.out]; exact List.mem_of_getElem? HTK.out, wr.heap.size, by have := HN0.out; have := GE.out; omega, hgl, hR⟩
  have BG2 := Aside0.mk (blk_below BG.out hb2)
  have BV2 := Aside0.mk (blk_below BV.out hb2)
  have hJ2 := hJ g _ _ _ _ HJP.out (grown_of_below hb2 none) (by simp)
  obtain ⟨fn, tmps, assign, body, hy, hRR⟩ := HY.out g pre (v, t) w2 GE.out hJ2 hRX
  dsimp only [encStow] at hy
  have HRR := Aside0.mk hRR
  clear hRR hJ2 hRX hR hb2 hgl BG BV HJP
  gi_wp2
  refine HRR.out.mono ?_
  rintro e W3 ⟨rfl, hJ3, hk3⟩
  have HJ3 := Aside0.mk hJ3
  have BG3 := Aside0.mk (hk3 g _ (by have := HLT.out; have := GE.out; omega) BG2.out rfl)
  have BV3 := Aside0.mk (hk3 gv _ hne BV2.out rfl)
  clear hJ3 hk3 HRR hy BG2 BV2
  gi_wp2
  refine wpIn_wide.2 ?_
  have HN := Aside0.mk (HTN.out k t HTK.out)
  go_loopg [4] x.lots.length (fun gk2 v4 wr2 => ∃ j : Nat, j ≤ x.lots.length ∧ j ≤ gk2 ∧ v4 = .int .i64 ((j : Int) - 1) ∧ Aside0 (t = t.take j ++ List.replicate (t.length - j) ((x.holds.length : Int) - 1)) ∧ Aside0 (J g (pre ++ [(v, t)]) wr2) ∧ Aside0 (wr2.heap[g]? = some (.cells ((curL t j).map (Value.int .i64)).toArray 3 (0, 0))) ∧ Aside0 (wr2.heap[gv]? = some (.cells #[.int .i64 x.light, .int .i64 x.under, .int .i64 x.trim, .slice x.A3 x.holds.length x.c3, .int .i64 x.leaves, .slice x.A5 x.sills.length x.c5, .slice x.A6 x.lots.length x.c6] 26 (0, 0))))
  case atStart => exact ⟨x.lots.length, Nat.le_refl _, Nat.le_refl _, rfl, ⟨by rw [← htl]; simp⟩, HJ3, ⟨by rw [← htl, curL_all]; exact BG3.out⟩, BV3⟩
  case round =>
   clear BG3 BV3 HJ3
   obtain ⟨j, hj, hgk2, rfl, HF, HJP, BG, BV⟩ := hrel
   cases j with
   | zero =>
    have HDN := Aside0.mk (enum_done v HPR.out HTK.out (HN.out.symm.trans (next_none t _ HF.out)))
    go_upto_region 3 with (fail)
    go_quiet (fail)
    have HJ4 := Aside0.mk (hJ g _ _ _ _ HJP.out (grown_of_below (pw_below_drewN (Below.refl _ _) nq) none) (by simp))
    obtain ⟨wq, hwq⟩ : ∃ wq : World, wq = wr.drewN nq := ⟨_, rfl⟩
    rw [← hwq] at HJ4 ⊢
    clear hwq
    go_wp2
    refine wpIn_wide.2 ?_
    go_wp2
    refine bodyPost_ret (results_none rfl _ _ _) rfl ?_
    exact ⟨⟨_, rfl⟩, g, _, GE.out, by rw [← HTQ.out]; exact HDN.out, HJ4.out⟩
   | succ j =>
    rw [show ((j + 1 : Nat) : Int) - 1 = (j : Int) by omega]
    have hjl : j < t.length := by omega
    have hjz : (j : Int) < (x.lots.length : Int) := by omega
    have hge : decide ((0 : Int) ≤ (j : Int)) = true := decide_eq_true (by omega)
    have HG := Aside0.mk (curL_get t j hjl)
    have HC := Aside0.mk (curL_back t j hjl)
    have hcl : wr.cell? ⟨g, j, none⟩ = some (.int .i64 (t.getD j 0)) := (blk_cell BG.out j).trans (by rw [List.getElem?_toArray, List.getElem?_map, HG.out]; rfl)
    have hz3 : wr.cell? ⟨gv, 3, none⟩ = some (.slice x.A3 x.holds.length x.c3) := (blk_cell BV.out 3).trans rfl
    have HI := Aside0.mk (HTE.out (t.getD j 0) (by rw [List.getD, List.getElem?_eq_getElem hjl]; exact List.getElem_mem hjl))
    by_cases hd : t.getD j 0 = (x.holds.length : Int) - 1
    ·
     have HFB := Aside0.mk (full_back t _ j hjl HF.out hd)
     rw [hd] at hcl
     clear HF HI
     go_upto_region 3 with (fail)
     go_quiet (fail)
     have HJ4 := Aside0.mk (hJ g _ _ _ _ HJP.out (grown_of_below (pw_below_drewN (Below.refl _ _) nq) none) (by simp))
     have BG4 := Aside0.mk (blk_drewN BG.out nq)
     have BV4 := Aside0.mk (blk_drewN BV.out nq)
     obtain ⟨wq, hwq⟩ : ∃ wq : World, wq = wr.drewN nq := ⟨_, rfl⟩
     rw [← hwq] at HJ4 BG4 BV4 ⊢
     clear hwq hcl hz3 BG BV HJP
     have hcl : wq.cell? ⟨g, j, none⟩ = some (.int .i64 ((x.holds.length : Int) - 1)) := (blk_cell BG4.out j).trans (by rw [List.getElem?_toArray, List.getElem?_map, HG.out, hd]; rfl)
     have HSJ := Aside0.mk (hJs g _ _ j (.int .i64 (-1)) GE.out HJ4.out (by rw [hcl]; simp))
     have BG5 := Aside0.mk (blk_put BG4.out j (.int .i64 (-1)) ((map_set_int (curL t (j + 1)) j (-1)).trans (by rw [HC.out])))
     have BV5 := Aside0.mk (blk_far BV4.out (p := ⟨g, j, none⟩) (by have := HNV.out; have := GE.out; show gv ≠ g; omega) (.int .i64 (-1)))
     have hfz := blk_frozen BG4.out
     clear HG
     go_wp2
     go_roundg j
     case measure => omega
     case rel => exact ⟨j, by omega, Nat.le_refl _, rfl, HFB, HSJ, BG5, BV5⟩
    ·
     have HNX := Aside0.mk (next_at t _ j hjl HF.out hd)
     have hdi := HI.out
     clear HF HI
     generalize t.getD j 0 = d at *
     have hdb : (d == (x.holds.length : Int) - 1) = false := beq_eq_false_iff_ne.2 hd
     go_upto_region 3 with (fail)
     go_quiet (fail)
     have HJ4 := Aside0.mk (hJ g _ _ _ _ HJP.out (grown_of_below (pw_below_drewN (Below.refl _ _) nq) none) (by simp))
     have BG4 := Aside0.mk (blk_drewN BG.out nq)
     have BV4 := Aside0.mk (blk_drewN BV.out nq)
     obtain ⟨wq, hwq⟩ : ∃ wq : World, wq = wr.drewN nq := ⟨_, rfl⟩
     rw [← hwq] at HJ4 BG4 BV4 ⊢
     have hcq : wq.cell? ⟨g, j, none⟩ = some (.int .i64 d) := (blk_cell BG4.out j).trans (by rw [List.getElem?_toArray, List.getElem?_map, HG.out]; rfl)
     clear hwq hcl hz3 BG BV HJP
     have HSJ := Aside0.mk (hJs g _ _ j (.int .i64 (d + 1)) GE.out HJ4.out (by rw [hcq]; simp))
     have BG5 := Aside0.mk (blk_put BG4.out j (.int .i64 (d + 1)) (map_set_int (curL t (j + 1)) j (d + 1)))
     have BV5 := Aside0.mk (blk_far BV4.out (p := ⟨g, j, none⟩) (by have := HNV.out; have := GE.out; show gv ≠ g; omega) (.int .i64 (d + 1)))
     have hfz := blk_frozen BG4.out
     have HK1 := Aside0.mk (HN.out.symm.trans HNX.out)
     have HLK := Aside0.mk (List.getElem?_eq_some_iff.1 HK1.out).1
     have HMO := Aside0.mk (enum_more v HPR.out HTK.out)
     have hgx := HLK.out
     clear HG
     go_wp2
     refine wpIn_wide.2 ?_
     go_wp2
     go_roundg (T.length - (k + 2))
     case measure => omega
     case rel => exact ⟨k + 1, _, _, HLK.out, by omega, HMO, HK1, HSJ, BG5, BV5⟩
end Go.Proofs.Ytodmemndaaiolaa.PC7
namespace Go.Proofs.Ytodmemndaaiolaa.PC7
set_option linter.unusedVariables false
open Go.RowKit Go.Proofs.YtodmemndaaiolaaW.PrintLast
section
variable {P : Program} {ops : Array Oper} {Q : Exit → Act → World → Prop} {md : Region.Mode} {S : World → Prop} {ds : List Nat} {l n : Nat}
theorem opIn_of_wp {o : Oper} {a : Act} {w : World} {K : Act → World → Prop} (hd : ∀ c, o.op ≠ .defer c) (h : o.wp P a w K Q) : o.wpIn (Fence.wide.inRound l) n P a w K Q := by
  refine ⟨fun _ _ => trivial, ?_⟩
  rw [Oper.semAt_eq _ _ _ hd]
  unfold Oper.wp at h
  have hdep : (Fence.wide.inRound l).depth.isSome = true → 1 ≤ n := fun hh => by simp [Fence.wide, Fence.inRound] at hh
  generalize (execOp a.eval o).run P w = r at h ⊢
  cases r with
  | ok x w' =>
    cases x with
    | value v => exact h
    | skip => exact h
    | defer d => exact h
    | enter f args => exact ⟨hdep, (callsIn_wide.2 h).inRound l⟩
    | row row args =>
      refine ⟨hdep, fun c cs _ => ?_⟩
      obtain ⟨v, w2, hr, hs⟩ := h c cs
      exact ⟨v, w2, hr, stepsIn_wide.2 hs⟩
    | round l' f tmps assign body => exact h.elim
    | _ => exact h.elim
  | halt x w' =>
    cases x with
    | panic v => exact h
    | _ => exact h.elim
theorem opIn_of {i : Nat} {a : Act} {w : World} {K : Act → World → Prop} (hd : ∀ o, ops[i]? = some o → ∀ c, o.op ≠ .defer c) (hL : ¬ LetsOut Q) (h : wpOp P ops Q i K a w) : wpOpIn (Fence.wide.inRound l) n P ops Q i K a w := by
  unfold wpOp at h
  unfold wpOpIn
  cases ho : ops[i]? with
  | none => rw [ho] at h; exact h
  | some o =>
    rw [ho] at h
    simp only at h ⊢
    by_cases hw : Region.wanted o (yielded ops a.tmps) = true
    · rw [if_pos hw] at h ⊢
      rcases h with h | ⟨_, h⟩
      · exact opIn_of_wp (hd o ho) h
      · exact absurd h hL
    · rw [if_neg hw] at h ⊢
      exact ⟨fun _ _ => trivial, h⟩
theorem anyIn_of (hd : ∀ (i : Nat) (o : Oper), ops[i]? = some o → ∀ c, o.op ≠ .defer c) (hL : ¬ LetsOut Q) : ∀ (fuel : Nat) (listed : Array Bool) (a : Act) (w : World), wpAny P md ops Q fuel listed a w → wpAnyIn (Fence.wide.inRound l) n P md ops Q fuel listed a w
  | 0, _, _, _, h => h
  | fuel + 1, listed, a, w, h => ⟨h.1, fun i hi => opIn_of (hd i) hL (wpOp_mono (fun a' w' h' => anyIn_of hd hL fuel _ a' w' h') (h.2 i hi))⟩
def noDefer (ops : Array Oper) : Bool := ops.all fun o => match o.op with | .defer _ => false | _ => true
theorem noDefer_spec (h : noDefer ops = true) : ∀ (i : Nat) (o : Oper), ops[i]? = some o → ∀ c, o.op ≠ .defer c := by
  intro i o ho c hc
  have := Array.all_eq_true_iff_forall_mem.1 h o (Array.mem_of_getElem? ho)
  rw [hc] at this
  cases this
theorem startR_ {id m : Nat} {a : Act} {w : World} (l₀ : Array Bool) (hdf : noDefer ops = true) (hL : ¬ LetsOut Q) (hm : P.follows .mixedOrders = true) (hn : ops.size = m) (hl : Array.replicate m false = l₀) (hS : S w.drew)
    (h : S w.drew → wpAnyLast P .any ops Q S ds m l₀ a w.drew) : (Code.region id ops true).wpIn (Fence.wide.inRound l) n P Q a w := by
  subst hn
  subst hl
  exact wpIn_region_any hm (anyIn_of (noDefer_spec hdf) hL _ _ _ _ (wpAny_of_last _ _ _ _ (h hS)))
end
end Go.Proofs.Ytodmemndaaiolaa.PC7
