/- Lemmas on the way to this: Whether a barge passes and when it is over its sills is said alike by the program and by the reference, for any voyage and stowage that are not too wide and for ones made of numbers, and nothing is changed. -/
import Derived.Test.YtodmemndaaiolaaCShipSails4
import Derived.Test.YtodmemndaaiolaaCShipSails2
import Derived.Test.YtodmemndaaiolaaCShipSails3
import Derived.BigQuiet
import Derived.Outline
import Derived.RegionTactic
import Derived.BigRegion
import Derived.ChangeAlike
import Derived.Deep.DeepCutAuto
import Derived.Deep.CutRange
import Derived.Sort.LoopGhostIn
import Derived.Sort.CutIn
import Derived.ChangeKeysEq
import Derived.Laws.StructEq
import Derived.Test.YtodmemndaaiolaaCShipSails1
import Derived.SizedLaws
import Derived.ChangeSlices
import Derived.Deep.Slices
import Derived.Deep.Fields
import Derived.ChangeSame
import Derived.Lib.SmallJoins
namespace Go.Proofs.Ytodmemndaaiolaa.PC7
set_option linter.unusedVariables false
set_option linter.unusedSimpArgs false
open Go.RowKit Go.Shelf Go.Proofs.YtodmemndaaiolaaW.PrintWords Go.Proofs.YtodmemndaaiolaaW.PrintLast Go.Proofs.YtodmemndaaiolaaW.PrintMore
section
variable (light under trim : Int) (holds : List S85) (leaves : Int) (sills : List S59) (lots : List S79)
noncomputable def chkE : Option Int := limO fun k => ship_Check.f k light under trim holds leaves sills lots
noncomputable def chkS (s : List Int) : Option Int := limO fun k => ship_checkStowage.f k light under trim holds leaves sills lots s
noncomputable def apartE (s : List Int) : Option (Int × Int) := limO fun k => ship_apart.f k light under trim holds leaves sills lots s
noncomputable def levelE (y z : Int) : Option Bool := limO fun k => ship_level.f k light under trim holds leaves sills lots y z
noncomputable def goodO (s : List Int) : Option Bool :=
  (chkS light under trim holds leaves sills lots s).bind fun e => if e = 0 then (apartE light under trim holds leaves sills lots s).bind fun x => (levelE light under trim holds leaves sills lots x.1 x.2).bind fun b =>
    if b = true then (ladenO light holds lots s).bind fun q => some (!decide ((sailO under leaves sills q false).length < sills.length)) else some false else some false
noncomputable def goodB (s : List Int) : Bool := (goodO light under trim holds leaves sills lots s).getD false
end
theorem goodO_some (light under trim : Int) (holds : List S85) (leaves : Int) (sills : List S59) (lots : List S79) (s : List Int) (h : (goodO light under trim holds leaves sills lots s).isSome = true) : goodO light under trim holds leaves sills lots s = some (goodB light under trim holds leaves sills lots s) := by
  unfold goodB
  cases hg : goodO light under trim holds leaves sills lots s with
  | none => rw [hg] at h; cases h
  | some b => rfl
def worthGo (lots : List S79) : Nat → List Int → Int → Int
  | _, [], a => a
  | i, h :: t, a => worthGo lots (i + 1) t (if 0 ≤ h then wrap64 (a + (lots.getD i z79).f1) else a)
def bestOf (good : List Int → Bool) (worth : List Int → Int) (L : List (List Int)) (b : List Int × Int) : List Int × Int := L.foldl (fun b t => if good t = true then (if b.2 < worth t then (t, worth t) else b) else b) b
theorem bestOf_snoc (good : List Int → Bool) (worth : List Int → Int) (L : List (List Int)) (b : List Int × Int) (t : List Int) : bestOf good worth (L ++ [t]) b = if good t = true then (if (bestOf good worth L b).2 < worth t then (t, worth t) else bestOf good worth L b) else bestOf good worth L b := by
  unfold bestOf
  rw [List.foldl_append]
  rfl
open Classical in
noncomputable def ship_Best.f (a0_0 : Int) (a0_1 : Int) (a0_2 : Int) (l0_3 : List (S85)) (a0_4 : Int) (l0_5 : List (S59)) (l0_6 : List (S79)) : Option (List Int × Int × Int) :=
  (chkE a0_0 a0_1 a0_2 l0_3 a0_4 l0_5 l0_6).bind fun e => if e = 0 then (if l0_3.length ≤ 100 ∧ l0_6.length ≤ 6 ∧ lensOK l0_5 ∧ (∀ t, t ∈ stowsL l0_3.length l0_6.length → (goodO a0_0 a0_1 a0_2 l0_3 a0_4 l0_5 l0_6 t).isSome = true) then
    some ((bestOf (goodB a0_0 a0_1 a0_2 l0_3 a0_4 l0_5 l0_6) (fun t => worthGo l0_6 0 t 0) (stowsL l0_3.length l0_6.length) ([], -1)).1, (bestOf (goodB a0_0 a0_1 a0_2 l0_3 a0_4 l0_5 l0_6) (fun t => worthGo l0_6 0 t 0) (stowsL l0_3.length l0_6.length) ([], -1)).2, 0) else none) else some ([], 0, e)
theorem R_kept {k : IntKind} {e : Nat} {W W1 : World} {base : Nat} {v : Value} {xs : List Int} (h : Kd.R (Kd.int k) e W base (fun _ => True) v xs)
    (hm : ∀ b, base ≤ b → (∃ (cells : Array Value) (t : TypeId), W.heap[b]? = some (.cells cells t (0, 0)) ∧ t = e) → W1.heap[b]? = W.heap[b]?) : Kd.R (Kd.int k) e W1 base (fun _ => True) v xs := by
  refine Kd.R_mono (Kd.R_step (Kd.R_bound h) (fun b hb hlt => ?_)) (fun _ _ => trivial)
  obtain ⟨_, h1, _, q, hq, cells, hc⟩ := hb
  exact hm b h1 ⟨cells, _, hc, by simpa [Kd.int, Kd.scalar] using hq⟩
def BestI (w0 : World) (g6 gb : Nat) (cs : Array Value) (good : List Int → Bool) (worth : List Int → Int) (b : Nat) (pre : List (Value × List Int)) (W : World) : Prop :=
  ∃ A n c, W.heap[g6]? = some (.cells #[.slice A n c, .int .i64 (bestOf good worth (pre.map (·.2)) ([], -1)).2] 104 (0, 0)) ∧ (∃ base, w0.heap.size ≤ base ∧ b < base ∧ Kd.R (Kd.int .i64) 3 W base (fun _ => True) (.slice A n c) (bestOf good worth (pre.map (·.2)) ([], -1)).1) ∧
    W.heap[gb]? = some (.cells cs 26 (0, 0)) ∧ Below w0.heap.size w0 W
theorem BestI.own {w0 : World} {g6 gb B : Nat} {cs : Array Value} {good : List Int → Bool} {worth : List Int → Int} (hB : w0.heap.size ≤ B) (b : Nat) : OwnFrom B (BestI w0 g6 gb cs good worth b) := by
  intro s W W' row hs hg hr
  obtain ⟨A, n, c, h1, ⟨base, hb1, hb2, h2⟩, h3, h4⟩ := hs
  have hno : ∀ {k : Nat} {cells : Array Value} {t : TypeId}, W.heap[k]? = some (.cells cells t (0, 0)) → W'.heap[k]? = W.heap[k]? := fun {k cells t} hk => hg.block k (blk_lt hk) (fun e => by
    obtain ⟨_, o, ho, hc⟩ := hr k e.symm
    rw [hk] at ho; cases ho; cases hc)
  refine ⟨A, n, c, (hno h1).trans h1, ⟨base, hb1, hb2, R_kept h2 fun k _ ⟨cells, t, hk, _⟩ => hno hk⟩, (hno h3).trans h3, ?_⟩
  exact (ownFrom_below (β := List (Value × List Int)) (Nat.le_refl _) hB) s W W' row h4 hg hr
theorem BestI.set {w0 : World} {g6 gb B : Nat} {cs : Array Value} {good : List Int → Bool} {worth : List Int → Int} (hB : w0.heap.size ≤ B) (h6 : g6 < B) (hb : gb < B) (b : Nat) (pre : List (Value × List Int)) (W : World) (i : Nat) (v : Value) (hbB : B ≤ b)
    (hs : BestI w0 g6 gb cs good worth b pre W) : BestI w0 g6 gb cs good worth b pre (W.setCell ⟨b, i, none⟩ v) := by
  obtain ⟨A, n, c, h1, ⟨base, hb1, hb2, h2⟩, h3, h4⟩ := hs
  refine ⟨A, n, c, (Below.heap_setCell _ _ _ _ (by show g6 ≠ b; omega)).trans h1, ⟨base, hb1, hb2, R_kept h2 fun k hk _ => Below.heap_setCell _ _ _ _ (by show k ≠ b; omega)⟩, (Below.heap_setCell _ _ _ _ (by show gb ≠ b; omega)).trans h3, below_set h4 (by show w0.heap.size ≤ b; omega)⟩
theorem keeps_of_below {W W' : World} (h : Below W.heap.size W W') : KeepsOthers W W' := ⟨h.size, fun k o hk _ => (h.block k (Array.getElem?_eq_some_iff.1 hk).1).trans hk⟩
theorem kpB_of_below {g : Nat} {W W' : World} (h : Below W.heap.size W W') : KpB g W W' := fun k o _ hk _ => (h.block k (Array.getElem?_eq_some_iff.1 hk).1).trans hk
theorem kpB_set {g i : Nat} {v : Value} (W : World) : KpB g W (W.setCell ⟨g, i, none⟩ v) := fun k o hk h _ => (Below.heap_setCell _ _ _ _ hk).trans h
theorem kpB_trans {g : Nat} {A B C : World} (h : KpB g A B) (k : KpB g B C) : KpB g A C := fun b o hb hA hc => k b o hb (h b o hb hA hc) hc
theorem kpB_obj {g : Nat} (W : World) (l : Nat) (o o' : Obj) (hl : W.heap[l]? = some o) (hc : o.isCells = false) : KpB g W (W.putObj l o') := fun b o2 _ h h2 => by
  have : b ≠ l := fun e => by subst e; rw [hl] at h; cases h; rw [hc] at h2; cases h2
  exact (World.putObj_heap_other this).trans h
theorem rxS_obj (n₀ : Nat) (L : List (List Int)) (b : Nat) (x : Value × List Int) (W : World) (l : Nat) (o o' : Obj) (hl : W.heap[l]? = some o) (hc : o.isCells = false) (h : RxS n₀ L b x W) : RxS n₀ L b x (W.putObj l o') := by
  obtain ⟨hm, base, h1, h2, hr⟩ := h
  refine ⟨hm, base, h1, h2, R_kept hr fun k _ ⟨cells, t, hk, _⟩ => World.putObj_heap_other (fun e => ?_)⟩
  subst e; rw [hl] at hk; cases hk; cases hc
theorem BestI.first {w0 W : World} {g6 gb : Nat} {cs : Array Value} {good : List Int → Bool} {worth : List Int → Int} (b : Nat) (hb : w0.heap.size ≤ b) (h6 : W.heap[g6]? = some (.cells #[.slice none 0 0, .int .i64 (-1)] 104 (0, 0))) (hk : W.heap[gb]? = some (.cells cs 26 (0, 0))) (hB : Below w0.heap.size w0 W) :
    BestI w0 g6 gb cs good worth b [] W := ⟨none, 0, 0, h6, ⟨b + 1, by omega, by omega, R_of_owns .i64 (World.ownsRow_nil _ _ _ _)⟩, hk, hB⟩
theorem BestI.below {w0 W W' : World} {g6 gb b : Nat} {cs : Array Value} {good : List Int → Bool} {worth : List Int → Int} {pre : List (Value × List Int)} {v : Value} {t : List Int} (h : BestI w0 g6 gb cs good worth b pre W) (hB : Below W.heap.size W W')
    (hp : good t = false) : BestI w0 g6 gb cs good worth b (pre ++ [(v, t)]) W' := by
  obtain ⟨A, n, c, h1, ⟨base, hb1, hb2, h2⟩, h3, h4⟩ := h
  have hno : ∀ {k : Nat} {cells : Array Value} {t : TypeId}, W.heap[k]? = some (.cells cells t (0, 0)) → W'.heap[k]? = W.heap[k]? := fun {k cells t} hk => hB.block k (blk_lt hk)
  have e : bestOf good worth ((pre ++ [(v, t)]).map (·.2)) ([], -1) = bestOf good worth (pre.map (·.2)) ([], -1) := by
    rw [List.map_append]; show bestOf good worth (pre.map (·.2) ++ [t]) _ = _; rw [bestOf_snoc, if_neg (by rw [hp]; simp)]
  refine ⟨A, n, c, by rw [e]; exact (hno h1).trans h1, ⟨base, hb1, hb2, by rw [e]; exact R_kept h2 fun k _ ⟨cells, t, hk, _⟩ => hno hk⟩, (hno h3).trans h3, h4.trans (hB.mono h4.size)⟩
theorem BestI.weighed {w0 W W' : World} {g6 gb b : Nat} {cs : Array Value} {good : List Int → Bool} {worth : List Int → Int} {pre : List (Value × List Int)} {t : List Int} {A : Option Addr} {n c : Nat} {At : Option Addr} {nt ct : Nat}
    (h1 : W.heap[g6]? = some (.cells #[.slice A n c, .int .i64 (bestOf good worth (pre.map (·.2)) ([], -1)).2] 104 (0, 0)))
    (h2 : ∃ base, w0.heap.size ≤ base ∧ b < base ∧ Kd.R (Kd.int .i64) 3 W base (fun _ => True) (.slice A n c) (bestOf good worth (pre.map (·.2)) ([], -1)).1)
    (ht : ∃ base, w0.heap.size ≤ base ∧ b < base ∧ Kd.R (Kd.int .i64) 3 W base (fun _ => True) (.slice At nt ct) t)
    (h3 : W.heap[gb]? = some (.cells cs 26 (0, 0))) (h4 : Below w0.heap.size w0 W) (hg6 : w0.heap.size ≤ g6) (hne : gb ≠ g6) (hB : Below W.heap.size W W') (hp : good t = true) (v : Value) (u : Value)
    (hu : u = if (bestOf good worth (pre.map (·.2)) ([], -1)).2 < worth t then .agg #[.slice At nt ct, .int .i64 (worth t)] else .agg #[.slice A n c, .int .i64 (bestOf good worth (pre.map (·.2)) ([], -1)).2]) :
    ∃ A' n' c' y, u = .agg #[.slice A' n' c', .int .i64 y] ∧
      BestI w0 g6 gb cs good worth b (pre ++ [(v, t)]) ((W'.setCell ⟨g6, 0, none⟩ (.slice A' n' c')).setCell ⟨g6, 1, none⟩ (.int .i64 y)) ∧
      KeepsOthers W ((W'.setCell ⟨g6, 0, none⟩ (.slice A' n' c')).setCell ⟨g6, 1, none⟩ (.int .i64 y)) ∧ KpB g6 W ((W'.setCell ⟨g6, 0, none⟩ (.slice A' n' c')).setCell ⟨g6, 1, none⟩ (.int .i64 y)) := by
  have hno : ∀ {k : Nat} {cells : Array Value} {t : TypeId}, W.heap[k]? = some (.cells cells t (0, 0)) → W'.heap[k]? = W.heap[k]? := fun {k cells t} hk => hB.block k (blk_lt hk)
  have e : bestOf good worth ((pre ++ [(v, t)]).map (·.2)) ([], -1) = if (bestOf good worth (pre.map (·.2)) ([], -1)).2 < worth t then (t, worth t) else bestOf good worth (pre.map (·.2)) ([], -1) := by
    rw [List.map_append]; show bestOf good worth (pre.map (·.2) ++ [t]) _ = _; rw [bestOf_snoc, if_pos hp]
  have key : ∀ (A' : Option Addr) (n' c' : Nat) (l : List Int) (y : Int), (∃ base, w0.heap.size ≤ base ∧ b < base ∧ Kd.R (Kd.int .i64) 3 W base (fun _ => True) (.slice A' n' c') l) → bestOf good worth ((pre ++ [(v, t)]).map (·.2)) ([], -1) = (l, y) →
      BestI w0 g6 gb cs good worth b (pre ++ [(v, t)]) ((W'.setCell ⟨g6, 0, none⟩ (.slice A' n' c')).setCell ⟨g6, 1, none⟩ (.int .i64 y)) ∧
      KeepsOthers W ((W'.setCell ⟨g6, 0, none⟩ (.slice A' n' c')).setCell ⟨g6, 1, none⟩ (.int .i64 y)) ∧ KpB g6 W ((W'.setCell ⟨g6, 0, none⟩ (.slice A' n' c')).setCell ⟨g6, 1, none⟩ (.int .i64 y)) := by
    rintro A' n' c' l y ⟨base, hb1, hb2, hr⟩ he
    refine ⟨⟨A', n', c', ?_, ⟨base, hb1, hb2, ?_⟩, ?_, ?_⟩, ((keeps_of_below hB).trans (KeepsOthers.setCell _ _ _)).trans (KeepsOthers.setCell _ _ _), kpB_trans (kpB_trans (kpB_of_below hB) (kpB_set _)) (kpB_set _)⟩
    · rw [he]; exact blk_put (cs' := #[.slice A' n' c', .int .i64 y]) (blk_set ((hno h1).trans h1) 0 (.slice A' n' c')) 1 (.int .i64 y) rfl
    · rw [he]
      refine R_kept hr fun k _ ⟨cells, t', hk, ht3⟩ => ?_
      by_cases hk6 : k = g6
      · subst hk6
        rw [h1] at hk
        injection hk with hk
        injection hk with _ hk
        exact absurd (hk.trans ht3) (by decide)
      · exact ((Below.heap_setCell _ _ _ _ hk6).trans (Below.heap_setCell _ _ _ _ hk6)).trans (hno hk)
    · exact blk_far (blk_far ((hno h3).trans h3) (p := ⟨g6, 0, none⟩) hne _) (p := ⟨g6, 1, none⟩) hne _
    · exact below_set (below_set (h4.trans (hB.mono h4.size)) hg6) hg6
  by_cases hlt : (bestOf good worth (pre.map (·.2)) ([], -1)).2 < worth t
  · rw [if_pos hlt] at hu e
    exact ⟨At, nt, ct, worth t, hu, key _ _ _ t _ ht e⟩
  · rw [if_neg hlt] at hu e
    exact ⟨A, n, c, _, hu, key _ _ _ _ _ h2 (e.trans rfl)⟩
end Go.Proofs.Ytodmemndaaiolaa.PC7
namespace Go.Proofs.Ytodmemndaaiolaa.PC7
set_option linter.unusedVariables false
set_option linter.unusedSimpArgs false
open Go.RowKit Go.Proofs.YtodmemndaaiolaaW.PrintWords Go.Proofs.YtodmemndaaiolaaW.PrintLast Go.Proofs.YtodmemndaaiolaaW.PrintMore
set_option maxHeartbeats 8000000 in
set_option maxRecDepth 100000 in
theorem stowages_calls (x : VoyV) (w : World) :
  Calls Try.prog 62 #[.agg #[.int .i64 x.light, .int .i64 x.under, .int .i64 x.trim, .slice x.A3 x.holds.length x.c3, .int .i64 x.leaves, .slice x.A5 x.sills.length x.c5, .slice x.A6 x.lots.length x.c6]] w fun e w' => ∃ gv, e = .returned (.func (.func 82) #[] #[.pointer (some ⟨gv, 0, none⟩)]) ∧ w.heap.size ≤ gv ∧ w'.heap[gv]? = some (.cells #[.int .i64 x.light, .int .i64 x.under, .int .i64 x.trim, .slice x.A3 x.holds.length x.c3, .int .i64 x.leaves, .slice x.A5 x.sills.length x.c5, .slice x.A6 x.lots.length x.c6] 26 (0, 0)) ∧ Below w.heap.size w w' := by
 have hu26 := Try.underlying26
 have hmf : ∀ (fn : Fn) (first cap : Array Value) (w : World), (Instr.makeFunc fn first cap).run Try.prog w = .ok (.func fn first cap) w := fun _ _ _ _ => rfl
 go_enter Try.func62, Try.ntmps62
 go_wp2_with ((refine box_r (N := 1) rfl (cs := #[.int .i64 x.light, .int .i64 x.under, .int .i64 x.trim, .slice x.A3 x.holds.length x.c3, .int .i64 x.leaves, .slice x.A5 x.sills.length x.c5, .slice x.A6 x.lots.length x.c6]) (t := 26) ?_; intro gb hg w2 hbox hb; have BK := Aside0.mk hbox; have HB := Aside0.mk hb; have GE : Aside0 (w.heap.size ≤ gb) := ⟨Nat.le_of_eq hg.symm⟩; clear hg hbox hb))
 go_ret
 exact ⟨gb, rfl, GE.out, BK.out, HB.out⟩
set_option maxHeartbeats 8000000 in
set_option maxRecDepth 100000 in
theorem more_calls (Ab : Option Addr) (nb cb : Nat) (b : Int) (Aa : Option Addr) (na ca : Nat) (a : Int) (w : World) :
  Calls Try.prog 67 #[.agg #[.slice Ab nb cb, .int .i64 b], .agg #[.slice Aa na ca, .int .i64 a]] w fun e w' => e = .returned (.bool (decide (a < b))) ∧ Below w.heap.size w w' := by
 have hu104 := Try.underlying104
 go_enter Try.func67, Try.ntmps67
 go_wp2_with (first
  | (refine box_r (N := 2) rfl (cs := #[.slice Ab nb cb, .int .i64 b]) (t := 104) ?_; intro g2 hg w2 hbox hb; have B2 := Aside0.mk hbox; have HB := Aside0.mk hb; clear hg hbox hb)
  | (refine box_r (N := 3) rfl (cs := #[.slice Aa na ca, .int .i64 a]) (t := 104) ?_; intro g3 hg w3 hbox hb; have B3 := Aside0.mk hbox; replace B2 := Aside0.mk (blk_below B2.out hb); replace HB := Aside0.mk (below_step HB.out hb); have hz2_ := (blk_cell B2.out 1).trans rfl; have hz3_ := (blk_cell B3.out 1).trans rfl; clear hg hbox hb))
 go_ret
 exact ⟨rfl, HB.out⟩
set_option maxHeartbeats 8000000 in
set_option maxRecDepth 100000 in
theorem better_calls (Aa : Option Addr) (na ca : Nat) (a : Int) (Ab : Option Addr) (nb cb : Nat) (b : Int) (w : World) :
  Calls Try.prog 66 #[.agg #[.slice Aa na ca, .int .i64 a], .agg #[.slice Ab nb cb, .int .i64 b], .func (.func 67) #[] #[]] w fun e w' => e = .returned (if a < b then .agg #[.slice Ab nb cb, .int .i64 b] else .agg #[.slice Aa na ca, .int .i64 a]) ∧ Below w.heap.size w w' := by
 have hu104 := Try.underlying104
 go_enter Try.func66, Try.ntmps66
 go_wp2_with (first
  | (refine box_r (N := 3) rfl (cs := #[.slice Aa na ca, .int .i64 a]) (t := 104) ?_; intro g3 hg w2 hbox hb; have B3 := Aside0.mk hbox; have HB := Aside0.mk hb; clear hg hbox hb)
  | (refine box_r (N := 4) rfl (cs := #[.slice Ab nb cb, .int .i64 b]) (t := 104) ?_; intro g4 hg w3 hbox hb; have B4 := Aside0.mk hbox; replace B3 := Aside0.mk (blk_below B3.out hb); replace HB := Aside0.mk (below_step HB.out hb); clear hg hbox hb)
  | (refine box_r (N := 6) rfl (cs := #[.slice none 0 0, .int .i64 0]) (t := 104) ?_; intro g6 hg w4 hbox hb; have B6 := Aside0.mk hbox; have GE6 : Aside0 (w.heap.size ≤ g6) := ⟨by rw [hg]; exact HB.out.size⟩; have N3 : Aside0 (g6 ≠ g3) := ⟨by have := blk_lt B3.out; omega⟩; have N4 : Aside0 (g6 ≠ g4) := ⟨by have := blk_lt B4.out; omega⟩; replace B3 := Aside0.mk (blk_below B3.out hb); replace B4 := Aside0.mk (blk_below B4.out hb); replace HB := Aside0.mk (below_step HB.out hb); have hz3_ := (blk_cell B3.out 0).trans rfl; have hz31_ := (blk_cell B3.out 1).trans rfl; have hz4_ := (blk_cell B4.out 0).trans rfl; have hz41_ := (blk_cell B4.out 1).trans rfl; clear hg hbox hb))
 refine (more_calls Ab nb cb b Aa na ca a w4).mono ?_
 rintro e w5 ⟨rfl, hb5⟩
 replace B3 := Aside0.mk (blk_below B3.out hb5)
 replace B4 := Aside0.mk (blk_below B4.out hb5)
 replace B6 := Aside0.mk (blk_below B6.out hb5)
 replace HB := Aside0.mk (below_step HB.out hb5)
 clear hb5 hz3_ hz31_ hz4_ hz41_
 have hz3_ : w5.cell? ⟨g3, 0, none⟩ = some (.slice Aa na ca) := (blk_cell B3.out 0).trans rfl
 have hz31_ : w5.cell? ⟨g3, 1, none⟩ = some (.int .i64 a) := (blk_cell B3.out 1).trans rfl
 have hz4_ : w5.cell? ⟨g4, 0, none⟩ = some (.slice Ab nb cb) := (blk_cell B4.out 0).trans rfl
 have hz41_ : w5.cell? ⟨g4, 1, none⟩ = some (.int .i64 b) := (blk_cell B4.out 1).trans rfl
 have hz6_ : w5.cell? ⟨g6, 0, none⟩ = some (.slice none 0 0) := (blk_cell B6.out 0).trans rfl
 have hz61_ : w5.cell? ⟨g6, 1, none⟩ = some (.int .i64 0) := (blk_cell B6.out 1).trans rfl
 have hf6_ := blk_frozen B6.out
 have P : ∀ (A : Option Addr) (n c : Nat) (y : Int), Aside0 ((((w5.setCell ⟨g6, 0, none⟩ (.slice A n c)).setCell ⟨g6, 1, none⟩ (.int .i64 y)).heap[g6]? = some (.cells #[.slice A n c, .int .i64 y] 104 (0, 0))) ∧ Below w.heap.size w ((w5.setCell ⟨g6, 0, none⟩ (.slice A n c)).setCell ⟨g6, 1, none⟩ (.int .i64 y))) := fun A n c y =>
  ⟨blk_put (cs' := #[.slice A n c, .int .i64 y]) (blk_set B6.out 0 (.slice A n c)) 1 (.int .i64 y) rfl, below_set (below_set HB.out GE6.out) GE6.out⟩
 by_cases hab : a < b
 ·
  have P1 := P Ab nb cb b; clear P; have hz : decide (a < b) = true := decide_eq_true hab; go_wp2; have hq0 := (blk_cell P1.out.1 0).trans rfl; have hq1 := (blk_cell P1.out.1 1).trans rfl; refine bodyPost_ret (v := .agg #[.slice Ab nb cb, .int .i64 b]) ?_ rfl ?_
  ·
   simp [results, Try.results66, go_sem, hq0, hq1]
  ·
   exact ⟨by first | rfl | rw [if_pos hab], P1.out.2⟩
 ·
  have P1 := P Aa na ca a; clear P; have hz : decide (a < b) = false := decide_eq_false hab; go_wp2; have hq0 := (blk_cell P1.out.1 0).trans rfl; have hq1 := (blk_cell P1.out.1 1).trans rfl; refine bodyPost_ret (v := .agg #[.slice Aa na ca, .int .i64 a]) ?_ rfl ?_
  ·
   simp [results, Try.results66, go_sem, hq0, hq1]
  ·
   exact ⟨by first | rfl | rw [if_neg (by omega)], P1.out.2⟩
end Go.Proofs.Ytodmemndaaiolaa.PC7
namespace Go.Proofs.Ytodmemndaaiolaa.PC7
set_option linter.unusedVariables false
set_option linter.unusedSimpArgs false
open Go.RowKit Go.Proofs.YtodmemndaaiolaaW.PrintWords Go.Proofs.YtodmemndaaiolaaW.PrintLast Go.Proofs.YtodmemndaaiolaaW.PrintMore
open Go.Shelf
attribute [local go_sem] Oper.semAt_some
set_option maxHeartbeats 8000000 in
set_option maxRecDepth 100000 in
theorem best_calls (x : VoyV) (r1 : List Int) (r2 r3 : Int) (w : World) (hx : x.Ok w) (h : ship_Best.f x.light x.under x.trim x.holds x.leaves x.sills x.lots = some (r1, r2, r3)) :
  Calls Try.prog 28 #[.agg #[.int .i64 x.light, .int .i64 x.under, .int .i64 x.trim, .slice x.A3 x.holds.length x.c3, .int .i64 x.leaves, .slice x.A5 x.sills.length x.c5, .slice x.A6 x.lots.length x.c6]] w fun e w' => ∃ v0_ : Value, e = .returned (.tuple #[v0_, .int .i64 r2, .int .i64 r3]) ∧ Kd.R (Kd.int .i64) 3 w' w.heap.size (fun _ => True) v0_ r1 ∧ Below w.heap.size w w' := by
 have hu26 := Try.underlying26
 have hu104 := Try.underlying104
 have hu56 := Try.underlying56
 unfold ship_Best.f at h
 replace h := Option.bind_eq_some_iff.1 h
 obtain ⟨er, hst0, h⟩ := h
 obtain ⟨ks, hst⟩ := limO_ev hst0
 clear hst0
 have HX := Aside0.mk hx
 have HST := Aside0.mk hst
 have H := Aside0.mk h
 clear hx hst h
 refine (callsIn_wide (n := 6)).1 ?_
 refine callsIn_of_wp_marks Try.func28 rfl trivial ?_ rfl
 simp only [Try.ntmps28, List.size_toArray, List.length_cons, List.length_nil, Nat.reduceAdd, Nat.reduceSub, Array.replicate_succ, Array.replicate_zero, List.push_toArray, List.append_toArray, List.nil_append, List.cons_append]
 refine wpIn_wide.2 ?_
 go_wp2_with ((refine box_r (N := 1) rfl (cs := #[.int .i64 x.light, .int .i64 x.under, .int .i64 x.trim, .slice x.A3 x.holds.length x.c3, .int .i64 x.leaves, .slice x.A5 x.sills.length x.c5, .slice x.A6 x.lots.length x.c6]) (t := 26) ?_; intro gb hg w2 hbox hb; have BK := Aside0.mk hbox; have HB := Aside0.mk hb; have GE : Aside0 (w.heap.size ≤ gb) := ⟨Nat.le_of_eq hg.symm⟩; have hz0_ := (blk_cell BK.out 0).trans rfl; have hz1_ := (blk_cell BK.out 1).trans rfl; have hz2_ := (blk_cell BK.out 2).trans rfl; have hz3_ := (blk_cell BK.out 3).trans rfl; have hz4_ := (blk_cell BK.out 4).trans rfl; have hz5_ := (blk_cell BK.out 5).trans rfl; have hz6_ := (blk_cell BK.out 6).trans rfl; clear hg hbox hb))
 refine (ship_Check.calls ks x.light x.under x.trim x.A3 x.c3 x.holds x.leaves x.A5 x.c5 x.sills x.A6 x.c6 x.lots er w2 (HX.out.below HB.out).h (HX.out.below HB.out).hc (HX.out.below HB.out).s (HX.out.below HB.out).sc (HX.out.below HB.out).l (HX.out.below HB.out).lc HST.out).mono ?_
 rintro e w3 ⟨rfl, hb3⟩
 replace BK := Aside0.mk (blk_below BK.out hb3)
 replace HB := Aside0.mk (below_step HB.out hb3)
 clear hb3 hz0_ hz1_ hz2_ hz3_ hz4_ hz5_ hz6_
 by_cases her : er = 0
 case neg =>
  have hh := H.out; rw [if_neg her] at hh; have hnb : (er == 0) = false := beq_eq_false_iff_ne.2 her; simp only [Option.some.injEq, Prod.mk.injEq] at hh; obtain ⟨rfl, rfl, rfl⟩ := hh; clear her H; go_wp2; exact ⟨.tuple #[.slice none 0 0, .int .i64 0, .int .i64 er], by simp [results, Try.results28, go_sem], _, rfl, R_of_owns .i64 (World.ownsRow_nil _ _ _ _), HB.out⟩
 subst her
 have hh := H.out
 rw [if_pos rfl] at hh
 by_cases hc : x.holds.length ≤ 100 ∧ x.lots.length ≤ 6 ∧ lensOK x.sills ∧ (∀ t, t ∈ stowsL x.holds.length x.lots.length → (goodO x.light x.under x.trim x.holds x.leaves x.sills x.lots t).isSome = true)
 case neg => rw [if_neg hc] at hh; cases hh
 rw [if_pos hc] at hh
 obtain ⟨hH, hN, hLS, hGO⟩ := hc
 have HLN := Aside0.mk (SailLens.of hLS)
 have HGO := Aside0.mk hGO
 obtain ⟨good, hgood⟩ : ∃ g, g = goodB x.light x.under x.trim x.holds x.leaves x.sills x.lots := ⟨_, rfl⟩
 obtain ⟨worth, hworth⟩ : ∃ g : List Int → Int, g = fun t => worthGo x.lots 0 t 0 := ⟨_, rfl⟩
 rw [← hgood, ← hworth] at hh
 simp only [Option.some.injEq, Prod.mk.injEq] at hh
 have HH := Aside0.mk hh
 have HGD := Aside0.mk hgood
 have HWD := Aside0.mk hworth
 clear hh H hLS hGO hgood hworth
 go_upto_region 5 with (first
  | (refine box_r (N := 6) rfl (cs := #[.slice none 0 0, .int .i64 0]) (t := 104) ?_; intro g6 hg w4 hbox hb; have B6 := Aside0.mk hbox; have GE6 : Aside0 (w.heap.size ≤ g6) := ⟨by rw [hg]; exact HB.out.size⟩; have N6 : Aside0 (gb ≠ g6) := ⟨by have := blk_lt BK.out; omega⟩; replace BK := Aside0.mk (blk_below BK.out hb); replace HB := Aside0.mk (below_step HB.out hb); have hy0_ : w4.cell? ⟨g6, 0, none⟩ = some (.slice none 0 0) := (blk_cell B6.out 0).trans rfl; have hy1_ : w4.cell? ⟨g6, 1, none⟩ = some (.int .i64 0) := (blk_cell B6.out 1).trans rfl; have hfy_ := blk_frozen B6.out; clear hg hbox hb))
 have C6 := Aside0.mk (blk_put (cs' := #[.slice none 0 0, .int .i64 (-1)]) (blk_set B6.out 0 (.slice none 0 0)) 1 (.int .i64 (-1)) rfl)
 have CK := Aside0.mk (blk_far (blk_far BK.out (p := ⟨g6, 0, none⟩) N6.out (.slice none 0 0)) (p := ⟨g6, 1, none⟩) N6.out (.int .i64 (-1)))
 have CB : Aside0 (Below w.heap.size w ((w4.setCell ⟨g6, 0, none⟩ (.slice none 0 0)).setCell ⟨g6, 1, none⟩ (.int .i64 (-1)))) := ⟨below_set (below_set HB.out GE6.out) GE6.out⟩
 clear hy0_ hy1_ hfy_ B6 BK HB
 generalize (w4.setCell ⟨g6, 0, none⟩ (.slice none 0 0)).setCell ⟨g6, 1, none⟩ (.int .i64 (-1)) = w5 at *
 have hz0_ := (blk_cell CK.out 0).trans rfl
 have hz1_ := (blk_cell CK.out 1).trans rfl
 have hz2_ := (blk_cell CK.out 2).trans rfl
 have hz3_ := (blk_cell CK.out 3).trans rfl
 have hz4_ := (blk_cell CK.out 4).trans rfl
 have hz5_ := (blk_cell CK.out 5).trans rfl
 have hz6_ := (blk_cell CK.out 6).trans rfl
 go_wp2_with (fail)
 refine (stowages_calls x w5).mono ?_
 rintro e w6 ⟨gv, rfl, hgv, hbv, hb6⟩
 have BV := Aside0.mk hbv
 have NV : Aside0 (gv ≠ g6) := ⟨by have := blk_lt C6.out; omega⟩
 have LV := Aside0.mk (blk_lt C6.out)
 replace C6 := Aside0.mk (blk_below C6.out hb6)
 replace CK := Aside0.mk (blk_below CK.out hb6)
 replace CB := Aside0.mk (below_step CB.out hb6)
 clear hgv hbv hb6 hz0_ hz1_ hz2_ hz3_ hz4_ hz5_ hz6_
 go_wp2
 refine (wpIn_wide (n := 6)).1 ?_
 have LT6 := Aside0.mk (blk_lt C6.out)
 have LTK := Aside0.mk (blk_lt CK.out)
 refine range_gives (n := 6) (gf := 82) (lb := #[.pointer (some ⟨gv, 0, none⟩)]) (by decide) rfl (enters_of Try.func82 (by kernel_rfl) rfl)
  (stowages_gives 5 gv w.heap.size g6 (by decide) x w6 BV.out NV.out LT6.out hH hN CB.out.size) kpB_trans kpB_obj (rxS_obj _ _) (Below.refl _ _) (fun _ => rfl) (BestI w g6 gb #[.int .i64 x.light, .int .i64 x.under, .int .i64 x.trim, .slice x.A3 x.holds.length x.c3, .int .i64 x.leaves, .slice x.A5 x.sills.length x.c5, .slice x.A6 x.lots.length x.c6] good worth) (fun b => BestI.own CB.out.size b)
  (fun b pre A i v hb hi _ => BestI.set CB.out.size LT6.out LTK.out b pre A i v hb hi) (fun b hb => BestI.first b (Nat.le_trans CB.out.size hb) C6.out CK.out CB.out)
  (fun p => { tmps := List.toArray (.agg #[.int .i64 x.light, .int .i64 x.under, .int .i64 x.trim, .slice x.A3 x.holds.length x.c3, .int .i64 x.leaves, .slice x.A5 x.sills.length x.c5, .slice x.A6 x.lots.length x.c6] :: .pointer (some ⟨gb, 0, none⟩) :: .slice none 0 0 :: .int .i64 0 :: .int .i64 0 :: .int .i64 0 :: .pointer (some ⟨g6, 0, none⟩) :: p.1 :: undef :: undef :: undef :: .agg #[.int .i64 x.light, .int .i64 x.under, .int .i64 x.trim, .slice x.A3 x.holds.length x.c3, .int .i64 x.leaves, .slice x.A5 x.sills.length x.c5, .slice x.A6 x.lots.length x.c6] :: .int .i64 0 :: .int .i64 0 :: .bool false :: undef :: .agg #[.slice none 0 0, .int .i64 (-1)] :: .agg #[.int .i64 x.light, .int .i64 x.under, .int .i64 x.trim, .slice x.A3 x.holds.length x.c3, .int .i64 x.leaves, .slice x.A5 x.sills.length x.c5, .slice x.A6 x.lots.length x.c6] :: .func (.func 82) #[] #[.pointer (some ⟨gv, 0, none⟩)] :: p.1 :: undef :: undef :: undef :: undef :: undef :: undef :: undef :: undef :: undef :: undef :: undef :: undef :: undef :: undef :: undef :: undef :: undef :: undef :: undef :: undef :: undef :: undef :: undef :: undef :: undef :: undef :: undef :: undef :: undef :: undef :: undef :: undef :: undef :: undef :: undef :: undef :: undef :: undef :: undef :: undef :: undef :: undef :: undef :: undef :: undef :: undef :: undef :: undef :: undef :: undef :: undef :: undef :: []), defers := [] }) ?assign ?body ?done
 case assign =>
  intro l p W K hK; unfold encStow
  gi_wp2
  exact hK
 case body =>
  rintro l b pre ⟨v, t⟩ W hb ⟨A, n, c, h6, hR, hbk, hB⟩ ⟨hmem, hR2⟩; obtain ⟨base2, hn2, hlt2, hRv⟩ := hR2; replace hRv : Kd.R (Kd.int .i64) 3 W base2 (fun _ => True) v t := hRv; replace hmem : t ∈ stowsL x.holds.length x.lots.length := hmem; dsimp only; obtain ⟨Av, cv, hv⟩ := Kd.R_slice hRv; subst hv; have HRV := Aside0.mk hRv; have HCT := Aside0.mk (Kd.R_reads' hRv).2.2; have HCL := Aside0.mk (Kd.R_reads' hRv).2.1; have H6 := Aside0.mk h6; have HR6 := Aside0.mk hR; have HBK := Aside0.mk hbk; have HBB := Aside0.mk hB; have HBN := Aside0.mk (And.intro hn2 hlt2); have HBI : Aside0 (BestI w g6 gb #[.int .i64 x.light, .int .i64 x.under, .int .i64 x.trim, .slice x.A3 x.holds.length x.c3, .int .i64 x.leaves, .slice x.A5 x.sills.length x.c5, .slice x.A6 x.lots.length x.c6] good worth b pre W) := ⟨⟨A, n, c, h6, hR, hbk, hB⟩⟩; have HTL := Aside0.mk (stowsL_mem _ _ t hmem).1; have hg := goodO_some _ _ _ _ _ _ _ t (HGO.out t hmem); rw [← HGD.out] at hg; have HBW := Aside0.mk (below_drew1 (Below.refl W.heap.size W)); have HXW := Aside0.mk (HX.out.below hB); clear hRv h6 hR hbk hB hn2 hlt2 hmem; unfold goodO at hg; obtain ⟨e1, he1, hg1⟩ := Option.bind_eq_some_iff.1 hg; obtain ⟨k1, hk1⟩ := limO_ev he1; have HK1 := Aside0.mk hk1; clear hg he1 hk1; have hk0_ : W.drew.cell? ⟨gb, 0, none⟩ = some (.int .i64 x.light) := (blk_cell (blk_drew HBK.out) 0).trans rfl; have hk1_ : W.drew.cell? ⟨gb, 1, none⟩ = some (.int .i64 x.under) := (blk_cell (blk_drew HBK.out) 1).trans rfl; have hk2_ : W.drew.cell? ⟨gb, 2, none⟩ = some (.int .i64 x.trim) := (blk_cell (blk_drew HBK.out) 2).trans rfl; have hk3_ : W.drew.cell? ⟨gb, 3, none⟩ = some (.slice x.A3 x.holds.length x.c3) := (blk_cell (blk_drew HBK.out) 3).trans rfl; have hk4_ : W.drew.cell? ⟨gb, 4, none⟩ = some (.int .i64 x.leaves) := (blk_cell (blk_drew HBK.out) 4).trans rfl; have hk5_ : W.drew.cell? ⟨gb, 5, none⟩ = some (.slice x.A5 x.sills.length x.c5) := (blk_cell (blk_drew HBK.out) 5).trans rfl; have hk6_ : W.drew.cell? ⟨gb, 6, none⟩ = some (.slice x.A6 x.lots.length x.c6) := (blk_cell (blk_drew HBK.out) 6).trans rfl; by_cases h1 : e1 = 0
  case neg =>
   rw [if_neg h1] at hg1; (have hgf : good t = false := by injection hg1 with hg1; exact hg1.symm); have hnb : (e1 == 0) = false := beq_eq_false_iff_ne.2 h1; have hnc : (e1 != 0) = true := bne_iff_ne.2 h1; clear hg1
   gi_upto_region 7 with (fail)
   refine startR_ (m := 23) (S := fun w' => w'.cell? ⟨gb, 0, none⟩ = some (.int .i64 x.light) ∧ w'.cell? ⟨gb, 1, none⟩ = some (.int .i64 x.under) ∧ w'.cell? ⟨gb, 2, none⟩ = some (.int .i64 x.trim) ∧ w'.cell? ⟨gb, 3, none⟩ = some (.slice x.A3 x.holds.length x.c3) ∧ w'.cell? ⟨gb, 4, none⟩ = some (.int .i64 x.leaves) ∧ w'.cell? ⟨gb, 5, none⟩ = some (.slice x.A5 x.sills.length x.c5) ∧ w'.cell? ⟨gb, 6, none⟩ = some (.slice x.A6 x.lots.length x.c6)) (ds := []) (bz 23 0) (by kernel_rfl) (fun ⟨_, _, h_⟩ => h_) (by kernel_rfl) rfl rfl ⟨hk0_, hk1_, hk2_, hk3_, hk4_, hk5_, hk6_⟩ (fun hHeld => ?_); generalize W.drew = wd at HBW hHeld ⊢; refine pure_y 1 (some 21) (bz 23 2) ?_; refine take_y 0 (some 20) (bz 23 3) hHeld ?_; (refine one_y 2 (some 22) (bz 23 7) fun K hK => ?_); refine goes_x Try.func63 #[.agg #[.int .i64 x.light, .int .i64 x.under, .int .i64 x.trim, .slice x.A3 x.holds.length x.c3, .int .i64 x.leaves, .slice x.A5 x.sills.length x.c5, .slice x.A6 x.lots.length x.c6], .slice Av t.length cv] ?_
   with_reducible refine (ship_checkStowage.calls k1 x.light x.under x.trim x.A3 x.c3 x.holds x.leaves x.A5 x.c5 x.sills x.A6 x.c6 x.lots Av cv t _ _ (HXW.out.below HBW.out).h (HXW.out.below HBW.out).hc (HXW.out.below HBW.out).s (HXW.out.below HBW.out).sc (HXW.out.below HBW.out).l (HXW.out.below HBW.out).lc (Kd.C_below HCT.out HBW.out) HCL.out HK1.out).mono ?_
   rintro e wa ⟨rfl, hb_⟩; replace HBW := Aside0.mk (below_step HBW.out hb_); refine ⟨_, rfl, ?_⟩; refine hK.out _ _ (cbs_y hb_ hHeld) (fun hHeld => ?_); clear hK K; refine norm_y (some 22) ?_; refine pure_y 3 (some 23) (bz 23 15) ?_; refine pure_y 4 (some 24) (bz 23 31) ?_; refine dead_y 5 (some 25) (bz 23 63) ?_; refine dead_y 6 (some 26) (bz 23 127) ?_; refine dead_y 7 (some 27) (bz 23 255) ?_; refine dead_y 8 (some 28) (bz 23 511) ?_; refine dead_y 9 (some 29) (bz 23 1023) ?_; refine dead_y 10 (some 30) (bz 23 2047) ?_; refine pure_y 11 (some 31) (bz 23 4095) ?_; refine pure_y 12 (some 32) (bz 23 8191) ?_; refine dead_y 13 (some 33) (bz 23 16383) ?_; refine dead_y 14 (some 34) (bz 23 32767) ?_; refine dead_y 15 (some 35) (bz 23 65535) ?_; refine dead_y 16 (some 36) (bz 23 131071) ?_; refine dead_y 17 (some 37) (bz 23 262143) ?_; refine dead_y 18 (some 38) (bz 23 524287) ?_; refine dead_y 19 (some 39) (bz 23 1048575) ?_; refine dead_y 20 (some 40) (bz 23 2097151) ?_; refine dead_y 21 (some 41) (bz 23 4194303) ?_; refine pure_y 22 (some 42) (bz 23 8388607) ?_; refine done_ (by kernel_rfl) ?_
   gi_wp2
   exact ⟨keeps_of_below HBW.out, kpB_of_below HBW.out, HBI.out.below HBW.out hgf⟩
  subst h1; rw [if_pos rfl] at hg1; replace hg1 := Option.bind_eq_some_iff.1 hg1; obtain ⟨⟨a1, a2⟩, ha, hg2⟩ := hg1; replace hg2 := Option.bind_eq_some_iff.1 hg2; obtain ⟨bl, hbl, hg3⟩ := hg2; obtain ⟨k2, hk2⟩ := limO_ev ha; obtain ⟨k3, hk3⟩ := limO_ev hbl; replace hk3 : ship_level.f k3 x.light x.under x.trim x.holds x.leaves x.sills x.lots a1 a2 = some bl := hk3; have HK2 := Aside0.mk hk2; have HK3 := Aside0.mk hk3; clear ha hbl hk2 hk3; cases bl with
  | false =>
   rw [if_neg (by simp)] at hg3; (have hgf : good t = false := by injection hg3 with hg3; exact hg3.symm); clear hg3
   gi_upto_region 7 with (fail)
   refine startR_ (m := 23) (S := fun w' => w'.cell? ⟨gb, 0, none⟩ = some (.int .i64 x.light) ∧ w'.cell? ⟨gb, 1, none⟩ = some (.int .i64 x.under) ∧ w'.cell? ⟨gb, 2, none⟩ = some (.int .i64 x.trim) ∧ w'.cell? ⟨gb, 3, none⟩ = some (.slice x.A3 x.holds.length x.c3) ∧ w'.cell? ⟨gb, 4, none⟩ = some (.int .i64 x.leaves) ∧ w'.cell? ⟨gb, 5, none⟩ = some (.slice x.A5 x.sills.length x.c5) ∧ w'.cell? ⟨gb, 6, none⟩ = some (.slice x.A6 x.lots.length x.c6)) (ds := []) (bz 23 0) (by kernel_rfl) (fun ⟨_, _, h_⟩ => h_) (by kernel_rfl) rfl rfl ⟨hk0_, hk1_, hk2_, hk3_, hk4_, hk5_, hk6_⟩ (fun hHeld => ?_); generalize W.drew = wd at HBW hHeld ⊢; refine pure_y 1 (some 21) (bz 23 2) ?_; refine take_y 0 (some 20) (bz 23 3) hHeld ?_; (refine one_y 2 (some 22) (bz 23 7) fun K hK => ?_); refine goes_x Try.func63 #[.agg #[.int .i64 x.light, .int .i64 x.under, .int .i64 x.trim, .slice x.A3 x.holds.length x.c3, .int .i64 x.leaves, .slice x.A5 x.sills.length x.c5, .slice x.A6 x.lots.length x.c6], .slice Av t.length cv] ?_
   with_reducible refine (ship_checkStowage.calls k1 x.light x.under x.trim x.A3 x.c3 x.holds x.leaves x.A5 x.c5 x.sills x.A6 x.c6 x.lots Av cv t _ _ (HXW.out.below HBW.out).h (HXW.out.below HBW.out).hc (HXW.out.below HBW.out).s (HXW.out.below HBW.out).sc (HXW.out.below HBW.out).l (HXW.out.below HBW.out).lc (Kd.C_below HCT.out HBW.out) HCL.out HK1.out).mono ?_
   rintro e wa ⟨rfl, hb_⟩; replace HBW := Aside0.mk (below_step HBW.out hb_); refine ⟨_, rfl, ?_⟩; refine hK.out _ _ (cbs_y hb_ hHeld) (fun hHeld => ?_); clear hK K; refine norm_y (some 22) ?_; refine pure_y 3 (some 23) (bz 23 15) ?_; refine pure_y 4 (some 24) (bz 23 31) ?_; refine pure_y 7 (some 27) (bz 23 159) ?_; refine take_y 5 (some 25) (bz 23 191) hHeld ?_; refine take_y 6 (some 26) (bz 23 255) hHeld ?_; (refine one_y 8 (some 28) (bz 23 511) fun K hK => ?_); refine goes_x Try.func65 #[.agg #[.int .i64 x.light, .int .i64 x.under, .int .i64 x.trim, .slice x.A3 x.holds.length x.c3, .int .i64 x.leaves, .slice x.A5 x.sills.length x.c5, .slice x.A6 x.lots.length x.c6], .slice Av t.length cv] ?_
   with_reducible refine (ship_apart.calls k2 x.light x.under x.trim x.A3 x.c3 x.holds x.leaves x.A5 x.c5 x.sills x.A6 x.c6 x.lots Av cv t a1 a2 _ (HXW.out.below HBW.out).h (HXW.out.below HBW.out).hc (HXW.out.below HBW.out).s (HXW.out.below HBW.out).sc (HXW.out.below HBW.out).l (HXW.out.below HBW.out).lc (Kd.C_below HCT.out HBW.out) HCL.out HK2.out).mono ?_
   rintro e wb ⟨rfl, hb_⟩; replace HBW := Aside0.mk (below_step HBW.out hb_); refine ⟨_, rfl, ?_⟩; refine hK.out _ _ (cbs_y hb_ hHeld) (fun hHeld => ?_); clear hK K; refine norm_y (some 28) ?_; (refine one_y 9 (some 29) (bz 23 1023) fun K hK => ?_); refine goes_x Try.func64 #[.agg #[.int .i64 x.light, .int .i64 x.under, .int .i64 x.trim, .slice x.A3 x.holds.length x.c3, .int .i64 x.leaves, .slice x.A5 x.sills.length x.c5, .slice x.A6 x.lots.length x.c6], .agg #[.int .i64 a1, .int .i64 a2]] ?_
   with_reducible refine (ship_level.calls k3 x.light x.under x.trim x.A3 x.c3 x.holds x.leaves x.A5 x.c5 x.sills x.A6 x.c6 x.lots a1 a2 _ _ (HXW.out.below HBW.out).h (HXW.out.below HBW.out).hc (HXW.out.below HBW.out).s (HXW.out.below HBW.out).sc (HXW.out.below HBW.out).l (HXW.out.below HBW.out).lc HK3.out).mono ?_
   rintro e wc ⟨rfl, hb_⟩; replace HBW := Aside0.mk (below_step HBW.out hb_); refine ⟨_, rfl, ?_⟩; refine hK.out _ _ (cbs_y hb_ hHeld) (fun hHeld => ?_); clear hK K; refine norm_y (some 29) ?_; refine pure_y 10 (some 30) (bz 23 2047) ?_; refine pure_y 11 (some 31) (bz 23 4095) ?_; refine pure_y 12 (some 32) (bz 23 8191) ?_; refine dead_y 13 (some 33) (bz 23 16383) ?_; refine dead_y 14 (some 34) (bz 23 32767) ?_; refine dead_y 15 (some 35) (bz 23 65535) ?_; refine dead_y 16 (some 36) (bz 23 131071) ?_; refine dead_y 17 (some 37) (bz 23 262143) ?_; refine dead_y 18 (some 38) (bz 23 524287) ?_; refine dead_y 19 (some 39) (bz 23 1048575) ?_; refine dead_y 20 (some 40) (bz 23 2097151) ?_; refine dead_y 21 (some 41) (bz 23 4194303) ?_; refine pure_y 22 (some 42) (bz 23 8388607) ?_; refine done_ (by kernel_rfl) ?_
   gi_wp2
   exact ⟨keeps_of_below HBW.out, kpB_of_below HBW.out, HBI.out.below HBW.out hgf⟩
  | true =>
   rw [if_pos rfl] at hg3; replace hg3 := Option.bind_eq_some_iff.1 hg3; obtain ⟨Q, hQ, hg4⟩ := hg3; have HQ := Aside0.mk hQ; obtain ⟨so, hso⟩ : ∃ s, s = sailO x.under x.leaves x.sills Q false := ⟨_, rfl⟩; rw [← hso] at hg4; have HSO := Aside0.mk hso; clear hQ hso; by_cases hlt : so.length < x.sills.length
   case pos =>
    (have hgf : good t = false := by injection hg4 with hg4; rw [← hg4, decide_eq_true hlt]; rfl); have hdz : decide ((so.length : Int) < (x.sills.length : Int)) = true := decide_eq_true (by omega); have hdn := decide_eq_true hlt; clear hg4 hlt
    gi_upto_region 7 with (fail)
    refine startR_ (m := 23) (S := fun w' => w'.cell? ⟨gb, 0, none⟩ = some (.int .i64 x.light) ∧ w'.cell? ⟨gb, 1, none⟩ = some (.int .i64 x.under) ∧ w'.cell? ⟨gb, 2, none⟩ = some (.int .i64 x.trim) ∧ w'.cell? ⟨gb, 3, none⟩ = some (.slice x.A3 x.holds.length x.c3) ∧ w'.cell? ⟨gb, 4, none⟩ = some (.int .i64 x.leaves) ∧ w'.cell? ⟨gb, 5, none⟩ = some (.slice x.A5 x.sills.length x.c5) ∧ w'.cell? ⟨gb, 6, none⟩ = some (.slice x.A6 x.lots.length x.c6)) (ds := []) (bz 23 0) (by kernel_rfl) (fun ⟨_, _, h_⟩ => h_) (by kernel_rfl) rfl rfl ⟨hk0_, hk1_, hk2_, hk3_, hk4_, hk5_, hk6_⟩ (fun hHeld => ?_); generalize W.drew = wd at HBW hHeld ⊢; refine pure_y 1 (some 21) (bz 23 2) ?_; refine take_y 0 (some 20) (bz 23 3) hHeld ?_; (refine one_y 2 (some 22) (bz 23 7) fun K hK => ?_); refine goes_x Try.func63 #[.agg #[.int .i64 x.light, .int .i64 x.under, .int .i64 x.trim, .slice x.A3 x.holds.length x.c3, .int .i64 x.leaves, .slice x.A5 x.sills.length x.c5, .slice x.A6 x.lots.length x.c6], .slice Av t.length cv] ?_
    with_reducible refine (ship_checkStowage.calls k1 x.light x.under x.trim x.A3 x.c3 x.holds x.leaves x.A5 x.c5 x.sills x.A6 x.c6 x.lots Av cv t _ _ (HXW.out.below HBW.out).h (HXW.out.below HBW.out).hc (HXW.out.below HBW.out).s (HXW.out.below HBW.out).sc (HXW.out.below HBW.out).l (HXW.out.below HBW.out).lc (Kd.C_below HCT.out HBW.out) HCL.out HK1.out).mono ?_
    rintro e wa ⟨rfl, hb_⟩; replace HBW := Aside0.mk (below_step HBW.out hb_); refine ⟨_, rfl, ?_⟩; refine hK.out _ _ (cbs_y hb_ hHeld) (fun hHeld => ?_); clear hK K; refine norm_y (some 22) ?_; refine pure_y 3 (some 23) (bz 23 15) ?_; refine pure_y 4 (some 24) (bz 23 31) ?_; refine pure_y 7 (some 27) (bz 23 159) ?_; refine take_y 5 (some 25) (bz 23 191) hHeld ?_; refine take_y 6 (some 26) (bz 23 255) hHeld ?_; (refine one_y 8 (some 28) (bz 23 511) fun K hK => ?_); refine goes_x Try.func65 #[.agg #[.int .i64 x.light, .int .i64 x.under, .int .i64 x.trim, .slice x.A3 x.holds.length x.c3, .int .i64 x.leaves, .slice x.A5 x.sills.length x.c5, .slice x.A6 x.lots.length x.c6], .slice Av t.length cv] ?_
    with_reducible refine (ship_apart.calls k2 x.light x.under x.trim x.A3 x.c3 x.holds x.leaves x.A5 x.c5 x.sills x.A6 x.c6 x.lots Av cv t a1 a2 _ (HXW.out.below HBW.out).h (HXW.out.below HBW.out).hc (HXW.out.below HBW.out).s (HXW.out.below HBW.out).sc (HXW.out.below HBW.out).l (HXW.out.below HBW.out).lc (Kd.C_below HCT.out HBW.out) HCL.out HK2.out).mono ?_
    rintro e wb ⟨rfl, hb_⟩; replace HBW := Aside0.mk (below_step HBW.out hb_); refine ⟨_, rfl, ?_⟩; refine hK.out _ _ (cbs_y hb_ hHeld) (fun hHeld => ?_); clear hK K; refine norm_y (some 28) ?_; (refine one_y 9 (some 29) (bz 23 1023) fun K hK => ?_); refine goes_x Try.func64 #[.agg #[.int .i64 x.light, .int .i64 x.under, .int .i64 x.trim, .slice x.A3 x.holds.length x.c3, .int .i64 x.leaves, .slice x.A5 x.sills.length x.c5, .slice x.A6 x.lots.length x.c6], .agg #[.int .i64 a1, .int .i64 a2]] ?_
    with_reducible refine (ship_level.calls k3 x.light x.under x.trim x.A3 x.c3 x.holds x.leaves x.A5 x.c5 x.sills x.A6 x.c6 x.lots a1 a2 _ _ (HXW.out.below HBW.out).h (HXW.out.below HBW.out).hc (HXW.out.below HBW.out).s (HXW.out.below HBW.out).sc (HXW.out.below HBW.out).l (HXW.out.below HBW.out).lc HK3.out).mono ?_
    rintro e wc ⟨rfl, hb_⟩; replace HBW := Aside0.mk (below_step HBW.out hb_); refine ⟨_, rfl, ?_⟩; refine hK.out _ _ (cbs_y hb_ hHeld) (fun hHeld => ?_); clear hK K; refine norm_y (some 29) ?_; refine pure_y 10 (some 30) (bz 23 2047) ?_; refine pure_y 11 (some 31) (bz 23 4095) ?_; refine pure_y 12 (some 32) (bz 23 8191) ?_; refine pure_y 14 (some 34) (bz 23 24575) ?_; refine pure_y 18 (some 38) (bz 23 286719) ?_; refine take_y 13 (some 33) (bz 23 294911) hHeld ?_; refine take_y 19 (some 39) (bz 23 819199) hHeld ?_; refine pure_y 20 (some 40) (bz 23 1867775) ?_; (refine one_y 15 (some 35) (bz 23 1900543) fun K hK => ?_); refine goes_x Try.func55 #[.agg #[.int .i64 x.light, .int .i64 x.under, .int .i64 x.trim, .slice x.A3 x.holds.length x.c3, .int .i64 x.leaves, .slice x.A5 x.sills.length x.c5, .slice x.A6 x.lots.length x.c6], .slice Av t.length cv] ?_
    with_reducible refine (laden_calls x Av cv t Q _ (HXW.out.below HBW.out) (Kd.C_below HCT.out HBW.out) HCL.out (by have := HTL.out; omega) HQ.out).mono ?_
    rintro e we ⟨rfl, hb_⟩; replace HBW := Aside0.mk (below_step HBW.out hb_); refine ⟨_, rfl, ?_⟩; refine hK.out _ _ (cbs_y hb_ hHeld) (fun hHeld => ?_); clear hK K; refine norm_y (some 35) ?_; (refine one_y 16 (some 36) (bz 23 1966079) fun K hK => ?_); refine goes_x Try.func56 #[.agg #[.int .i64 x.light, .int .i64 x.under, .int .i64 x.trim, .slice x.A3 x.holds.length x.c3, .int .i64 x.leaves, .slice x.A5 x.sills.length x.c5, .slice x.A6 x.lots.length x.c6, .int .i64 Q.b0, .int .i64 Q.b1, .int .i64 Q.h0, .int .i64 Q.h1], .bool false] ?_
    with_reducible refine (sail_calls x Q false _ (HXW.out.below HBW.out) HLN.out).mono ?_
    rintro e wf ⟨v3, rfl, hr3, hb_⟩; rw [← HSO.out] at hr3; obtain ⟨A3, c3, rfl⟩ := Kd.R_slice hr3; clear hr3; replace HBW := Aside0.mk (below_step HBW.out hb_); refine ⟨_, rfl, ?_⟩; refine hK.out _ _ (cbs_y hb_ hHeld) (fun hHeld => ?_); clear hK K; refine norm_y (some 36) ?_; refine pure_y 17 (some 37) (bz 23 2097151) ?_; refine pure_y 21 (some 41) (bz 23 4194303) ?_; refine pure_y 22 (some 42) (bz 23 8388607) ?_; refine done_ (by kernel_rfl) ?_
    gi_wp2
    exact ⟨keeps_of_below HBW.out, kpB_of_below HBW.out, HBI.out.below HBW.out hgf⟩
   (have hgt : good t = true := by injection hg4 with hg4; rw [← hg4, decide_eq_false hlt]; rfl); have hdz : decide ((so.length : Int) < (x.sills.length : Int)) = false := decide_eq_false (by omega); have hdn := decide_eq_false hlt; clear hg4 hlt
   gi_upto_region 7 with (fail)
   refine startR_ (m := 23) (S := fun w' => w'.cell? ⟨gb, 0, none⟩ = some (.int .i64 x.light) ∧ w'.cell? ⟨gb, 1, none⟩ = some (.int .i64 x.under) ∧ w'.cell? ⟨gb, 2, none⟩ = some (.int .i64 x.trim) ∧ w'.cell? ⟨gb, 3, none⟩ = some (.slice x.A3 x.holds.length x.c3) ∧ w'.cell? ⟨gb, 4, none⟩ = some (.int .i64 x.leaves) ∧ w'.cell? ⟨gb, 5, none⟩ = some (.slice x.A5 x.sills.length x.c5) ∧ w'.cell? ⟨gb, 6, none⟩ = some (.slice x.A6 x.lots.length x.c6)) (ds := []) (bz 23 0) (by kernel_rfl) (fun ⟨_, _, h_⟩ => h_) (by kernel_rfl) rfl rfl ⟨hk0_, hk1_, hk2_, hk3_, hk4_, hk5_, hk6_⟩ (fun hHeld => ?_); generalize W.drew = wd at HBW hHeld ⊢; refine pure_y 1 (some 21) (bz 23 2) ?_; refine take_y 0 (some 20) (bz 23 3) hHeld ?_; (refine one_y 2 (some 22) (bz 23 7) fun K hK => ?_); refine goes_x Try.func63 #[.agg #[.int .i64 x.light, .int .i64 x.under, .int .i64 x.trim, .slice x.A3 x.holds.length x.c3, .int .i64 x.leaves, .slice x.A5 x.sills.length x.c5, .slice x.A6 x.lots.length x.c6], .slice Av t.length cv] ?_
   with_reducible refine (ship_checkStowage.calls k1 x.light x.under x.trim x.A3 x.c3 x.holds x.leaves x.A5 x.c5 x.sills x.A6 x.c6 x.lots Av cv t _ _ (HXW.out.below HBW.out).h (HXW.out.below HBW.out).hc (HXW.out.below HBW.out).s (HXW.out.below HBW.out).sc (HXW.out.below HBW.out).l (HXW.out.below HBW.out).lc (Kd.C_below HCT.out HBW.out) HCL.out HK1.out).mono ?_
   rintro e wa ⟨rfl, hb_⟩; replace HBW := Aside0.mk (below_step HBW.out hb_); refine ⟨_, rfl, ?_⟩; refine hK.out _ _ (cbs_y hb_ hHeld) (fun hHeld => ?_); clear hK K; refine norm_y (some 22) ?_; refine pure_y 3 (some 23) (bz 23 15) ?_; refine pure_y 4 (some 24) (bz 23 31) ?_; refine pure_y 7 (some 27) (bz 23 159) ?_; refine take_y 5 (some 25) (bz 23 191) hHeld ?_; refine take_y 6 (some 26) (bz 23 255) hHeld ?_; (refine one_y 8 (some 28) (bz 23 511) fun K hK => ?_); refine goes_x Try.func65 #[.agg #[.int .i64 x.light, .int .i64 x.under, .int .i64 x.trim, .slice x.A3 x.holds.length x.c3, .int .i64 x.leaves, .slice x.A5 x.sills.length x.c5, .slice x.A6 x.lots.length x.c6], .slice Av t.length cv] ?_
   with_reducible refine (ship_apart.calls k2 x.light x.under x.trim x.A3 x.c3 x.holds x.leaves x.A5 x.c5 x.sills x.A6 x.c6 x.lots Av cv t a1 a2 _ (HXW.out.below HBW.out).h (HXW.out.below HBW.out).hc (HXW.out.below HBW.out).s (HXW.out.below HBW.out).sc (HXW.out.below HBW.out).l (HXW.out.below HBW.out).lc (Kd.C_below HCT.out HBW.out) HCL.out HK2.out).mono ?_
   rintro e wb ⟨rfl, hb_⟩; replace HBW := Aside0.mk (below_step HBW.out hb_); refine ⟨_, rfl, ?_⟩; refine hK.out _ _ (cbs_y hb_ hHeld) (fun hHeld => ?_); clear hK K; refine norm_y (some 28) ?_; (refine one_y 9 (some 29) (bz 23 1023) fun K hK => ?_); refine goes_x Try.func64 #[.agg #[.int .i64 x.light, .int .i64 x.under, .int .i64 x.trim, .slice x.A3 x.holds.length x.c3, .int .i64 x.leaves, .slice x.A5 x.sills.length x.c5, .slice x.A6 x.lots.length x.c6], .agg #[.int .i64 a1, .int .i64 a2]] ?_
   with_reducible refine (ship_level.calls k3 x.light x.under x.trim x.A3 x.c3 x.holds x.leaves x.A5 x.c5 x.sills x.A6 x.c6 x.lots a1 a2 _ _ (HXW.out.below HBW.out).h (HXW.out.below HBW.out).hc (HXW.out.below HBW.out).s (HXW.out.below HBW.out).sc (HXW.out.below HBW.out).l (HXW.out.below HBW.out).lc HK3.out).mono ?_
   rintro e wc ⟨rfl, hb_⟩; replace HBW := Aside0.mk (below_step HBW.out hb_); refine ⟨_, rfl, ?_⟩; refine hK.out _ _ (cbs_y hb_ hHeld) (fun hHeld => ?_); clear hK K; refine norm_y (some 29) ?_; refine pure_y 10 (some 30) (bz 23 2047) ?_; refine pure_y 11 (some 31) (bz 23 4095) ?_; refine pure_y 12 (some 32) (bz 23 8191) ?_; refine pure_y 14 (some 34) (bz 23 24575) ?_; refine pure_y 18 (some 38) (bz 23 286719) ?_; refine take_y 13 (some 33) (bz 23 294911) hHeld ?_; refine take_y 19 (some 39) (bz 23 819199) hHeld ?_; refine pure_y 20 (some 40) (bz 23 1867775) ?_; (refine one_y 15 (some 35) (bz 23 1900543) fun K hK => ?_); refine goes_x Try.func55 #[.agg #[.int .i64 x.light, .int .i64 x.under, .int .i64 x.trim, .slice x.A3 x.holds.length x.c3, .int .i64 x.leaves, .slice x.A5 x.sills.length x.c5, .slice x.A6 x.lots.length x.c6], .slice Av t.length cv] ?_
   with_reducible refine (laden_calls x Av cv t Q _ (HXW.out.below HBW.out) (Kd.C_below HCT.out HBW.out) HCL.out (by have := HTL.out; omega) HQ.out).mono ?_
   rintro e we ⟨rfl, hb_⟩; replace HBW := Aside0.mk (below_step HBW.out hb_); refine ⟨_, rfl, ?_⟩; refine hK.out _ _ (cbs_y hb_ hHeld) (fun hHeld => ?_); clear hK K; refine norm_y (some 35) ?_; (refine one_y 16 (some 36) (bz 23 1966079) fun K hK => ?_); refine goes_x Try.func56 #[.agg #[.int .i64 x.light, .int .i64 x.under, .int .i64 x.trim, .slice x.A3 x.holds.length x.c3, .int .i64 x.leaves, .slice x.A5 x.sills.length x.c5, .slice x.A6 x.lots.length x.c6, .int .i64 Q.b0, .int .i64 Q.b1, .int .i64 Q.h0, .int .i64 Q.h1], .bool false] ?_
   with_reducible refine (sail_calls x Q false _ (HXW.out.below HBW.out) HLN.out).mono ?_
   rintro e wf ⟨v3, rfl, hr3, hb_⟩; rw [← HSO.out] at hr3; obtain ⟨A3, c3, rfl⟩ := Kd.R_slice hr3; clear hr3; replace HBW := Aside0.mk (below_step HBW.out hb_); refine ⟨_, rfl, ?_⟩; refine hK.out _ _ (cbs_y hb_ hHeld) (fun hHeld => ?_); clear hK K; refine norm_y (some 36) ?_; refine pure_y 17 (some 37) (bz 23 2097151) ?_; refine pure_y 21 (some 41) (bz 23 4194303) ?_; refine pure_y 22 (some 42) (bz 23 8388607) ?_; refine done_ (by kernel_rfl) ?_; have HGT := Aside0.mk hgt; clear hgt hdz hdn hHeld; have ha0_ : (wf.alloc (.cells #[.slice none 0 0, .int .i64 0] 104 (0, 0))).cell? ⟨wf.heap.size, 0, none⟩ = some (.slice none 0 0) := (blk_cell (blk_new wf (.cells #[.slice none 0 0, .int .i64 0] 104 (0, 0))) 0).trans rfl; have ha1_ : (wf.alloc (.cells #[.slice none 0 0, .int .i64 0] 104 (0, 0))).cell? ⟨wf.heap.size, 1, none⟩ = some (.int .i64 0) := (blk_cell (blk_new wf (.cells #[.slice none 0 0, .int .i64 0] 104 (0, 0))) 1).trans rfl; have haf_ := blk_frozen (blk_new wf (.cells #[.slice none 0 0, .int .i64 0] 104 (0, 0)))
   gi_upto_region 9 with (fail)
   clear ha0_ ha1_ haf_ hk0_ hk1_ hk2_ hk3_ hk4_ hk5_ hk6_; obtain ⟨g8, hg8_⟩ : ∃ g, g = wf.heap.size := ⟨_, rfl⟩
   gi_wp2
   have B8 := Aside0.mk (blk_new wf (.cells #[.slice Av t.length cv, .int .i64 0] 104 (0, 0))); have HW8 : Aside0 (Below W.heap.size W (wf.alloc (.cells #[.slice Av t.length cv, .int .i64 0] 104 (0, 0)))) := ⟨below_alloc HBW.out _⟩; have GE8 : Aside0 (W.heap.size ≤ g8) := ⟨by rw [hg8_]; exact HBW.out.size⟩; generalize hw8_ : wf.alloc (.cells #[.slice Av t.length cv, .int .i64 0] 104 (0, 0)) = w8 at *; clear hw8_ HBW; rw [← hg8_] at B8 ⊢; clear hg8_; have htl6 : t.length ≤ 6 := by have := HTL.out; omega
   gi_loopg [47] t.length (fun gk v47 wr => ∃ (k : Nat) (acc : Int), k ≤ t.length ∧ t.length - k ≤ gk ∧ v47 = .int .i64 k ∧ Aside0 (worthGo x.lots k (t.drop k) acc = worthGo x.lots 0 t 0) ∧ Aside0 (wr.heap[g8]? = some (.cells #[.slice Av t.length cv, .int .i64 acc] 104 (0, 0))) ∧ Aside0 (Below W.heap.size W wr))
   case atStart => exact ⟨0, 0, by omega, by omega, rfl, ⟨rfl⟩, B8, HW8⟩
   case round =>
    clear B8 HW8; obtain ⟨k, acc, hk, hgk, rfl, HWO, B8, HBW⟩ := hrel; by_cases hlt : k < t.length
    ·
     (have hlz : (k : Int) < (t.length : Int) := by omega); have hdr := drop_rd t k hlt; rw [hdr] at HWO; clear hdr; obtain ⟨ad, e, hx0⟩ := Kd.at_int HCT.out (k : Int) (by omega) hlz; (cases e); rw [Int.toNat_natCast] at hx0; replace hx0 := (HBW.out.cell (World.block_lt_of_cell? W _ hx0)).trans hx0; generalize rd t (k : Int) = a at *; by_cases ha : 0 ≤ a
     ·
      have HW2 := Aside0.mk (show worthGo x.lots (k + 1) (t.drop (k + 1)) (wrap64 (acc + (x.lots.getD k z79).f1)) = worthGo x.lots 0 t 0 by have := HWO.out; simp only [worthGo] at this; rwa [if_pos ha] at this); (have hkl : k < x.lots.length := by have := HTL.out; omega); obtain ⟨adl, e6, _, _, ht2⟩ := at_T79 HXW.out.l (k : Int) (by omega) (by omega); rw [Int.toNat_natCast] at ht2; replace ht2 := (HBW.out.cell (World.block_lt_of_cell? W _ ht2)).trans ht2; rw [show rd_T79 x.lots (k : Int) = x.lots.getD k z79 by simp [rd_T79]] at ht2; generalize (x.lots.getD k z79).f1 = wo at *; (have hz6_ : wr.cell? ⟨gb, 6, none⟩ = some (.slice (some adl) x.lots.length x.c6) := by rw [← e6]; exact (HBW.out.cell (World.block_lt_of_cell? W _ ((blk_cell HBK.out 6).trans rfl))).trans ((blk_cell HBK.out 6).trans rfl)); have hy1_ : wr.cell? ⟨g8, 1, none⟩ = some (.int .i64 acc) := (blk_cell B8.out 1).trans rfl; have hkz : (k : Int) < (x.lots.length : Int) := by omega
      gi_upto_region 13 with (fail)
      replace B8 := Aside0.mk (blk_drew B8.out); replace HBW := Aside0.mk (below_step HBW.out (below_drew1 (Below.refl wr.heap.size wr))); refine startR_ (m := 11) (S := fun w' => w'.cell? ⟨g8, 1, none⟩ = some (.int .i64 acc) ∧ w'.cell? ⟨gb, 6, none⟩ = some (.slice (some adl) x.lots.length x.c6) ∧ w'.cell? ⟨(adl.add (k * 3)).block, (adl.add (k * 3)).off + 2, none⟩ = some (.int .i64 wo)) (ds := [10]) (bz 11 0) (by kernel_rfl) (fun ⟨_, _, h_⟩ => h_) (by kernel_rfl) rfl rfl ⟨hy1_, hz6_, ht2⟩ (fun hHeld => ?_); generalize wr.drew = wd at B8 HBW hHeld ⊢; refine pure_y 0 (some 54) (bz 11 1) ?_; refine pure_y 2 (some 56) (bz 11 5) ?_; refine pure_y 4 (some 58) (bz 11 21) ?_; refine take_y 1 (some 55) (bz 11 23) hHeld ?_; refine take_y 3 (some 57) (bz 11 31) hHeld ?_; refine pure_y 5 (some 59) (bz 11 63) ?_; refine pure_y 6 (some 60) (bz 11 127) ?_; refine take_y 7 (some 61) (bz 11 255) hHeld ?_; refine pure_y 8 (some 62) (bz 11 511) ?_; refine pure_y 9 (some 63) (bz 11 1023) ?_; refine last_ (i := 10) (N := none) (bz 11 2047) rfl rfl (by kernel_rfl) (by decide) (fun K hK => ?_); have hcl := hHeld.1; have hfz := blk_frozen B8.out 1; refine skip_ (w1 := ?_) (by rfl) rfl ?_ ?_; rotate_left; (go_simp; rfl); refine hK.out _ _ ?_; clear hK K; refine done_ (by kernel_rfl) ?_; clear hHeld hcl hfz; have B9 := Aside0.mk (blk_put (cs' := #[.slice (some ad) t.length cv, .int .i64 (wrap64 (acc + wo))]) B8.out 1 (.int .i64 (wrap64 (acc + wo))) rfl); have HB9 := Aside0.mk (show Below W.heap.size W (wd.setCell ⟨g8, 1, none⟩ (.int .i64 (wrap64 (acc + wo)))) from below_set HBW.out GE8.out)
      gi_wp2
      gi_roundg (t.length - (k + 1))
      case measure => omega
      case rel => exact ⟨k + 1, wrap64 (acc + wo), by omega, by omega, by go_num, HW2, B9, HB9⟩
     ·
      have HW2 := Aside0.mk (show worthGo x.lots (k + 1) (t.drop (k + 1)) acc = worthGo x.lots 0 t 0 by have := HWO.out; simp only [worthGo] at this; rwa [if_neg ha] at this)
      gi_wp2
      gi_roundg (t.length - (k + 1))
      case measure => omega
      case rel => exact ⟨k + 1, acc, by omega, by omega, by go_num, HW2, B8, HBW⟩
    ·
     (have : k = t.length := by omega); subst this; (have hac : acc = worth t := by have := HWO.out; rw [List.drop_length] at this; rw [HWD.out]; exact this); obtain ⟨bm, hbm⟩ : ∃ m : Int, m = (bestOf good worth (pre.map (·.2)) ([], -1)).2 := ⟨_, rfl⟩; have HAC := Aside0.mk hac; have HBM := Aside0.mk hbm; have C6 := Aside0.mk (show wr.heap[g6]? = some (.cells #[.slice A n c, .int .i64 bm] 104 (0, 0)) by rw [hbm]; exact blk_below H6.out HBW.out)
     obtain ⟨A1, n1, c1, y1, hu⟩ : ∃ (A1 : Option Addr) (n1 c1 : Nat) (y1 : Int), (if bm < acc then Value.agg #[.slice Av t.length cv, .int .i64 acc] else .agg #[.slice A n c, .int .i64 bm]) = .agg #[.slice A1 n1 c1, .int .i64 y1] := by
      by_cases h : bm < acc
      ·
       exact ⟨_, _, _, _, if_pos h⟩
      ·
       exact ⟨_, _, _, _, if_neg h⟩
     have HU := Aside0.mk hu; have HCB := Aside0.mk (better_calls A n c bm Av t.length cv acc wr); rw [hu] at HCB; have hd0_ : wr.cell? ⟨g6, 0, none⟩ = some (.slice A n c) := (blk_cell C6.out 0).trans rfl; have hd1_ : wr.cell? ⟨g6, 1, none⟩ = some (.int .i64 bm) := (blk_cell C6.out 1).trans rfl; have he0_ : wr.cell? ⟨g8, 0, none⟩ = some (.slice Av t.length cv) := (blk_cell B8.out 0).trans rfl; have he1_ : wr.cell? ⟨g8, 1, none⟩ = some (.int .i64 acc) := (blk_cell B8.out 1).trans rfl; clear hac hbm hu hk hgk hlt
     gi_wp2
     refine ⟨trivial, (CallsIn.inRound l (callsIn_wide.2 HCB.out)).mono ?_⟩; rintro e w9 ⟨rfl, hb9⟩; clear hd0_ hd1_ he0_ he1_; have HBZ := Aside0.mk (below_step HBW.out hb9); replace C6 := Aside0.mk (blk_below C6.out hb9); obtain ⟨A2, n2, c2, y2, hu2, hI⟩ := BestI.weighed (w0 := w) (W := W) (W' := w9) (b := b) H6.out HR6.out ⟨base2, HBN.out.1, HBN.out.2, HRV.out⟩ HBK.out HBB.out GE6.out N6.out HBZ.out HGT.out (.slice Av t.length cv) (.agg #[.slice A1 n1 c1, .int .i64 y1]) (by rw [← HBM.out, ← HAC.out]; exact HU.out.symm); (cases hu2); have HI := Aside0.mk hI; have hd0_ : w9.cell? ⟨g6, 0, none⟩ = some (.slice A n c) := (blk_cell C6.out 0).trans rfl; have hd1_ : w9.cell? ⟨g6, 1, none⟩ = some (.int .i64 bm) := (blk_cell C6.out 1).trans rfl; have hdf_ := blk_frozen C6.out; clear hI hb9
     gi_wp2
     exact ⟨HI.out.2.1, HI.out.2.2, HI.out.1⟩
 case done =>
  rintro D b xs W hD hb hxs ⟨A, n, c, h6, ⟨base, hb1, hb2, hR⟩, hbk, hB⟩ hK; rw [hxs] at h6 hR; have hh := HH.out; rw [hh.1] at hR; rw [hh.2.1] at h6; obtain ⟨_, _, rfl⟩ := hh; have D6 := Aside0.mk h6; have DR := Aside0.mk hR; have DB := Aside0.mk hB; have DK := Aside0.mk hK; have DD := Aside0.mk hD; have hc0_ : W.cell? ⟨g6, 0, none⟩ = some (.slice A n c) := (blk_cell D6.out 0).trans rfl; have hc1_ : W.cell? ⟨g6, 1, none⟩ = some (.int .i64 r2) := (blk_cell D6.out 1).trans rfl; have HBS := Aside0.mk hb1; clear h6 hR hB hK hD hbk hxs hb hb1 hb2
  go_upto_region 16 with (fail)
  go_quiet (fail)
  have DW : Aside0 (Below w.heap.size w ((W.drewN nq).putObj D (.deferred none))) := ⟨(DB.out.trans (pw_below_drewN (Below.refl _ _) nq)).trans (belowK_b (w := w) (Nat.le_refl _) _ D _ _ (by have := DD.out; have := CB.out.size; omega) (((pw_below_drewN (Below.refl W.heap.size W) nq).block D (Array.getElem?_eq_some_iff.1 DK.out).1).trans DK.out) rfl rfl)⟩; have hKq : (W.drewN nq).heap[D]? = some (.deferred (some [])) := ((pw_below_drewN (Below.refl W.heap.size W) nq).block D (Array.getElem?_eq_some_iff.1 DK.out).1).trans DK.out
  have DRq := Aside0.mk (Kd.R_lower (R_kept (W1 := (W.drewN nq).putObj D (.deferred none)) DR.out fun k _ hc => by
   obtain ⟨cells, t, hk, _⟩ := hc; (have hkD : k ≠ D := fun e => by subst e; rw [DK.out] at hk; cases hk); exact (World.putObj_heap_other hkD).trans ((pw_below_drewN (Below.refl W.heap.size W) nq).block k (Array.getElem?_eq_some_iff.1 hk).1)) HBS.out)
  go_wp2; refine ⟨by simp, .inl ⟨_, _, rfl, run_takeDeferred hKq, ?_⟩⟩; exact ⟨.tuple #[.slice A n c, .int .i64 r2, .int .i64 0], by simp [results, Try.results28, go_sem], _, rfl, DRq.out, DW.out⟩
theorem ship_Best.calls (a0_0 : Int) (a0_1 : Int) (a0_2 : Int) (A0_3 : Option Addr) (c0_3 : Nat) (l0_3 : List (S85)) (a0_4 : Int) (A0_5 : Option Addr) (c0_5 : Nat) (l0_5 : List (S59)) (A0_6 : Option Addr) (c0_6 : Nat) (l0_6 : List (S79)) (r1 : List Int) (r2 : Int) (r3 : Int) (w : World) (hr0_3 : Kd.C k85 w A0_3 l0_3.length l0_3) (hc0_3 : l0_3.length ≤ c0_3) (hr0_5 : Kd.C k59 w A0_5 l0_5.length l0_5) (hc0_5 : l0_5.length ≤ c0_5) (hr0_6 : Kd.C k79 w A0_6 l0_6.length l0_6) (hc0_6 : l0_6.length ≤ c0_6) (h : ship_Best.f a0_0 a0_1 a0_2 l0_3 a0_4 l0_5 l0_6 = some (r1, r2, r3)) :
  Calls Try.prog 28 #[.agg #[.int .i64 a0_0, .int .i64 a0_1, .int .i64 a0_2, .slice A0_3 l0_3.length c0_3, .int .i64 a0_4, .slice A0_5 l0_5.length c0_5, .slice A0_6 l0_6.length c0_6]] w fun e w' => ∃ v0_ : Value, e = .returned (.tuple #[v0_, .int .i64 r2, .int .i64 r3]) ∧ Kd.R (Kd.int .i64) 3 w' w.heap.size (fun _ => True) v0_ r1 ∧ Below w.heap.size w w' := best_calls ⟨a0_0, a0_1, a0_2, A0_3, c0_3, l0_3, a0_4, A0_5, c0_5, l0_5, A0_6, c0_6, l0_6⟩ r1 r2 r3 w ⟨hr0_3, hc0_3, hr0_5, hc0_5, hr0_6, hc0_6⟩ h
end Go.Proofs.Ytodmemndaaiolaa.PC7
namespace Go.Proofs.Ytodmemndaaiolaa.PC7
set_option linter.unusedVariables false
set_option linter.unusedSimpArgs false
open Go.RowKit Go.Proofs.YtodmemndaaiolaaW.PrintWords Go.Proofs.YtodmemndaaiolaaW.PrintLast Go.Proofs.YtodmemndaaiolaaW.PrintMore
theorem eq93 (a b c d : Int) (w : World) : (Op.equalIn 10000 93 (.agg #[.int .i64 a, .int .i64 b]) (.agg #[.int .i64 c, .int .i64 d])).run Try.prog w = .ok (a == c && b == d) w := by
 obtain ⟨i, hi, _⟩ := info_parts infoInt
 rw [show (10000 : Nat) = 9999 + 1 from rfl, run_equalIn_array w 9999 _ _ Try.underlying93 hi]
 have h3 : ∀ x y : Int, (Op.equalIn 9999 3 (.int .i64 x) (.int .i64 y)).run Try.prog w = .ok (x == y) w := fun x y => run_equalIn_int w 9998 3 .i64 .i64 x y Try.underlying3
 have hc : Try.prog.cellsOf 3 = 1 := by kernel_rfl
 simp [List.range_succ, Op.eqItems, hc, h3, go_sem]
 by_cases h1 : a = c <;> by_cases h2 : b = d <;> simp [h1, h2]
noncomputable def ship_Drafts.f (a0_0 : Int) (a0_1 : Int) (a0_2 : Int) (l0_3 : List (S85)) (a0_4 : Int) (l0_5 : List (S59)) (l0_6 : List (S79)) (l1 : List Int) : Option (Int × Int × Int × Int × Int) :=
 (stowE a0_0 a0_1 a0_2 l0_3 a0_4 l0_5 l0_6 l1).bind fun e => if e = 0 then (if l1.length ≤ 140737488351232 then (ladenO a0_0 l0_3 l0_6 l1).bind fun q => some (q.b0, q.h0, q.b1, q.h1, 0) else none) else some (0, 0, 0, 0, e)
set_option maxHeartbeats 8000000 in
set_option maxRecDepth 100000 in
theorem drafts_calls (x : VoyV) (A1 : Option Addr) (c1 : Nat) (l1 : List Int) (r1 r2 r3 r4 r5 : Int) (w : World) (hx : x.Ok w) (hr1 : Kd.C (Kd.int .i64) w A1 l1.length l1) (hc1 : l1.length ≤ c1) (h : ship_Drafts.f x.light x.under x.trim x.holds x.leaves x.sills x.lots l1 = some (r1, r2, r3, r4, r5)) :
  Calls Try.prog 35 #[.agg #[.int .i64 x.light, .int .i64 x.under, .int .i64 x.trim, .slice x.A3 x.holds.length x.c3, .int .i64 x.leaves, .slice x.A5 x.sills.length x.c5, .slice x.A6 x.lots.length x.c6], .slice A1 l1.length c1] w fun e w' => e = .returned (.tuple #[.agg #[.int .i64 r1, .int .i64 r2], .agg #[.int .i64 r3, .int .i64 r4], .int .i64 r5]) ∧ Below w.heap.size w w' := by
 have hu26 := Try.underlying26
 have hu93 := Try.underlying93
 have hu95 := Try.underlying95
 have hu56 := Try.underlying56
 unfold ship_Drafts.f at h
 obtain ⟨er, hst, h⟩ := Option.bind_eq_some_iff.1 h
 obtain ⟨ks, hst⟩ := limO_ev hst
 have HX := Aside0.mk hx
 have HR1 := Aside0.mk hr1
 have HST := Aside0.mk hst
 have H := Aside0.mk h
 clear hx hr1 hst h
 go_enter Try.func35, Try.ntmps35
 go_wp2_with (first
  | (refine box_r (N := 2) rfl (cs := #[.int .i64 x.light, .int .i64 x.under, .int .i64 x.trim, .slice x.A3 x.holds.length x.c3, .int .i64 x.leaves, .slice x.A5 x.sills.length x.c5, .slice x.A6 x.lots.length x.c6]) (t := 26) ?_; intro gb hg w2 hbox hb; have BK := Aside0.mk hbox; have HB := Aside0.mk hb; clear hg hbox hb)
  | (refine box_r (N := 4) rfl (cs := #[.int .i64 0, .int .i64 0]) (t := 56) ?_; intro g4 hg w3 hbox hb; have B4 := Aside0.mk hbox; replace BK := Aside0.mk (blk_below BK.out hb); have GE4 : Aside0 (w.heap.size ≤ g4) := ⟨by rw [hg]; exact HB.out.size⟩; replace HB := Aside0.mk (below_step HB.out hb); clear hg hbox hb)
  | (refine box_r (N := 5) rfl (cs := #[.int .i64 0, .int .i64 0]) (t := 56) ?_; intro g5 hg w4 hbox hb; have B5 := Aside0.mk hbox; replace BK := Aside0.mk (blk_below BK.out hb); have N45 : Aside0 (g4 ≠ g5) := ⟨by have := blk_lt B4.out; omega⟩; replace B4 := Aside0.mk (blk_below B4.out hb); have GE5 : Aside0 (w.heap.size ≤ g5) := ⟨by rw [hg]; exact HB.out.size⟩; replace HB := Aside0.mk (below_step HB.out hb); have hz0_ := (blk_cell BK.out 0).trans rfl; have hz1_ := (blk_cell BK.out 1).trans rfl; have hz2_ := (blk_cell BK.out 2).trans rfl; have hz3_ := (blk_cell BK.out 3).trans rfl; have hz4_ := (blk_cell BK.out 4).trans rfl; have hz5_ := (blk_cell BK.out 5).trans rfl; have hz6_ := (blk_cell BK.out 6).trans rfl; clear hg hbox hb))
 refine (ship_CheckStowage.calls ks x.light x.under x.trim x.A3 x.c3 x.holds x.leaves x.A5 x.c5 x.sills x.A6 x.c6 x.lots A1 c1 l1 er w4 (HX.out.below HB.out).h (HX.out.below HB.out).hc (HX.out.below HB.out).s (HX.out.below HB.out).sc (HX.out.below HB.out).l (HX.out.below HB.out).lc (Kd.C_below HR1.out HB.out) hc1 HST.out).mono ?_
 rintro e w5 ⟨rfl, hb5⟩
 replace BK := Aside0.mk (blk_below BK.out hb5)
 replace B4 := Aside0.mk (blk_below B4.out hb5)
 replace B5 := Aside0.mk (blk_below B5.out hb5)
 replace HB := Aside0.mk (below_step HB.out hb5)
 clear hb5 hz0_ hz1_ hz2_ hz3_ hz4_ hz5_ hz6_
 by_cases her : er = 0
 case neg =>
  have hh := H.out; rw [if_neg her] at hh; have hnb : (er == 0) = false := beq_eq_false_iff_ne.2 her; simp only [Option.some.injEq, Prod.mk.injEq] at hh; obtain ⟨rfl, rfl, rfl, rfl, rfl⟩ := hh; clear her H; have hy0_ := (blk_cell B4.out 0).trans rfl; have hy1_ := (blk_cell B4.out 1).trans rfl; have F5 := Aside0.mk (blk_far (blk_far B5.out (p := ⟨g4, 0, none⟩) N45.out.symm (.int .i64 0)) (p := ⟨g4, 1, none⟩) N45.out.symm (.int .i64 0)); have hy2_ := (blk_cell F5.out 0).trans rfl; have hy3_ := (blk_cell F5.out 1).trans rfl; have hf4_ := blk_frozen B4.out; have hf5_ := blk_frozen F5.out; go_wp2; have P4 := Aside0.mk (blk_far (blk_far (blk_put (cs' := #[.int .i64 0, .int .i64 0]) (blk_set B4.out 0 (.int .i64 0)) 1 (.int .i64 0) rfl) (p := ⟨g5, 0, none⟩) N45.out (.int .i64 0)) (p := ⟨g5, 1, none⟩) N45.out (.int .i64 0)); have P5 := Aside0.mk (blk_put (cs' := #[.int .i64 0, .int .i64 0]) (blk_set F5.out 0 (.int .i64 0)) 1 (.int .i64 0) rfl); have HBe := Aside0.mk (below_set (j := 1) (v := .int .i64 0) (below_set (j := 0) (v := .int .i64 0) (below_set (j := 1) (v := .int .i64 0) (below_set (j := 0) (v := .int .i64 0) HB.out GE4.out) GE4.out) GE5.out) GE5.out); exact bodyPost_ret (results_list (rs := [.cell 4 56, .cell 5 56, .tmp 6]) rfl (by simp) (.cell g4 56 #[.int .i64 0, .int .i64 0] (0, 0) _ rfl P4.out Try.underlying56 rfl (by kernel_rfl) (.cell g5 56 #[.int .i64 0, .int .i64 0] (0, 0) _ rfl P5.out Try.underlying56 rfl (by kernel_rfl) (.tmp .nil)))) rfl ⟨rfl, HBe.out⟩
 have hh := H.out
 rw [if_pos her] at hh
 by_cases hl1 : l1.length ≤ 140737488351232
 case neg => rw [if_neg hl1] at hh; cases hh
 rw [if_pos hl1] at hh
 obtain ⟨z, hz, hh⟩ := Option.bind_eq_some_iff.1 hh
 simp only [Option.some.injEq, Prod.mk.injEq] at hh
 obtain ⟨rfl, rfl, rfl, rfl, rfl⟩ := hh
 subst her
 have HZ := Aside0.mk hz
 clear hz H
 have hz0_ := (blk_cell BK.out 0).trans rfl
 have hz1_ := (blk_cell BK.out 1).trans rfl
 have hz2_ := (blk_cell BK.out 2).trans rfl
 have hz3_ := (blk_cell BK.out 3).trans rfl
 have hz4_ := (blk_cell BK.out 4).trans rfl
 have hz5_ := (blk_cell BK.out 5).trans rfl
 have hz6_ := (blk_cell BK.out 6).trans rfl
 go_wp2_with (fail)
 refine (laden_calls x A1 c1 l1 z w5 (HX.out.below HB.out) (Kd.C_below HR1.out HB.out) hc1 hl1 HZ.out).mono ?_
 rintro e w6 ⟨rfl, hb6⟩
 replace B4 := Aside0.mk (blk_below B4.out hb6)
 replace B5 := Aside0.mk (blk_below B5.out hb6)
 replace HB := Aside0.mk (below_step HB.out hb6)
 clear hb6 BK hz0_ hz1_ hz2_ hz3_ hz4_ hz5_ hz6_
 go_upto_region 5 with (fail)
 obtain ⟨g8, hg_⟩ : ∃ b, b = w6.heap.size := ⟨_, rfl⟩
 have Ng8 := Aside0.mk (blk_new w6 (.cells #[.int .i64 x.light, .int .i64 x.under, .int .i64 x.trim, .slice x.A3 x.holds.length x.c3, .int .i64 x.leaves, .slice x.A5 x.sills.length x.c5, .slice x.A6 x.lots.length x.c6, .int .i64 z.b0, .int .i64 z.b1, .int .i64 z.h0, .int .i64 z.h1] 95 (0, 0)))
 have hbw : Below w6.heap.size w6 (w6.alloc (.cells #[.int .i64 x.light, .int .i64 x.under, .int .i64 x.trim, .slice x.A3 x.holds.length x.c3, .int .i64 x.leaves, .slice x.A5 x.sills.length x.c5, .slice x.A6 x.lots.length x.c6, .int .i64 z.b0, .int .i64 z.b1, .int .i64 z.h0, .int .i64 z.h1] 95 (0, 0))) := below_alloc (Below.refl _ _) _
 have hgs_ : w.heap.size ≤ g8 := by rw [hg_]; exact HB.out.size
 generalize hw_ : w6.alloc (.cells #[.int .i64 x.light, .int .i64 x.under, .int .i64 x.trim, .slice x.A3 x.holds.length x.c3, .int .i64 x.leaves, .slice x.A5 x.sills.length x.c5, .slice x.A6 x.lots.length x.c6, .int .i64 z.b0, .int .i64 z.b1, .int .i64 z.h0, .int .i64 z.h1] 95 (0, 0)) = w7 at *
 rw [← hg_] at Ng8 ⊢
 replace B4 := Aside0.mk (blk_below B4.out hbw)
 replace B5 := Aside0.mk (blk_below B5.out hbw)
 replace HB := Aside0.mk (below_step HB.out hbw)
 have GEg8 : Aside0 (w.heap.size ≤ g8) := ⟨hgs_⟩
 clear hbw hw_ hg_ hgs_
 by_cases heq : z.b0 = z.h0 ∧ z.b1 = z.h1
 ·
  skip
  (have hE : ∀ w : World, (Op.equalIn 10000 93 (.agg #[.int .i64 z.b0, .int .i64 z.b1]) (.agg #[.int .i64 z.h0, .int .i64 z.h1])).run Try.prog w = .ok true w := fun w => by rw [eq93]; congr 1; simp; exact heq); have HEQ := Aside0.mk heq; clear heq; have hz7_ := (blk_cell Ng8.out 7).trans rfl; have hz8_ := (blk_cell Ng8.out 8).trans rfl; have hz9_ := (blk_cell Ng8.out 9).trans rfl; have hz10_ := (blk_cell Ng8.out 10).trans rfl
  go_upto_region 6 with (fail)
  clear hE; have hd_ := below_drew1 (Below.refl w7.heap.size w7); replace B4 := Aside0.mk (blk_drew B4.out); replace B5 := Aside0.mk (blk_drew B5.out); have B8 := Aside0.mk (blk_drew Ng8.out); replace HB := Aside0.mk (below_step HB.out hd_); clear hd_ Ng8; refine start_ (n := 17) (S := fun w' => w'.cell? ⟨g8, 7, none⟩ = some (.int .i64 z.b0) ∧ w'.cell? ⟨g8, 8, none⟩ = some (.int .i64 z.b1)) (ds := [15]) #[false, false, false, false, false, false, false, false, false, false, false, false, false, false, false, false, false] (by kernel_rfl) rfl rfl ⟨hz7_, hz8_⟩ (fun hHeld => ?_); generalize w7.drew = wd at B4 B5 B8 HB hHeld ⊢; refine pure_y 0 (some 25) (bz 17 1) ?_; refine pure_y 1 (some 26) (bz 17 3) ?_; refine pure_y 3 (some 28) (bz 17 11) ?_; refine pure_y 4 (some 29) (bz 17 27) ?_; refine pure_y 7 (some 32) (bz 17 155) ?_; refine pure_y 8 (some 33) (bz 17 411) ?_; refine pure_y 10 (some 35) (bz 17 1435) ?_; refine pure_y 11 (some 36) (bz 17 3483) ?_; refine take_y 2 (some 27) (bz 17 3487) hHeld ?_; refine take_y 5 (some 30) (bz 17 3519) hHeld ?_; refine pure_y 6 (some 31) (bz 17 3583) ?_; refine take_y 9 (some 34) (bz 17 4095) hHeld ?_; refine take_y 12 (some 37) (bz 17 8191) hHeld ?_; refine pure_y 13 (some 38) (bz 17 16383) ?_; (refine one_y 14 (none) (bz 17 32767) fun K hK => ?_); have hy0_ := (blk_cell B4.out 0).trans rfl; have hy1_ := (blk_cell B4.out 1).trans rfl; have hf4_ := blk_frozen B4.out; refine skip_ (w1 := ?_) (by rfl) rfl ?_ ?_; rotate_left; (go_simp; rfl); clear hy0_ hy1_ hf4_; refine hK.out _ _ ⟨(blk_cell (blk_far (blk_far B8.out (p := ⟨g4, 0, none⟩) (blk_ne_ B8.out B4.out (by decide)) (.int .i64 z.b0)) (p := ⟨g4, 1, none⟩) (blk_ne_ B8.out B4.out (by decide)) (.int .i64 z.b0)) 7).trans rfl, (blk_cell (blk_far (blk_far B8.out (p := ⟨g4, 0, none⟩) (blk_ne_ B8.out B4.out (by decide)) (.int .i64 z.b0)) (p := ⟨g4, 1, none⟩) (blk_ne_ B8.out B4.out (by decide)) (.int .i64 z.b0)) 8).trans rfl⟩ (fun hHeld => ?_); clear hK K; refine last_ (i := 15) (N := none) (bz 17 65535) rfl rfl (by kernel_rfl) (by decide) (fun K hK => ?_); have F5 := Aside0.mk (blk_far (blk_far B5.out (p := ⟨g4, 0, none⟩) N45.out.symm (.int .i64 z.b0)) (p := ⟨g4, 1, none⟩) N45.out.symm (.int .i64 z.b0)); have hy2_ := (blk_cell F5.out 0).trans rfl; have hy3_ := (blk_cell F5.out 1).trans rfl; have hf5_ := blk_frozen F5.out; refine skip_ (w1 := ?_) (by rfl) rfl ?_ ?_; rotate_left; (go_simp; rfl); refine hK.out _ _ ?_; clear hK K; refine pure_y 16 (some 6) (bz 17 131071) ?_; refine done_ (by kernel_rfl) ?_; clear hHeld hy2_ hy3_ hf5_; go_wp2; obtain ⟨he1_, he2_⟩ := HEQ.out; rw [← he1_, ← he2_]; have P4 := Aside0.mk (blk_far (blk_far (blk_put (cs' := #[.int .i64 z.b0, .int .i64 z.b0]) (blk_set B4.out 0 (.int .i64 z.b0)) 1 (.int .i64 z.b0) rfl) (p := ⟨g5, 0, none⟩) N45.out (.int .i64 z.b1)) (p := ⟨g5, 1, none⟩) N45.out (.int .i64 z.b1)); have P5 := Aside0.mk (blk_put (cs' := #[.int .i64 z.b1, .int .i64 z.b1]) (blk_set F5.out 0 (.int .i64 z.b1)) 1 (.int .i64 z.b1) rfl); have HBe := Aside0.mk (below_set (j := 1) (v := .int .i64 z.b1) (below_set (j := 0) (v := .int .i64 z.b1) (below_set (j := 1) (v := .int .i64 z.b0) (below_set (j := 0) (v := .int .i64 z.b0) HB.out GE4.out) GE4.out) GE5.out) GE5.out); exact bodyPost_ret (results_list (rs := [.cell 4 56, .cell 5 56, .tmp 6]) rfl (by simp) (.cell g4 56 #[.int .i64 z.b0, .int .i64 z.b0] (0, 0) _ rfl P4.out Try.underlying56 rfl (by kernel_rfl) (.cell g5 56 #[.int .i64 z.b1, .int .i64 z.b1] (0, 0) _ rfl P5.out Try.underlying56 rfl (by kernel_rfl) (.tmp .nil)))) rfl ⟨rfl, HBe.out⟩
 ·
  skip
  (have hE : ∀ w : World, (Op.equalIn 10000 93 (.agg #[.int .i64 z.b0, .int .i64 z.b1]) (.agg #[.int .i64 z.h0, .int .i64 z.h1])).run Try.prog w = .ok false w := fun w => by rw [eq93]; congr 1; simp; exact fun h1 h2 => heq ⟨h1, h2⟩); have HEQ := Aside0.mk heq; clear heq; have hz7_ := (blk_cell Ng8.out 7).trans rfl; have hz8_ := (blk_cell Ng8.out 8).trans rfl; have hz9_ := (blk_cell Ng8.out 9).trans rfl; have hz10_ := (blk_cell Ng8.out 10).trans rfl
  go_upto_region 7 with (fail)
  clear hE; have hd_ := below_drew1 (Below.refl w7.heap.size w7); replace B4 := Aside0.mk (blk_drew B4.out); replace B5 := Aside0.mk (blk_drew B5.out); have B8 := Aside0.mk (blk_drew Ng8.out); replace HB := Aside0.mk (below_step HB.out hd_); clear hd_ Ng8; refine start_ (n := 17) (S := fun w' => w'.cell? ⟨g8, 7, none⟩ = some (.int .i64 z.b0) ∧ w'.cell? ⟨g8, 8, none⟩ = some (.int .i64 z.b1) ∧ w'.cell? ⟨g8, 9, none⟩ = some (.int .i64 z.h0) ∧ w'.cell? ⟨g8, 10, none⟩ = some (.int .i64 z.h1)) (ds := [15]) #[false, false, false, false, false, false, false, false, false, false, false, false, false, false, false, false, false] (by kernel_rfl) rfl rfl ⟨hz7_, hz8_, hz9_, hz10_⟩ (fun hHeld => ?_); generalize w7.drew = wd at B4 B5 B8 HB hHeld ⊢; refine pure_y 0 (some 39) (bz 17 1) ?_; refine pure_y 1 (some 40) (bz 17 3) ?_; refine pure_y 3 (some 42) (bz 17 11) ?_; refine pure_y 4 (some 43) (bz 17 27) ?_; refine pure_y 7 (some 46) (bz 17 155) ?_; refine pure_y 8 (some 47) (bz 17 411) ?_; refine pure_y 10 (some 49) (bz 17 1435) ?_; refine pure_y 11 (some 50) (bz 17 3483) ?_; refine take_y 2 (some 41) (bz 17 3487) hHeld ?_; refine take_y 5 (some 44) (bz 17 3519) hHeld ?_; refine pure_y 6 (some 45) (bz 17 3583) ?_; refine take_y 9 (some 48) (bz 17 4095) hHeld ?_; refine take_y 12 (some 51) (bz 17 8191) hHeld ?_; refine pure_y 13 (some 52) (bz 17 16383) ?_; (refine one_y 14 (none) (bz 17 32767) fun K hK => ?_); have hy0_ := (blk_cell B4.out 0).trans rfl; have hy1_ := (blk_cell B4.out 1).trans rfl; have hf4_ := blk_frozen B4.out; refine skip_ (w1 := ?_) (by rfl) rfl ?_ ?_; rotate_left; (go_simp; rfl); clear hy0_ hy1_ hf4_; refine hK.out _ _ ⟨(blk_cell (blk_far (blk_far B8.out (p := ⟨g4, 0, none⟩) (blk_ne_ B8.out B4.out (by decide)) (.int .i64 z.b0)) (p := ⟨g4, 1, none⟩) (blk_ne_ B8.out B4.out (by decide)) (.int .i64 z.h0)) 7).trans rfl, (blk_cell (blk_far (blk_far B8.out (p := ⟨g4, 0, none⟩) (blk_ne_ B8.out B4.out (by decide)) (.int .i64 z.b0)) (p := ⟨g4, 1, none⟩) (blk_ne_ B8.out B4.out (by decide)) (.int .i64 z.h0)) 8).trans rfl, (blk_cell (blk_far (blk_far B8.out (p := ⟨g4, 0, none⟩) (blk_ne_ B8.out B4.out (by decide)) (.int .i64 z.b0)) (p := ⟨g4, 1, none⟩) (blk_ne_ B8.out B4.out (by decide)) (.int .i64 z.h0)) 9).trans rfl, (blk_cell (blk_far (blk_far B8.out (p := ⟨g4, 0, none⟩) (blk_ne_ B8.out B4.out (by decide)) (.int .i64 z.b0)) (p := ⟨g4, 1, none⟩) (blk_ne_ B8.out B4.out (by decide)) (.int .i64 z.h0)) 10).trans rfl⟩ (fun hHeld => ?_); clear hK K; refine last_ (i := 15) (N := none) (bz 17 65535) rfl rfl (by kernel_rfl) (by decide) (fun K hK => ?_); have F5 := Aside0.mk (blk_far (blk_far B5.out (p := ⟨g4, 0, none⟩) N45.out.symm (.int .i64 z.b0)) (p := ⟨g4, 1, none⟩) N45.out.symm (.int .i64 z.h0)); have hy2_ := (blk_cell F5.out 0).trans rfl; have hy3_ := (blk_cell F5.out 1).trans rfl; have hf5_ := blk_frozen F5.out; refine skip_ (w1 := ?_) (by rfl) rfl ?_ ?_; rotate_left; (go_simp; rfl); refine hK.out _ _ ?_; clear hK K; refine pure_y 16 (some 6) (bz 17 131071) ?_; refine done_ (by kernel_rfl) ?_; clear hHeld hy2_ hy3_ hf5_; go_wp2; have P4 := Aside0.mk (blk_far (blk_far (blk_put (cs' := #[.int .i64 z.b0, .int .i64 z.h0]) (blk_set B4.out 0 (.int .i64 z.b0)) 1 (.int .i64 z.h0) rfl) (p := ⟨g5, 0, none⟩) N45.out (.int .i64 z.b1)) (p := ⟨g5, 1, none⟩) N45.out (.int .i64 z.h1)); have P5 := Aside0.mk (blk_put (cs' := #[.int .i64 z.b1, .int .i64 z.h1]) (blk_set F5.out 0 (.int .i64 z.b1)) 1 (.int .i64 z.h1) rfl); have HBe := Aside0.mk (below_set (j := 1) (v := .int .i64 z.h1) (below_set (j := 0) (v := .int .i64 z.b1) (below_set (j := 1) (v := .int .i64 z.h0) (below_set (j := 0) (v := .int .i64 z.b0) HB.out GE4.out) GE4.out) GE5.out) GE5.out); exact bodyPost_ret (results_list (rs := [.cell 4 56, .cell 5 56, .tmp 6]) rfl (by simp) (.cell g4 56 #[.int .i64 z.b0, .int .i64 z.h0] (0, 0) _ rfl P4.out Try.underlying56 rfl (by kernel_rfl) (.cell g5 56 #[.int .i64 z.b1, .int .i64 z.h1] (0, 0) _ rfl P5.out Try.underlying56 rfl (by kernel_rfl) (.tmp .nil)))) rfl ⟨rfl, HBe.out⟩
theorem ship_Drafts.calls (a0_0 : Int) (a0_1 : Int) (a0_2 : Int) (A0_3 : Option Addr) (c0_3 : Nat) (l0_3 : List (S85)) (a0_4 : Int) (A0_5 : Option Addr) (c0_5 : Nat) (l0_5 : List (S59)) (A0_6 : Option Addr) (c0_6 : Nat) (l0_6 : List (S79)) (A1 : Option Addr) (c1 : Nat) (l1 : List Int) (r1 : Int) (r2 : Int) (r3 : Int) (r4 : Int) (r5 : Int) (w : World) (hr0_3 : Kd.C k85 w A0_3 l0_3.length l0_3) (hc0_3 : l0_3.length ≤ c0_3) (hr0_5 : Kd.C k59 w A0_5 l0_5.length l0_5) (hc0_5 : l0_5.length ≤ c0_5) (hr0_6 : Kd.C k79 w A0_6 l0_6.length l0_6) (hc0_6 : l0_6.length ≤ c0_6) (hr1 : Kd.C (Kd.int .i64) w A1 l1.length l1) (hc1 : l1.length ≤ c1) (h : ship_Drafts.f a0_0 a0_1 a0_2 l0_3 a0_4 l0_5 l0_6 l1 = some (r1, r2, r3, r4, r5)) :
  Calls Try.prog 35 #[.agg #[.int .i64 a0_0, .int .i64 a0_1, .int .i64 a0_2, .slice A0_3 l0_3.length c0_3, .int .i64 a0_4, .slice A0_5 l0_5.length c0_5, .slice A0_6 l0_6.length c0_6], .slice A1 l1.length c1] w fun e w' => e = .returned (.tuple #[.agg #[.int .i64 r1, .int .i64 r2], .agg #[.int .i64 r3, .int .i64 r4], .int .i64 r5]) ∧ Below w.heap.size w w' := drafts_calls ⟨a0_0, a0_1, a0_2, A0_3, c0_3, l0_3, a0_4, A0_5, c0_5, l0_5, A0_6, c0_6, l0_6⟩ A1 c1 l1 r1 r2 r3 r4 r5 w ⟨hr0_3, hc0_3, hr0_5, hc0_5, hr0_6, hc0_6⟩ hr1 hc1 h
end Go.Proofs.Ytodmemndaaiolaa.PC7
namespace Go.Proofs.Ytodmemndaaiolaa.PC7
open Go.RowKit Go.Proofs.YtodmemndaaiolaaW.PrintWords Go.Proofs.YtodmemndaaiolaaW.PrintLast Go.Proofs.YtodmemndaaiolaaW.PrintMore
attribute [local go_sem] max2_int min2_int max_two min_two max_three min_three max_four min_four
set_option linter.unusedVariables false
set_option linter.unusedSimpArgs false
theorem eqA56 (d : Nat) (w : World) (x0 y0 : Int) (x1 y1 : Int) :
    (Op.equalIn (d + 2) 56 (.agg #[.int .i64 x0, .int .i64 x1]) (.agg #[.int .i64 y0, .int .i64 y1])).run Try.prog w = .ok (x0 == y0 && (x1 == y1)) w := by
  refine eqA_of Try.underlying56 (by kernel_rfl) ?_
  refine eqf_cons (by rfl) (by go_simp; rfl) (by go_simp; rfl) (by go_simp) ?_
  exact eqf_last (by rfl) (by go_simp; rfl) (by go_simp; rfl) (by go_simp)
attribute [local go_sem high] eqA56
def swarfkit_EqualRanges.l0 : Nat → List (S56) → List (S56) → Bool → Int → Option (Bool)
 | 0, _, _, _, _ => none
 | k + 1, x0, x1, x5, x6 => if x5 = true then (if x6 < (x0.length : Int) then (if 0 ≤ x6 then (if x6 < (x1.length : Int) then (swarfkit_EqualRanges.l0 k x0 x1 (((rd_T56 x0 x6).f0) == ((rd_T56 x1 x6).f0) && (((rd_T56 x0 x6).f1) == ((rd_T56 x1 x6).f1))) (wrap64 (x6 + 1))) else (none)) else (none)) else (some x5)) else (some x5)
def swarfkit_EqualRanges.f (k : Nat) (l0 : List (S56)) (l1 : List (S56)) : Option (Bool) := swarfkit_EqualRanges.l0 k l0 l1 ((l0.length : Int) == (l1.length : Int)) 0
theorem swarfkit_EqualRanges.mono_l : ∀ k, (∀ y0 y1 y2 y3, LeO (swarfkit_EqualRanges.l0 k y0 y1 y2 y3) (swarfkit_EqualRanges.l0 (k + 1) y0 y1 y2 y3))
 | 0 => fun _ _ _ _ r h => by simp [swarfkit_EqualRanges.l0] at h
 | k + 1 => by
  have ih0 := swarfkit_EqualRanges.mono_l k
  ·
   intro y0 y1 y2 y3; unfold swarfkit_EqualRanges.l0
   repeat' (with_reducible first | exact ih0 _ _ _ _ | exact LeO.refl _ | exact LeO.none _ | refine LeO.ite ?_ ?_ | refine LeO.bind ?_ (fun _ => ?_))
theorem swarfkit_EqualRanges.mono : ∀ a0 a1 k, LeO (swarfkit_EqualRanges.f k a0 a1) (swarfkit_EqualRanges.f (k + 1) a0 a1) := by
 intro a0 a1 k
 have ih0 := swarfkit_EqualRanges.mono_l k
 unfold swarfkit_EqualRanges.f
 repeat' (with_reducible first | exact ih0 _ _ _ _ | exact LeO.refl _ | exact LeO.none _ | refine LeO.ite ?_ ?_ | refine LeO.bind ?_ (fun _ => ?_))
set_option maxHeartbeats 8000000 in
set_option maxRecDepth 100000 in
theorem swarfkit_EqualRanges.calls (k : Nat) (A0 : Option Addr) (c0 : Nat) (l0 : List (S56)) (A1 : Option Addr) (c1 : Nat) (l1 : List (S56)) (r : Bool) (w : World) (hr0 : Kd.C k56 w A0 l0.length l0) (hc0 : l0.length ≤ c0) (hr1 : Kd.C k56 w A1 l1.length l1) (hc1 : l1.length ≤ c1) (h : swarfkit_EqualRanges.f k l0 l1 = some r) :
  Calls Try.prog 24 #[.slice A0 l0.length c0, .slice A1 l1.length c1] w fun e w' => e = .returned (.bool r) ∧ Drawn0 w w' := by
 have hu56 := Try.underlying56
 have HR0 := Aside0.mk hr0
 have HC0 := Aside0.mk hc0
 clear hr0 hc0
 have HR1 := Aside0.mk hr1
 have HC1 := Aside0.mk hc1
 clear hr1 hc1
 have H : (swarfkit_EqualRanges.l0 k l0 l1 ((l0.length : Int) == (l1.length : Int)) 0) = some r := h
 clear h
 have H' := Aside0.mk H
 clear H
 go_enter Try.func24, Try.ntmps24
 go_wp2
 repeat (go_quiet (fail); try go_wp2)
 go_loopg [5, 6] k (fun kq v5 v6 w' => ∃ (x5_1 : Bool) (x6_1 : Int), v5 = .bool x5_1 ∧ v6 = .int .i64 x6_1 ∧ Aside0 (swarfkit_EqualRanges.l0 kq l0 l1 x5_1 x6_1 = some r) ∧ Aside0 (kq ≤ k) ∧ Drawn0 w w')
 case atStart => exact ⟨(((l0.length : Int) == (l1.length : Int))), (0), (by first | rfl | (simp; done) | (simp [*]; done)), (by first | rfl | (simp; done) | (simp [*]; done)), H', ⟨Nat.le_refl _⟩, by repeat (first | exact Drawn0.refl _ | apply Drawn0.step)⟩
 case round =>
  clear H'; obtain ⟨x5_1, x6_1, rfl, rfl, HA, HK1, ⟨m1, rfl⟩⟩ := hrel; cases gk with
  | zero => exact absurd HA.out (by simp [swarfkit_EqualRanges.l0])
  | succ k1 =>
   have H := HA.out; clear HA; simp only [swarfkit_EqualRanges.l0] at H; by_cases c3 : x5_1 = true
   ·
    subst c3; (have H1 : (if x6_1 < (l0.length : Int) then (if 0 ≤ x6_1 then (if x6_1 < (l1.length : Int) then (swarfkit_EqualRanges.l0 k1 l0 l1 (((rd_T56 l0 x6_1).f0) == ((rd_T56 l1 x6_1).f0) && (((rd_T56 l0 x6_1).f1) == ((rd_T56 l1 x6_1).f1))) (wrap64 (x6_1 + 1))) else (none)) else (none)) else (some true)) = some r := by rw [if_pos rfl] at H; exact H); clear H; have H := H1; clear H1; by_cases c4 : x6_1 < (l0.length : Int)
    ·
     rw [if_pos c4] at H; have c4b0 : decide (x6_1 < (l0.length : Int)) = true := decide_eq_true c4; clear c4; by_cases c5 : 0 ≤ x6_1
     ·
      rw [if_pos c5] at H; have c5b0 : decide (0 ≤ x6_1) = true := decide_eq_true c5; clear c5; by_cases c6 : x6_1 < (l1.length : Int)
      ·
       rw [if_pos c6] at H; have c6b0 : decide (x6_1 < (l1.length : Int)) = true := decide_eq_true c6; clear c6; have H' := Aside0.mk H; clear H; have p159 : 0 ≤ (x6_1 : Int) := of_x; have q159 : x6_1 < (l0.length : Int) := of_x; obtain ⟨ad159, e159, hx159_0, hx159_1⟩ := at_T56 HR0.out x6_1 p159 q159; (cases e159); replace p159 := eq_true p159; replace q159 := eq_true q159; have p160 : 0 ≤ (x6_1 : Int) := of_x; have q160 : x6_1 < (l1.length : Int) := of_x; obtain ⟨ad160, e160, hx160_0, hx160_1⟩ := at_T56 HR1.out x6_1 p160 q160; (cases e160); replace p160 := eq_true p160; replace q160 := eq_true q160; go_wp2
       repeat (go_quiet (fail); try go_wp2)
       go_roundg k1
       case measure => have := HK1.out; omega
       case rel => exact ⟨((((rd_T56 l0 x6_1).f0) == ((rd_T56 l1 x6_1).f0) && (((rd_T56 l0 x6_1).f1) == ((rd_T56 l1 x6_1).f1)))), (wrap64 (x6_1 + 1)), (by first | rfl | (simp; done) | (simp [*]; done)), (by first | rfl | (simp; done) | (simp [*]; done)), H', ⟨by have := HK1.out; omega⟩, by repeat (first | exact Drawn0.refl _ | apply Drawn0.step)⟩
      ·
       rw [if_neg c6] at H; exact absurd H (by simp)
     ·
      rw [if_neg c5] at H; exact absurd H (by simp)
    ·
     rw [if_neg c4] at H; have c4b0 : decide (x6_1 < (l0.length : Int)) = false := decide_eq_false c4; clear c4; obtain rfl := Option.some.inj H; go_wp2
     repeat (go_quiet (fail); try go_wp2)
     go_ret; exact ⟨by first | rfl | (simp; done) | (simp [*]; done), by repeat (first | exact Drawn0.refl _ | apply Drawn0.step)⟩
   ·
    replace c3 := Bool.eq_false_iff.mpr c3; subst c3; replace H : (some false) = some r := ifn_x H; obtain rfl := Option.some.inj H; go_wp2
    repeat (go_quiet (fail); try go_wp2)
    go_ret; exact ⟨by first | rfl | (simp; done) | (simp [*]; done), by repeat (first | exact Drawn0.refl _ | apply Drawn0.step)⟩
def swarfkit_EqualInts.l0 : Nat → List Int → List Int → Bool → Int → Option (Bool)
 | 0, _, _, _, _ => none
 | k + 1, x0, x1, x5, x6 => if x5 = true then (if x6 < (x0.length : Int) then (if 0 ≤ x6 then (if x6 < (x1.length : Int) then (swarfkit_EqualInts.l0 k x0 x1 ((rd x0 x6) == (rd x1 x6)) (wrap64 (x6 + 1))) else (none)) else (none)) else (some x5)) else (some x5)
def swarfkit_EqualInts.f (k : Nat) (l0 : List Int) (l1 : List Int) : Option (Bool) := swarfkit_EqualInts.l0 k l0 l1 ((l0.length : Int) == (l1.length : Int)) 0
theorem swarfkit_EqualInts.mono_l : ∀ k, (∀ y0 y1 y2 y3, LeO (swarfkit_EqualInts.l0 k y0 y1 y2 y3) (swarfkit_EqualInts.l0 (k + 1) y0 y1 y2 y3))
 | 0 => fun _ _ _ _ r h => by simp [swarfkit_EqualInts.l0] at h
 | k + 1 => by
  have ih0 := swarfkit_EqualInts.mono_l k
  ·
   intro y0 y1 y2 y3; unfold swarfkit_EqualInts.l0
   repeat' (with_reducible first | exact ih0 _ _ _ _ | exact LeO.refl _ | exact LeO.none _ | refine LeO.ite ?_ ?_ | refine LeO.bind ?_ (fun _ => ?_))
theorem swarfkit_EqualInts.mono : ∀ a0 a1 k, LeO (swarfkit_EqualInts.f k a0 a1) (swarfkit_EqualInts.f (k + 1) a0 a1) := by
 intro a0 a1 k
 have ih0 := swarfkit_EqualInts.mono_l k
 unfold swarfkit_EqualInts.f
 repeat' (with_reducible first | exact ih0 _ _ _ _ | exact LeO.refl _ | exact LeO.none _ | refine LeO.ite ?_ ?_ | refine LeO.bind ?_ (fun _ => ?_))
set_option maxHeartbeats 8000000 in
set_option maxRecDepth 100000 in
theorem swarfkit_EqualInts.calls (k : Nat) (A0 : Option Addr) (c0 : Nat) (l0 : List Int) (A1 : Option Addr) (c1 : Nat) (l1 : List Int) (r : Bool) (w : World) (hr0 : Kd.C (Kd.int .i64) w A0 l0.length l0) (hc0 : l0.length ≤ c0) (hr1 : Kd.C (Kd.int .i64) w A1 l1.length l1) (hc1 : l1.length ≤ c1) (h : swarfkit_EqualInts.f k l0 l1 = some r) :
  Calls Try.prog 26 #[.slice A0 l0.length c0, .slice A1 l1.length c1] w fun e w' => e = .returned (.bool r) ∧ Drawn0 w w' := by
 have HR0 := Aside0.mk hr0
 have HC0 := Aside0.mk hc0
 clear hr0 hc0
 have HR1 := Aside0.mk hr1
 have HC1 := Aside0.mk hc1
 clear hr1 hc1
 have H : (swarfkit_EqualInts.l0 k l0 l1 ((l0.length : Int) == (l1.length : Int)) 0) = some r := h
 clear h
 have H' := Aside0.mk H
 clear H
 go_enter Try.func26, Try.ntmps26
 go_wp2
 repeat (go_quiet (fail); try go_wp2)
 go_loopg [5, 6] k (fun kq v5 v6 w' => ∃ (x5_1 : Bool) (x6_1 : Int), v5 = .bool x5_1 ∧ v6 = .int .i64 x6_1 ∧ Aside0 (swarfkit_EqualInts.l0 kq l0 l1 x5_1 x6_1 = some r) ∧ Aside0 (kq ≤ k) ∧ Drawn0 w w')
 case atStart => exact ⟨(((l0.length : Int) == (l1.length : Int))), (0), (by first | rfl | (simp; done) | (simp [*]; done)), (by first | rfl | (simp; done) | (simp [*]; done)), H', ⟨Nat.le_refl _⟩, by repeat (first | exact Drawn0.refl _ | apply Drawn0.step)⟩
 case round =>
  clear H'; obtain ⟨x5_1, x6_1, rfl, rfl, HA, HK1, ⟨m1, rfl⟩⟩ := hrel; cases gk with
  | zero => exact absurd HA.out (by simp [swarfkit_EqualInts.l0])
  | succ k1 =>
   have H := HA.out; clear HA; simp only [swarfkit_EqualInts.l0] at H; by_cases c3 : x5_1 = true
   ·
    subst c3; (have H1 : (if x6_1 < (l0.length : Int) then (if 0 ≤ x6_1 then (if x6_1 < (l1.length : Int) then (swarfkit_EqualInts.l0 k1 l0 l1 ((rd l0 x6_1) == (rd l1 x6_1)) (wrap64 (x6_1 + 1))) else (none)) else (none)) else (some true)) = some r := by rw [if_pos rfl] at H; exact H); clear H; have H := H1; clear H1; by_cases c4 : x6_1 < (l0.length : Int)
    ·
     rw [if_pos c4] at H; have c4b0 : decide (x6_1 < (l0.length : Int)) = true := decide_eq_true c4; clear c4; by_cases c5 : 0 ≤ x6_1
     ·
      rw [if_pos c5] at H; have c5b0 : decide (0 ≤ x6_1) = true := decide_eq_true c5; clear c5; by_cases c6 : x6_1 < (l1.length : Int)
      ·
       rw [if_pos c6] at H; have c6b0 : decide (x6_1 < (l1.length : Int)) = true := decide_eq_true c6; clear c6; have H' := Aside0.mk H; clear H; have p161 : 0 ≤ (x6_1 : Int) := of_x; have q161 : x6_1 < (l0.length : Int) := of_x; obtain ⟨ad161, e161, hx161_0⟩ := Kd.at_int HR0.out x6_1 p161 q161; (cases e161); replace p161 := eq_true p161; replace q161 := eq_true q161; have p162 : 0 ≤ (x6_1 : Int) := of_x; have q162 : x6_1 < (l1.length : Int) := of_x; obtain ⟨ad162, e162, hx162_0⟩ := Kd.at_int HR1.out x6_1 p162 q162; (cases e162); replace p162 := eq_true p162; replace q162 := eq_true q162; go_wp2
       repeat (go_quiet (fail); try go_wp2)
       go_roundg k1
       case measure => have := HK1.out; omega
       case rel => exact ⟨(((rd l0 x6_1) == (rd l1 x6_1))), (wrap64 (x6_1 + 1)), (by first | rfl | (simp; done) | (simp [*]; done)), (by first | rfl | (simp; done) | (simp [*]; done)), H', ⟨by have := HK1.out; omega⟩, by repeat (first | exact Drawn0.refl _ | apply Drawn0.step)⟩
      ·
       rw [if_neg c6] at H; exact absurd H (by simp)
     ·
      rw [if_neg c5] at H; exact absurd H (by simp)
    ·
     rw [if_neg c4] at H; have c4b0 : decide (x6_1 < (l0.length : Int)) = false := decide_eq_false c4; clear c4; obtain rfl := Option.some.inj H; go_wp2
     repeat (go_quiet (fail); try go_wp2)
     go_ret; exact ⟨by first | rfl | (simp; done) | (simp [*]; done), by repeat (first | exact Drawn0.refl _ | apply Drawn0.step)⟩
   ·
    replace c3 := Bool.eq_false_iff.mpr c3; subst c3; replace H : (some false) = some r := ifn_x H; obtain rfl := Option.some.inj H; go_wp2
    repeat (go_quiet (fail); try go_wp2)
    go_ret; exact ⟨by first | rfl | (simp; done) | (simp [*]; done), by repeat (first | exact Drawn0.refl _ | apply Drawn0.step)⟩
def swarflaw07_rng.f (a0 : Int) (a1 : Int) : Option (Int × Int) := some (a0, a1)
set_option maxHeartbeats 8000000 in
set_option maxRecDepth 100000 in
theorem swarflaw07_rng.calls (a0 : Int) (a1 : Int) (r1 : Int) (r2 : Int) (w : World) (h : swarflaw07_rng.f a0 a1 = some (r1, r2)) :
  Calls Try.prog 32 #[.int .i64 a0, .int .i64 a1] w fun e w' => e = .returned (.agg #[.int .i64 r1, .int .i64 r2]) ∧ Below w.heap.size w w' := by
 have hu56 := Try.underlying56
 have HB := Aside0.mk (Below.refl w.heap.size w)
 have H : (some (a0, a1)) = some (r1, r2) := h
 clear h
 simp only [Option.some.injEq, Prod.mk.injEq] at H
 obtain ⟨rfl, rfl⟩ := H
 go_enter Try.func32, Try.ntmps32
 go_wp2_with (first | (refine box_r (N := 4) rfl (cs := #[.int .i64 0, .int .i64 0]) (t := 56) ?_; intro gb163 hg w3 hbox hb; have BK163 := Aside0.mk (hbox); have GW163 := gw_x hg HB; have GE163 := GW163; replace HB := Aside0.mk (below_step (below_x HB.out) hb); clear hb hbox hg; obtain ⟨hfz4_0, _, _⟩ := cf2 BK163))
 refine bodyPost_ret (results_cell_row rfl _ _ gb163 56 #[.int .i64 a0, .int .i64 a1] (0, 0) _ rfl (blk_z BK163.out) Try.underlying56 rfl (by kernel_rfl)) rfl ?_
 exact rt_y HB
def swarflaw07_voyage.f  : Option (Int × Int × Int × (List (S85)) × Int × (List (S59)) × (List (S79))) := (swarflaw07_rng.f 30 40).bind fun bt168 => ((swarflaw07_rng.f 1600 1650).bind fun bt170 => ((swarflaw07_rng.f 120 150).bind fun bt175 => ((swarflaw07_rng.f 1300 1350).bind fun bt177 => ((swarflaw07_rng.f 1600 1650).bind fun bt179 => ((swarflaw07_rng.f 1200 1250).bind fun bt181 => ((swarflaw07_rng.f 200 220).bind fun bt189 => ((swarflaw07_rng.f 180 200).bind fun bt191 => ((swarflaw07_rng.f 150 150).bind fun bt193 => (some (800, 200, 300, (([(⟨400, 2000, 500⟩ : S85), (⟨400, 500, 2000⟩ : S85)] : List (S85))), 60, (([(⟨(⟨bt168.1, bt168.2⟩ : S56), (([(⟨0, (⟨bt170.1, bt170.2⟩ : S56)⟩ : S62)] : List (S62)))⟩ : S59), (⟨(⟨bt175.1, bt175.2⟩ : S56), (([(⟨0, (⟨bt177.1, bt177.2⟩ : S56)⟩ : S62), (⟨240, (⟨bt179.1, bt179.2⟩ : S56)⟩ : S62), (⟨480, (⟨bt181.1, bt181.2⟩ : S56)⟩ : S62)] : List (S62)))⟩ : S59)] : List (S59))), (([(⟨(⟨bt189.1, bt189.2⟩ : S56), 50⟩ : S79), (⟨(⟨bt191.1, bt191.2⟩ : S56), 40⟩ : S79), (⟨(⟨bt193.1, bt193.2⟩ : S56), 45⟩ : S79)] : List (S79)))))))))))))
set_option maxHeartbeats 8000000 in
set_option maxRecDepth 100000 in
theorem swarflaw07_voyage.calls  (r1 : Int) (r2 : Int) (r3 : Int) (r4 : List (S85)) (r5 : Int) (r6 : List (S59)) (r7 : List (S79)) (w : World) (h : swarflaw07_voyage.f  = some (r1, r2, r3, r4, r5, r6, r7)) :
  Calls Try.prog 52 #[] w fun e w' => ∃ v3_ v5_ v6_ : Value, e = .returned (.agg #[.int .i64 r1, .int .i64 r2, .int .i64 r3, v3_, .int .i64 r5, v5_, v6_]) ∧ Kd.R k85 85 w' w.heap.size (fun k_ => (w.heap.size ≤ k_)) v3_ r4 ∧ Kd.N k59 59 w' w.heap.size (fun k_ => (w.heap.size ≤ k_) ∧ some k_ ≠ (v3_ : Value).ownBlock ∧ some k_ ≠ (v6_ : Value).ownBlock) v5_ r6 ∧ Kd.R k79 79 w' w.heap.size (fun k_ => (w.heap.size ≤ k_)) v6_ r7 ∧ Below w.heap.size w w' := by
 have hu26 := Try.underlying26
 have hu85 := Try.underlying85
 have hu62 := Try.underlying62
 have hu59 := Try.underlying59
 have hu79 := Try.underlying79
 have HB := Aside0.mk (Below.refl w.heap.size w)
 have H : ((swarflaw07_rng.f 30 40).bind fun bt168 => ((swarflaw07_rng.f 1600 1650).bind fun bt170 => ((swarflaw07_rng.f 120 150).bind fun bt175 => ((swarflaw07_rng.f 1300 1350).bind fun bt177 => ((swarflaw07_rng.f 1600 1650).bind fun bt179 => ((swarflaw07_rng.f 1200 1250).bind fun bt181 => ((swarflaw07_rng.f 200 220).bind fun bt189 => ((swarflaw07_rng.f 180 200).bind fun bt191 => ((swarflaw07_rng.f 150 150).bind fun bt193 => (some (800, 200, 300, (([(⟨400, 2000, 500⟩ : S85), (⟨400, 500, 2000⟩ : S85)] : List (S85))), 60, (([(⟨(⟨bt168.1, bt168.2⟩ : S56), (([(⟨0, (⟨bt170.1, bt170.2⟩ : S56)⟩ : S62)] : List (S62)))⟩ : S59), (⟨(⟨bt175.1, bt175.2⟩ : S56), (([(⟨0, (⟨bt177.1, bt177.2⟩ : S56)⟩ : S62), (⟨240, (⟨bt179.1, bt179.2⟩ : S56)⟩ : S62), (⟨480, (⟨bt181.1, bt181.2⟩ : S56)⟩ : S62)] : List (S62)))⟩ : S59)] : List (S59))), (([(⟨(⟨bt189.1, bt189.2⟩ : S56), 50⟩ : S79), (⟨(⟨bt191.1, bt191.2⟩ : S56), 40⟩ : S79), (⟨(⟨bt193.1, bt193.2⟩ : S56), 45⟩ : S79)] : List (S79)))))))))))))) = some (r1, r2, r3, r4, r5, r6, r7) := h
 clear h
 obtain ⟨y165, hy165⟩ : ∃ y_ : List (S85), y_ = (([(⟨400, 2000, 500⟩ : S85), (⟨400, 500, 2000⟩ : S85)] : List (S85))) := ⟨_, rfl⟩
 replace H : ((swarflaw07_rng.f 30 40).bind fun bt168 => ((swarflaw07_rng.f 1600 1650).bind fun bt170 => ((swarflaw07_rng.f 120 150).bind fun bt175 => ((swarflaw07_rng.f 1300 1350).bind fun bt177 => ((swarflaw07_rng.f 1600 1650).bind fun bt179 => ((swarflaw07_rng.f 1200 1250).bind fun bt181 => ((swarflaw07_rng.f 200 220).bind fun bt189 => ((swarflaw07_rng.f 180 200).bind fun bt191 => ((swarflaw07_rng.f 150 150).bind fun bt193 => (some (800, 200, 300, y165, 60, (([(⟨(⟨bt168.1, bt168.2⟩ : S56), (([(⟨0, (⟨bt170.1, bt170.2⟩ : S56)⟩ : S62)] : List (S62)))⟩ : S59), (⟨(⟨bt175.1, bt175.2⟩ : S56), (([(⟨0, (⟨bt177.1, bt177.2⟩ : S56)⟩ : S62), (⟨240, (⟨bt179.1, bt179.2⟩ : S56)⟩ : S62), (⟨480, (⟨bt181.1, bt181.2⟩ : S56)⟩ : S62)] : List (S62)))⟩ : S59)] : List (S59))), (([(⟨(⟨bt189.1, bt189.2⟩ : S56), 50⟩ : S79), (⟨(⟨bt191.1, bt191.2⟩ : S56), 40⟩ : S79), (⟨(⟨bt193.1, bt193.2⟩ : S56), 45⟩ : S79)] : List (S79)))))))))))))) = some (r1, r2, r3, r4, r5, r6, r7) := by first | (rw [hy165]; with_reducible exact H) | (have H2_ := (Option.bind_some _ _).symm.trans H; rw [hy165]; with_reducible exact H2_) | (have H2_ := (Option.bind_some _ _).symm.trans H; with_reducible exact H2_) | with_reducible exact H | (rw [hy165]; exact H) | exact H
 have Ny165 := Aside0.mk hy165
 clear hy165
 replace H := Option.bind_eq_some_iff.mp H
 obtain ⟨⟨t168, t169⟩, A10, H⟩ := H
 try dsimp only at H
 have A1 := Aside0.mk A10
 clear A10
 replace H := Option.bind_eq_some_iff.mp H
 obtain ⟨⟨t170, t171⟩, A20, H⟩ := H
 try dsimp only at H
 have A2 := Aside0.mk A20
 clear A20
 obtain ⟨y172, hy172⟩ : ∃ y_ : List (S62), y_ = (([(⟨0, (⟨t170, t171⟩ : S56)⟩ : S62)] : List (S62))) := ⟨_, rfl⟩
 replace H : ((swarflaw07_rng.f 120 150).bind fun bt175 => ((swarflaw07_rng.f 1300 1350).bind fun bt177 => ((swarflaw07_rng.f 1600 1650).bind fun bt179 => ((swarflaw07_rng.f 1200 1250).bind fun bt181 => ((swarflaw07_rng.f 200 220).bind fun bt189 => ((swarflaw07_rng.f 180 200).bind fun bt191 => ((swarflaw07_rng.f 150 150).bind fun bt193 => (some (800, 200, 300, y165, 60, (([(⟨(⟨t168, t169⟩ : S56), y172⟩ : S59), (⟨(⟨bt175.1, bt175.2⟩ : S56), (([(⟨0, (⟨bt177.1, bt177.2⟩ : S56)⟩ : S62), (⟨240, (⟨bt179.1, bt179.2⟩ : S56)⟩ : S62), (⟨480, (⟨bt181.1, bt181.2⟩ : S56)⟩ : S62)] : List (S62)))⟩ : S59)] : List (S59))), (([(⟨(⟨bt189.1, bt189.2⟩ : S56), 50⟩ : S79), (⟨(⟨bt191.1, bt191.2⟩ : S56), 40⟩ : S79), (⟨(⟨bt193.1, bt193.2⟩ : S56), 45⟩ : S79)] : List (S79)))))))))))) = some (r1, r2, r3, r4, r5, r6, r7) := by first | (rw [hy172]; with_reducible exact H) | (have H2_ := (Option.bind_some _ _).symm.trans H; rw [hy172]; with_reducible exact H2_) | (have H2_ := (Option.bind_some _ _).symm.trans H; with_reducible exact H2_) | with_reducible exact H | (rw [hy172]; exact H) | exact H
 have Ny172 := Aside0.mk hy172
 clear hy172
 replace H := Option.bind_eq_some_iff.mp H
 obtain ⟨⟨t175, t176⟩, A30, H⟩ := H
 try dsimp only at H
 have A3 := Aside0.mk A30
 clear A30
 replace H := Option.bind_eq_some_iff.mp H
 obtain ⟨⟨t177, t178⟩, A40, H⟩ := H
 try dsimp only at H
 have A4 := Aside0.mk A40
 clear A40
 replace H := Option.bind_eq_some_iff.mp H
 obtain ⟨⟨t179, t180⟩, A50, H⟩ := H
 try dsimp only at H
 have A5 := Aside0.mk A50
 clear A50
 replace H := Option.bind_eq_some_iff.mp H
 obtain ⟨⟨t181, t182⟩, A60, H⟩ := H
 try dsimp only at H
 have A6 := Aside0.mk A60
 clear A60
 obtain ⟨y183, hy183⟩ : ∃ y_ : List (S62), y_ = (([(⟨0, (⟨t177, t178⟩ : S56)⟩ : S62), (⟨240, (⟨t179, t180⟩ : S56)⟩ : S62), (⟨480, (⟨t181, t182⟩ : S56)⟩ : S62)] : List (S62))) := ⟨_, rfl⟩
 replace H : ((swarflaw07_rng.f 200 220).bind fun bt189 => ((swarflaw07_rng.f 180 200).bind fun bt191 => ((swarflaw07_rng.f 150 150).bind fun bt193 => (some (800, 200, 300, y165, 60, (([(⟨(⟨t168, t169⟩ : S56), y172⟩ : S59), (⟨(⟨t175, t176⟩ : S56), y183⟩ : S59)] : List (S59))), (([(⟨(⟨bt189.1, bt189.2⟩ : S56), 50⟩ : S79), (⟨(⟨bt191.1, bt191.2⟩ : S56), 40⟩ : S79), (⟨(⟨bt193.1, bt193.2⟩ : S56), 45⟩ : S79)] : List (S79)))))))) = some (r1, r2, r3, r4, r5, r6, r7) := by first | (rw [hy183]; with_reducible exact H) | (have H2_ := (Option.bind_some _ _).symm.trans H; rw [hy183]; with_reducible exact H2_) | (have H2_ := (Option.bind_some _ _).symm.trans H; with_reducible exact H2_) | with_reducible exact H | (rw [hy183]; exact H) | exact H
 have Ny183 := Aside0.mk hy183
 clear hy183
 obtain ⟨y186, hy186⟩ : ∃ y_ : List (S59), y_ = (([(⟨(⟨t168, t169⟩ : S56), y172⟩ : S59), (⟨(⟨t175, t176⟩ : S56), y183⟩ : S59)] : List (S59))) := ⟨_, rfl⟩
 replace H : ((swarflaw07_rng.f 200 220).bind fun bt189 => ((swarflaw07_rng.f 180 200).bind fun bt191 => ((swarflaw07_rng.f 150 150).bind fun bt193 => (some (800, 200, 300, y165, 60, y186, (([(⟨(⟨bt189.1, bt189.2⟩ : S56), 50⟩ : S79), (⟨(⟨bt191.1, bt191.2⟩ : S56), 40⟩ : S79), (⟨(⟨bt193.1, bt193.2⟩ : S56), 45⟩ : S79)] : List (S79)))))))) = some (r1, r2, r3, r4, r5, r6, r7) := by first | (rw [hy186]; with_reducible exact H) | (have H2_ := (Option.bind_some _ _).symm.trans H; rw [hy186]; with_reducible exact H2_) | (have H2_ := (Option.bind_some _ _).symm.trans H; with_reducible exact H2_) | with_reducible exact H | (rw [hy186]; exact H) | exact H
 have Ny186 := Aside0.mk hy186
 clear hy186
 replace H := Option.bind_eq_some_iff.mp H
 obtain ⟨⟨t189, t190⟩, A70, H⟩ := H
 try dsimp only at H
 have A7 := Aside0.mk A70
 clear A70
 replace H := Option.bind_eq_some_iff.mp H
 obtain ⟨⟨t191, t192⟩, A80, H⟩ := H
 try dsimp only at H
 have A8 := Aside0.mk A80
 clear A80
 replace H := Option.bind_eq_some_iff.mp H
 obtain ⟨⟨t193, t194⟩, A90, H⟩ := H
 try dsimp only at H
 have A9 := Aside0.mk A90
 clear A90
 obtain ⟨y195, hy195⟩ : ∃ y_ : List (S79), y_ = (([(⟨(⟨t189, t190⟩ : S56), 50⟩ : S79), (⟨(⟨t191, t192⟩ : S56), 40⟩ : S79), (⟨(⟨t193, t194⟩ : S56), 45⟩ : S79)] : List (S79))) := ⟨_, rfl⟩
 replace H : (some (800, 200, 300, y165, 60, y186, y195)) = some (r1, r2, r3, r4, r5, r6, r7) := by first | (rw [hy195]; with_reducible exact H) | (have H2_ := (Option.bind_some _ _).symm.trans H; rw [hy195]; with_reducible exact H2_) | (have H2_ := (Option.bind_some _ _).symm.trans H; with_reducible exact H2_) | with_reducible exact H | (rw [hy195]; exact H) | exact H
 have Ny195 := Aside0.mk hy195
 clear hy195
 simp only [Option.some.injEq, Prod.mk.injEq] at H
 obtain ⟨rfl, rfl, rfl, rfl, rfl, rfl, rfl⟩ := H
 go_enter Try.func52, Try.ntmps52
 go_wp2_with (first | (refine box_r (N := 0) rfl (cs := #[.int .i64 0, .int .i64 0, .int .i64 0, .slice none 0 0, .int .i64 0, .slice none 0 0, .slice none 0 0]) (t := 26) ?_; intro gb164 hg w10 hbox hb; have BK164 := Aside0.mk (hbox); have GW164 := gw_x hg HB; have GE164 := GW164; replace HB := Aside0.mk (below_step (below_x HB.out) hb); clear hb hbox hg) | ((with_reducible refine gate_dst (N := 3) rfl ?_); refine Kd.R_lit k85 _ 85 ?hg (N := 3) ?hd (xs := ([(⟨400, 2000, 500⟩ : S85), (⟨400, 500, 2000⟩ : S85)] : List (S85))) (inner := [.int .i64 400, .int .i64 2000, .int .i64 500, .int .i64 400, .int .i64 500, .int .i64 2000]) (ok := fun _ => True) (okp := fun _ => True) ?hr ?hp (fun _ hk => hk) trivial (Below.refl _ _) (Nat.le_refl _) (by simp) ?_; (case hd => rfl); (case hg => rfl); (case hr => first | (go_simp; done) | (go_simp; rfl)); (case hp => exact (Reps.c3 (show Kd.M k85 _ _ _ (⟨400, 2000, 500⟩ : S85) [.int .i64 400, .int .i64 2000, .int .i64 500] from (k85_mkM _ _ _ (⟨400, 2000, 500⟩ : S85) )) (Reps.c3 (show Kd.M k85 _ _ _ (⟨400, 500, 2000⟩ : S85) [.int .i64 400, .int .i64 500, .int .i64 2000] from (k85_mkM _ _ _ (⟨400, 500, 2000⟩ : S85) )) (Reps.none _ _)))); intro v166 w11 ho12 hb hg_ hnew_; clear hg_ hnew_; (first | rw [← Ny165.out] at ho12 | (simp only [Int.reduceToNat] at ho12; rw [← Ny165.out] at ho12)); have HO167 := Aside0.mk (Kd.R_lower (Kd.R_newM (M := fun k_ => (w.heap.size ≤ k_)) ho12 (below_size (by exact below_y HB.out)) (fun k_ h_ => h_)) (below_size (by exact below_y HB.out))); replace BK164 := bk_x BK164 hb; replace HB := bl_x HB hb; clear hb ho12) | (refine goesG_x 32 rfl (some 4) Try.func32 #[.int .i64 30, .int .i64 40] ?_; (with_reducible refine (swarflaw07_rng.calls 30 40 t168 t169 _ A1.out).mono ?_); rintro e w13 ⟨rfl, hb⟩; refine ⟨_, rfl, ?_⟩; replace HO167 := Aside0.mk (Kd.R_below (Kd.R_x HO167.out) hb); replace BK164 := bk_x BK164 hb; replace HB := bl_x HB hb; (try clear hb); (try clear hk); (try clear hi)) | (refine goesG_x 32 rfl (some 5) Try.func32 #[.int .i64 1600, .int .i64 1650] ?_; (with_reducible refine (swarflaw07_rng.calls 1600 1650 t170 t171 _ A2.out).mono ?_); rintro e w14 ⟨rfl, hb⟩; refine ⟨_, rfl, ?_⟩; replace HO167 := Aside0.mk (Kd.R_below (Kd.R_x HO167.out) hb); replace BK164 := bk_x BK164 hb; replace HB := bl_x HB hb; (try clear hb); (try clear hk); (try clear hi)) | ((with_reducible refine gate_dst (N := 7) rfl ?_); refine Kd.R_lit k62 _ 62 ?hg (N := 7) ?hd (xs := ([(⟨0, (⟨t170, t171⟩ : S56)⟩ : S62)] : List (S62))) (inner := [.int .i64 0, .int .i64 t170, .int .i64 t171]) (ok := fun _ => True) (okp := fun _ => True) ?hr ?hp (fun _ hk => hk) trivial (Below.refl _ _) (Nat.le_refl _) (by simp) ?_; (case hd => rfl); (case hg => rfl); (case hr => first | (go_simp; done) | (go_simp; rfl)); (case hp => exact (Reps.c3 (show Kd.M k62 _ _ _ (⟨0, (⟨t170, t171⟩ : S56)⟩ : S62) [.int .i64 0, .int .i64 t170, .int .i64 t171] from (k62_mkM _ _ _ (⟨0, (⟨t170, t171⟩ : S56)⟩ : S62) )) (Reps.none _ _))); intro v173 w15 ho16 hb hg_ hnew_; clear hg_ hnew_; (first | rw [← Ny172.out] at ho16 | (simp only [Int.reduceToNat] at ho16; rw [← Ny172.out] at ho16)); replace HO167 := Aside0.mk (Kd.R_below (Kd.R_x HO167.out) hb); have HO174 := Aside0.mk (Kd.R_lower (Kd.R_newM (M := fun k_ => (w.heap.size ≤ k_)) ho16 (below_size (by exact below_y HB.out)) (fun k_ h_ => h_)) (below_size (by exact below_y HB.out))); replace BK164 := bk_x BK164 hb; replace HB := bl_x HB hb; clear hb ho16; obtain ⟨Ao17, co17, eo17⟩ := Kd.R_slice HO174.out; subst eo17) | (refine goesG_x 32 rfl (some 9) Try.func32 #[.int .i64 120, .int .i64 150] ?_; (with_reducible refine (swarflaw07_rng.calls 120 150 t175 t176 _ A3.out).mono ?_); rintro e w18 ⟨rfl, hb⟩; refine ⟨_, rfl, ?_⟩; replace HO167 := Aside0.mk (Kd.R_below (Kd.R_x HO167.out) hb); replace HO174 := Aside0.mk (Kd.R_below (Kd.R_x HO174.out) hb); replace BK164 := bk_x BK164 hb; replace HB := bl_x HB hb; (try clear hb); (try clear hk); (try clear hi)) | (refine goesG_x 32 rfl (some 10) Try.func32 #[.int .i64 1300, .int .i64 1350] ?_; (with_reducible refine (swarflaw07_rng.calls 1300 1350 t177 t178 _ A4.out).mono ?_); rintro e w19 ⟨rfl, hb⟩; refine ⟨_, rfl, ?_⟩; replace HO167 := Aside0.mk (Kd.R_below (Kd.R_x HO167.out) hb); replace HO174 := Aside0.mk (Kd.R_below (Kd.R_x HO174.out) hb); replace BK164 := bk_x BK164 hb; replace HB := bl_x HB hb; (try clear hb); (try clear hk); (try clear hi)) | (refine goesG_x 32 rfl (some 12) Try.func32 #[.int .i64 1600, .int .i64 1650] ?_; (with_reducible refine (swarflaw07_rng.calls 1600 1650 t179 t180 _ A5.out).mono ?_); rintro e w20 ⟨rfl, hb⟩; refine ⟨_, rfl, ?_⟩; replace HO167 := Aside0.mk (Kd.R_below (Kd.R_x HO167.out) hb); replace HO174 := Aside0.mk (Kd.R_below (Kd.R_x HO174.out) hb); replace BK164 := bk_x BK164 hb; replace HB := bl_x HB hb; (try clear hb); (try clear hk); (try clear hi)) | (refine goesG_x 32 rfl (some 14) Try.func32 #[.int .i64 1200, .int .i64 1250] ?_; (with_reducible refine (swarflaw07_rng.calls 1200 1250 t181 t182 _ A6.out).mono ?_); rintro e w21 ⟨rfl, hb⟩; refine ⟨_, rfl, ?_⟩; replace HO167 := Aside0.mk (Kd.R_below (Kd.R_x HO167.out) hb); replace HO174 := Aside0.mk (Kd.R_below (Kd.R_x HO174.out) hb); replace BK164 := bk_x BK164 hb; replace HB := bl_x HB hb; (try clear hb); (try clear hk); (try clear hi)) | ((with_reducible refine gate_dst (N := 16) rfl ?_); refine Kd.R_lit k62 _ 62 ?hg (N := 16) ?hd (xs := ([(⟨0, (⟨t177, t178⟩ : S56)⟩ : S62), (⟨240, (⟨t179, t180⟩ : S56)⟩ : S62), (⟨480, (⟨t181, t182⟩ : S56)⟩ : S62)] : List (S62))) (inner := [.int .i64 0, .int .i64 t177, .int .i64 t178, .int .i64 240, .int .i64 t179, .int .i64 t180, .int .i64 480, .int .i64 t181, .int .i64 t182]) (ok := fun _ => True) (okp := fun _ => True) ?hr ?hp (fun _ hk => hk) trivial (Below.refl _ _) (Nat.le_refl _) (by simp) ?_; (case hd => rfl); (case hg => rfl); (case hr => first | (go_simp; done) | (go_simp; rfl)); (case hp => exact (Reps.c3 (show Kd.M k62 _ _ _ (⟨0, (⟨t177, t178⟩ : S56)⟩ : S62) [.int .i64 0, .int .i64 t177, .int .i64 t178] from (k62_mkM _ _ _ (⟨0, (⟨t177, t178⟩ : S56)⟩ : S62) )) (Reps.c3 (show Kd.M k62 _ _ _ (⟨240, (⟨t179, t180⟩ : S56)⟩ : S62) [.int .i64 240, .int .i64 t179, .int .i64 t180] from (k62_mkM _ _ _ (⟨240, (⟨t179, t180⟩ : S56)⟩ : S62) )) (Reps.c3 (show Kd.M k62 _ _ _ (⟨480, (⟨t181, t182⟩ : S56)⟩ : S62) [.int .i64 480, .int .i64 t181, .int .i64 t182] from (k62_mkM _ _ _ (⟨480, (⟨t181, t182⟩ : S56)⟩ : S62) )) (Reps.none _ _))))); intro v184 w22 ho23 hb hg_ hnew_; clear hg_ hnew_; (first | rw [← Ny183.out] at ho23 | (simp only [Int.reduceToNat] at ho23; rw [← Ny183.out] at ho23)); replace HO167 := Aside0.mk (Kd.R_below (Kd.R_x HO167.out) hb); have HO185 := Aside0.mk (Kd.R_lower (Kd.R_new' (Kd.R_newM (M := fun k_ => (w.heap.size ≤ k_)) ho23 (below_size (by exact below_y HB.out)) (fun k_ h_ => h_)) (Kd.R_lt (Kd.R_x HO174.out))) (below_size (by exact below_y HB.out))); replace HO174 := Aside0.mk (Kd.R_elder' (Kd.R_x HO174.out) (Kd.R_base ho23) hb); replace BK164 := bk_x BK164 hb; replace HB := bl_x HB hb; clear hb ho23; obtain ⟨Ao24, co24, eo24⟩ := Kd.R_slice HO185.out; subst eo24) | ((with_reducible refine gate_dst (N := 18) rfl ?_); refine Kd.N_lit k59 _ 59 ?hg (N' := 18) ?hd (xs := ([(⟨(⟨t168, t169⟩ : S56), y172⟩ : S59), (⟨(⟨t175, t176⟩ : S56), y183⟩ : S59)] : List (S59))) (inner := [.int .i64 t168, .int .i64 t169, .slice Ao17 y172.length co17, .int .i64 t175, .int .i64 t176, .slice Ao24 y183.length co24]) (ok := (fun k_ => (w.heap.size ≤ k_) ∧ some k_ ≠ (v166 : Value).ownBlock ∧ k_ ≠ gb164)) (okp := (fun k_ => (w.heap.size ≤ k_) ∧ some k_ ≠ (v166 : Value).ownBlock ∧ k_ ≠ gb164)) ?hr ?hp (fun _ hk => hk) ((show ∀ k_, w22.heap.size ≤ k_ → (fun k_ => (w.heap.size ≤ k_) ∧ some k_ ≠ (v166 : Value).ownBlock ∧ k_ ≠ gb164) k_ from fun k_ hk => ⟨(Nat.le_trans (below_size (by exact below_y HB.out)) hk), Kd.fresh' (Kd.R_lt (Kd.R_x HO167.out)) k_ hk, Kd.freshB (g := gb164) (o := .cells #[.int .i64 0, .int .i64 0, .int .i64 0, .slice none 0 0, .int .i64 0, .slice none 0 0, .slice none 0 0] 26 (0, 0)) (blk_x BK164.out) k_ hk⟩) _ (Nat.le_refl _)) (Below.refl _ _) (Nat.le_refl _) (by simp) ?_; (case hd => rfl); (case hg => rfl); (case hr => first | (go_simp; done) | (go_simp; rfl)); (case hp => exact (Reps.c3 (show Kd.FK k59 _ _ (⟨(⟨t168, t169⟩ : S56), y172⟩ : S59) [.int .i64 t168, .int .i64 t169, .slice Ao17 y172.length co17] from (k59_mkF _ _ (⟨(⟨t168, t169⟩ : S56), y172⟩ : S59) (Kd.R_reads' (Kd.R_mono (ok' := (fun k_ => (w.heap.size ≤ k_) ∧ some k_ ≠ (v166 : Value).ownBlock ∧ k_ ≠ gb164)) (Kd.R_types (Kd.R_apart' (HO174.out) (Kd.R_typed HO167.out) (by decide)) BK164.out (by decide)) (fun k_ hk => ⟨hk.1.1.1.1, ⟨hk.1.2, hk.2⟩⟩))).2.1 (Kd.R_F (Kd.R_mono (ok' := (fun k_ => (w.heap.size ≤ k_) ∧ some k_ ≠ (v166 : Value).ownBlock ∧ k_ ≠ gb164)) (Kd.R_types (Kd.R_apart' (HO174.out) (Kd.R_typed HO167.out) (by decide)) BK164.out (by decide)) (fun k_ hk => ⟨hk.1.1.1.1, ⟨hk.1.2, hk.2⟩⟩))))) (Reps.c3 (show Kd.FK k59 _ _ (⟨(⟨t175, t176⟩ : S56), y183⟩ : S59) [.int .i64 t175, .int .i64 t176, .slice Ao24 y183.length co24] from (k59_mkF _ _ (⟨(⟨t175, t176⟩ : S56), y183⟩ : S59) (Kd.R_reads' (Kd.R_mono (ok' := (fun k_ => (w.heap.size ≤ k_) ∧ some k_ ≠ (v166 : Value).ownBlock ∧ k_ ≠ gb164)) (Kd.R_types (Kd.R_apart' (HO185.out) (Kd.R_typed HO167.out) (by decide)) BK164.out (by decide)) (fun k_ hk => ⟨hk.1.1.1.1, ⟨hk.1.2, hk.2⟩⟩))).2.1 (Kd.R_F (Kd.R_mono (ok' := (fun k_ => (w.heap.size ≤ k_) ∧ some k_ ≠ (v166 : Value).ownBlock ∧ k_ ≠ gb164)) (Kd.R_types (Kd.R_apart' (HO185.out) (Kd.R_typed HO167.out) (by decide)) BK164.out (by decide)) (fun k_ hk => ⟨hk.1.1.1.1, ⟨hk.1.2, hk.2⟩⟩))))) (Reps.none _ _)))); intro v187 w25 ho26 hb hg_ hnew_; clear hg_ hnew_; (first | rw [← Ny186.out] at ho26 | (simp only [Int.reduceToNat] at ho26; rw [← Ny186.out] at ho26)); replace HO167 := Aside0.mk (Kd.R_below (Kd.R_x HO167.out) hb); have HO188 := Aside0.mk (Kd.N_lower ho26 (below_size (by exact below_y HB.out))); replace BK164 := bk_x BK164 hb; replace HB := bl_x HB hb; clear HO174 HO185; clear hb ho26) | (refine goesG_x 32 rfl (some 19) Try.func32 #[.int .i64 200, .int .i64 220] ?_; (with_reducible refine (swarflaw07_rng.calls 200 220 t189 t190 _ A7.out).mono ?_); rintro e w27 ⟨rfl, hb⟩; refine ⟨_, rfl, ?_⟩; replace HO167 := Aside0.mk (Kd.R_below (Kd.R_x HO167.out) hb); replace HO188 := Aside0.mk (Kd.N_below (Kd.N_x HO188.out) hb); replace BK164 := bk_x BK164 hb; replace HB := bl_x HB hb; (try clear hb); (try clear hk); (try clear hi)) | (refine goesG_x 32 rfl (some 21) Try.func32 #[.int .i64 180, .int .i64 200] ?_; (with_reducible refine (swarflaw07_rng.calls 180 200 t191 t192 _ A8.out).mono ?_); rintro e w28 ⟨rfl, hb⟩; refine ⟨_, rfl, ?_⟩; replace HO167 := Aside0.mk (Kd.R_below (Kd.R_x HO167.out) hb); replace HO188 := Aside0.mk (Kd.N_below (Kd.N_x HO188.out) hb); replace BK164 := bk_x BK164 hb; replace HB := bl_x HB hb; (try clear hb); (try clear hk); (try clear hi)) | (refine goesG_x 32 rfl (some 23) Try.func32 #[.int .i64 150, .int .i64 150] ?_; (with_reducible refine (swarflaw07_rng.calls 150 150 t193 t194 _ A9.out).mono ?_); rintro e w29 ⟨rfl, hb⟩; refine ⟨_, rfl, ?_⟩; replace HO167 := Aside0.mk (Kd.R_below (Kd.R_x HO167.out) hb); replace HO188 := Aside0.mk (Kd.N_below (Kd.N_x HO188.out) hb); replace BK164 := bk_x BK164 hb; replace HB := bl_x HB hb; (try clear hb); (try clear hk); (try clear hi)) | ((with_reducible refine gate_dst (N := 25) rfl ?_); refine Kd.R_lit k79 _ 79 ?hg (N := 25) ?hd (xs := ([(⟨(⟨t189, t190⟩ : S56), 50⟩ : S79), (⟨(⟨t191, t192⟩ : S56), 40⟩ : S79), (⟨(⟨t193, t194⟩ : S56), 45⟩ : S79)] : List (S79))) (inner := [.int .i64 t189, .int .i64 t190, .int .i64 50, .int .i64 t191, .int .i64 t192, .int .i64 40, .int .i64 t193, .int .i64 t194, .int .i64 45]) (ok := fun _ => True) (okp := fun _ => True) ?hr ?hp (fun _ hk => hk) trivial (Below.refl _ _) (Nat.le_refl _) (by simp) ?_; (case hd => rfl); (case hg => rfl); (case hr => first | (go_simp; done) | (go_simp; rfl)); (case hp => exact (Reps.c3 (show Kd.M k79 _ _ _ (⟨(⟨t189, t190⟩ : S56), 50⟩ : S79) [.int .i64 t189, .int .i64 t190, .int .i64 50] from (k79_mkM _ _ _ (⟨(⟨t189, t190⟩ : S56), 50⟩ : S79) )) (Reps.c3 (show Kd.M k79 _ _ _ (⟨(⟨t191, t192⟩ : S56), 40⟩ : S79) [.int .i64 t191, .int .i64 t192, .int .i64 40] from (k79_mkM _ _ _ (⟨(⟨t191, t192⟩ : S56), 40⟩ : S79) )) (Reps.c3 (show Kd.M k79 _ _ _ (⟨(⟨t193, t194⟩ : S56), 45⟩ : S79) [.int .i64 t193, .int .i64 t194, .int .i64 45] from (k79_mkM _ _ _ (⟨(⟨t193, t194⟩ : S56), 45⟩ : S79) )) (Reps.none _ _))))); intro v196 w30 ho31 hb hg_ hnew_; clear hg_ hnew_; (first | rw [← Ny195.out] at ho31 | (simp only [Int.reduceToNat] at ho31; rw [← Ny195.out] at ho31)); replace HO167 := Aside0.mk (Kd.R_below (Kd.R_x HO167.out) hb); replace HO188 := Aside0.mk (Kd.N_elder' (Kd.N_x HO188.out) (Kd.R_base ho31) hb); have HO197 := Aside0.mk (Kd.R_lower (Kd.R_newM (M := fun k_ => (w.heap.size ≤ k_)) ho31 (below_size (by exact below_y HB.out)) (fun k_ h_ => h_)) (below_size (by exact below_y HB.out))); replace BK164 := bk_x BK164 hb; replace HB := bl_x HB hb; clear hb ho31; obtain ⟨Ao32, co32, eo32⟩ := Kd.R_slice HO197.out; subst eo32; obtain ⟨Ao33, co33, eo33⟩ := Kd.N_slice HO188.out; subst eo33; obtain ⟨Ao34, co34, eo34⟩ := Kd.R_slice HO167.out; subst eo34; obtain ⟨hfz35_0, _, _, _, _, _, _, _⟩ := cf7 BK164))
 refine bodyPost_ret (results_cell_row rfl _ _ gb164 26 #[.int .i64 800, .int .i64 200, .int .i64 300, .slice Ao34 y165.length co34, .int .i64 60, .slice Ao33 y186.length co33, .slice Ao32 y195.length co32] (0, 0) _ rfl (blk_z BK164.out) Try.underlying26 rfl (by kernel_rfl)) rfl ?_
 exact ⟨_, _, _, by first | rfl | (simp [errW_none, errW_some] <;> rfl) | (simp [*, errW_none, errW_some] <;> rfl), by (with_reducible repeat (first | apply Kd.R_alloc | apply Kd.R_drewN | apply Kd.R_drew)); exact Kd.R_mono (Kd.R_far (p := ⟨gb164, 6, none⟩) (Kd.R_far (p := ⟨gb164, 5, none⟩) (Kd.R_far (p := ⟨gb164, 4, none⟩) (Kd.R_far (p := ⟨gb164, 3, none⟩) (Kd.R_far (p := ⟨gb164, 2, none⟩) (Kd.R_far (p := ⟨gb164, 1, none⟩) (Kd.R_far (p := ⟨gb164, 0, none⟩) (Kd.R_types HO167.out BK164.out (by decide)) (fun _ hk => hk.2) (.int .i64 800)) (fun _ hk => hk.2) (.int .i64 200)) (fun _ hk => hk.2) (.int .i64 300)) (fun _ hk => hk.2) (.slice Ao34 y165.length co34)) (fun _ hk => hk.2) (.int .i64 60)) (fun _ hk => hk.2) (.slice Ao33 y186.length co33)) (fun _ hk => hk.2) (.slice Ao32 y195.length co32)) (fun _ hk => hk.1.1), by (with_reducible repeat (first | apply Kd.N_alloc | apply Kd.N_drewN | apply Kd.N_drew)); exact Kd.N_mono (Kd.N_far (p := ⟨gb164, 6, none⟩) (Kd.N_far (p := ⟨gb164, 5, none⟩) (Kd.N_far (p := ⟨gb164, 4, none⟩) (Kd.N_far (p := ⟨gb164, 3, none⟩) (Kd.N_far (p := ⟨gb164, 2, none⟩) (Kd.N_far (p := ⟨gb164, 1, none⟩) (Kd.N_far (p := ⟨gb164, 0, none⟩) (Kd.N_mono HO188.out (fun k_ hk => (⟨hk, hk.1.2.2⟩ : _ ∧ k_ ≠ gb164))) (fun _ hk => hk.2) (.int .i64 800)) (fun _ hk => hk.2) (.int .i64 200)) (fun _ hk => hk.2) (.int .i64 300)) (fun _ hk => hk.2) (.slice Ao34 y165.length co34)) (fun _ hk => hk.2) (.int .i64 60)) (fun _ hk => hk.2) (.slice Ao33 y186.length co33)) (fun _ hk => hk.2) (.slice Ao32 y195.length co32)) (fun _ hk => ⟨hk.1.1.1, ⟨hk.1.1.2.1, hk.1.2⟩⟩), by (with_reducible repeat (first | apply Kd.R_alloc | apply Kd.R_drewN | apply Kd.R_drew)); exact Kd.R_mono (Kd.R_far (p := ⟨gb164, 6, none⟩) (Kd.R_far (p := ⟨gb164, 5, none⟩) (Kd.R_far (p := ⟨gb164, 4, none⟩) (Kd.R_far (p := ⟨gb164, 3, none⟩) (Kd.R_far (p := ⟨gb164, 2, none⟩) (Kd.R_far (p := ⟨gb164, 1, none⟩) (Kd.R_far (p := ⟨gb164, 0, none⟩) (Kd.R_types HO197.out BK164.out (by decide)) (fun _ hk => hk.2) (.int .i64 800)) (fun _ hk => hk.2) (.int .i64 200)) (fun _ hk => hk.2) (.int .i64 300)) (fun _ hk => hk.2) (.slice Ao34 y165.length co34)) (fun _ hk => hk.2) (.int .i64 60)) (fun _ hk => hk.2) (.slice Ao33 y186.length co33)) (fun _ hk => hk.2) (.slice Ao32 y195.length co32)) (fun _ hk => hk.1.1), by exact below_y HB.out⟩
end Go.Proofs.Ytodmemndaaiolaa.PC7
namespace Go.Proofs.Ytodmemndaaiolaa.PC7
set_option linter.unusedVariables false
set_option linter.unusedSimpArgs false
open Go.RowKit Go.Proofs.YtodmemndaaiolaaW.PrintWords Go.Proofs.YtodmemndaaiolaaW.PrintLast Go.Proofs.YtodmemndaaiolaaW.PrintMore
theorem ev_of_mono {α : Type} {g : Nat → Option α} {r : α} (hm : ∀ k, LeO (g k) (g (k + 1))) {K : Nat} (h : g K = some r) : Ev g r := by
  refine ⟨K, fun k hk => ?_⟩
  induction hk with
  | refl => exact h
  | step hk ih => exact hm _ _ ih
def vHolds : List S85 := [⟨400, 2000, 500⟩, ⟨400, 500, 2000⟩]
def vSills : List S59 := [⟨⟨30, 40⟩, [⟨0, ⟨1600, 1650⟩⟩]⟩, ⟨⟨120, 150⟩, [⟨0, ⟨1300, 1350⟩⟩, ⟨240, ⟨1600, 1650⟩⟩, ⟨480, ⟨1200, 1250⟩⟩]⟩]
def vLots : List S79 := [⟨⟨200, 220⟩, 50⟩, ⟨⟨180, 200⟩, 40⟩, ⟨⟨150, 150⟩, 45⟩]
theorem voyage_f : swarflaw07_voyage.f = some (800, 200, 300, vHolds, 60, vSills, vLots) := rfl
theorem v_check : chkE 800 200 300 vHolds 60 vSills vLots = some 0 := limO_of (ev_of_mono (fun k => ship_Check.mono _ _ _ _ _ _ _ k) (K := 60) (by kernel_rfl))
theorem v_stow : stowE 800 200 300 vHolds 60 vSills vLots [0, 1, -1] = some 0 := limO_of (ev_of_mono (fun k => ship_CheckStowage.mono _ _ _ _ _ _ _ _ k) (K := 60) (by kernel_rfl))
theorem v_drafts : ship_Drafts.f 800 200 300 vHolds 60 vSills vLots [0, 1, -1] = some (1290000, 1340000, 1260000, 1310000, 0) := by
  unfold ship_Drafts.f
  rw [v_stow]
  kernel_rfl
theorem v_sail : ship_Sail.f 800 200 300 vHolds 60 vSills vLots [0, 1, -1] = some (1, [⟨90, 100⟩, ⟨240, 250⟩], 0) := by
  unfold ship_Sail.f
  rw [v_stow]
  kernel_rfl
section
variable (K : Nat) (light under trim : Int) (holds : List S85) (leaves : Int) (sills : List S59) (lots : List S79)
def goodK (s : List Int) : Option Bool :=
  (ship_checkStowage.f K light under trim holds leaves sills lots s).bind fun e => if e = 0 then (ship_apart.f K light under trim holds leaves sills lots s).bind fun x => (ship_level.f K light under trim holds leaves sills lots x.1 x.2).bind fun b =>
    if b = true then (ladenO light holds lots s).bind fun q => some (!decide ((sailO under leaves sills q false).length < sills.length)) else some false else some false
end
theorem goodK_good {K : Nat} {light under trim : Int} {holds : List S85} {leaves : Int} {sills : List S59} {lots : List S79} {s : List Int} {b : Bool} (h : goodK K light under trim holds leaves sills lots s = some b) : goodO light under trim holds leaves sills lots s = some b := by
  unfold goodK at h
  obtain ⟨e, he, h⟩ := Option.bind_eq_some_iff.1 h
  unfold goodO
  refine Option.bind_eq_some_iff.2 ⟨e, limO_of (ev_of_mono (fun k => ship_checkStowage.mono _ _ _ _ _ _ _ _ k) he), ?_⟩
  by_cases h0 : e = 0
  · rw [if_pos h0] at h ⊢
    obtain ⟨x, hx, h⟩ := Option.bind_eq_some_iff.1 h
    refine Option.bind_eq_some_iff.2 ⟨x, limO_of (ev_of_mono (fun k => ship_apart.mono _ _ _ _ _ _ _ _ k) hx), ?_⟩
    obtain ⟨c, hc, h⟩ := Option.bind_eq_some_iff.1 h
    exact Option.bind_eq_some_iff.2 ⟨c, limO_of (ev_of_mono (fun k => ship_level.mono _ _ _ _ _ _ _ _ _ k) hc), h⟩
  · rw [if_neg h0] at h ⊢
    exact h
theorem bestOf_congr {g1 g2 : List Int → Bool} (w : List Int → Int) : ∀ (L : List (List Int)) (b : List Int × Int), (∀ t, t ∈ L → g1 t = g2 t) → bestOf g1 w L b = bestOf g2 w L b
  | [], _, _ => rfl
  | t :: L, b, h => by
    show bestOf g1 w L (if g1 t = true then (if b.2 < w t then (t, w t) else b) else b) = bestOf g2 w L (if g2 t = true then (if b.2 < w t then (t, w t) else b) else b)
    rw [h t (by simp)]
    exact bestOf_congr w L _ (fun x hx => h x (List.mem_cons_of_mem _ hx))
theorem v_all : (stowsL 2 3).all (fun t => (goodK 60 800 200 300 vHolds 60 vSills vLots t).isSome) = true := by kernel_rfl
theorem v_best : ship_Best.f 800 200 300 vHolds 60 vSills vLots = some ([0, -1, 1], 95, 0) := by
  have hk : ∀ t, t ∈ stowsL 2 3 → goodO 800 200 300 vHolds 60 vSills vLots t = some ((goodK 60 800 200 300 vHolds 60 vSills vLots t).getD false) := fun t ht => by
    have h1 := List.all_eq_true.1 v_all t ht
    cases hg : goodK 60 800 200 300 vHolds 60 vSills vLots t with
    | none => rw [hg] at h1; cases h1
    | some b => exact goodK_good hg
  have hg : ∀ t, t ∈ stowsL 2 3 → goodB 800 200 300 vHolds 60 vSills vLots t = (goodK 60 800 200 300 vHolds 60 vSills vLots t).getD false := fun t ht => by
    unfold goodB; rw [hk t ht]; rfl
  have hb := bestOf_congr (fun t => worthGo vLots 0 t 0) (stowsL 2 3) ([], -1) hg
  have he : bestOf (fun t => (goodK 60 800 200 300 vHolds 60 vSills vLots t).getD false) (fun t => worthGo vLots 0 t 0) (stowsL 2 3) ([], -1) = ([0, -1, 1], 95) := by kernel_rfl
  rw [he] at hb
  unfold ship_Best.f
  refine Option.bind_eq_some_iff.2 ⟨0, v_check, ?_⟩
  rw [if_pos rfl, if_pos ⟨by decide, by decide, by decide, fun t ht => by rw [hk t ht]; rfl⟩]
  show some ((bestOf (goodB 800 200 300 vHolds 60 vSills vLots) (fun t => worthGo vLots 0 t 0) (stowsL 2 3) ([], -1)).1, (bestOf (goodB 800 200 300 vHolds 60 vSills vLots) (fun t => worthGo vLots 0 t 0) (stowsL 2 3) ([], -1)).2, (0 : Int)) = _
  rw [hb]
end Go.Proofs.Ytodmemndaaiolaa.PC7
namespace Go.Proofs.Ytodmemndaaiolaa.PC7
open Go.RowKit Go.Proofs.YtodmemndaaiolaaW.PrintWords Go.Proofs.YtodmemndaaiolaaW.PrintLast Go.Proofs.YtodmemndaaiolaaW.PrintMore
attribute [local go_sem] max2_int min2_int max_two min_two max_three min_three max_four min_four
set_option linter.unusedVariables false
set_option linter.unusedSimpArgs false
attribute [local go_sem high] eqA56
noncomputable def swarflaw07_awake.f (k : Nat)  : Option (Bool) := (swarflaw07_voyage.f).bind fun bt198 => ((ship_Drafts.f bt198.1 bt198.2.1 bt198.2.2.1 bt198.2.2.2.1 bt198.2.2.2.2.1 bt198.2.2.2.2.2.1 bt198.2.2.2.2.2.2 (([0, 1, (-1)] : List Int))).bind fun bt214 => ((swarflaw07_voyage.f).bind fun bt221 => ((ship_Sail.f bt221.1 bt221.2.1 bt221.2.2.1 bt221.2.2.2.1 bt221.2.2.2.2.1 bt221.2.2.2.2.2.1 bt221.2.2.2.2.2.2 (([0, 1, (-1)] : List Int))).bind fun bt237 => ((swarflaw07_voyage.f).bind fun bt242 => ((ship_Best.f bt242.1 bt242.2.1 bt242.2.2.1 bt242.2.2.2.1 bt242.2.2.2.2.1 bt242.2.2.2.2.2.1 bt242.2.2.2.2.2.2).bind fun bt255 => (if bt214.2.2.2.2 = 0 then (if bt237.2.2 = 0 then (if bt255.2.2 = 0 then ((swarflaw07_rng.f 1290000 1340000).bind fun bt260 => (if (bt214.1 == bt260.1 && (bt214.2.1 == bt260.2)) = true then ((swarflaw07_rng.f 1260000 1310000).bind fun bt262 => (if (bt214.2.2.1 == bt262.1 && (bt214.2.2.2.1 == bt262.2)) = true then (if bt237.1 = 1 then (if bt255.2.1 = 95 then ((swarfkit_EqualInts.f k bt255.1 (([0, (-1), 1] : List Int))).bind fun t267 => (if t267 = true then ((swarflaw07_rng.f 90 100).bind fun bt268 => ((swarflaw07_rng.f 240 250).bind fun bt270 => ((swarfkit_EqualRanges.f k bt237.2.1 (([(⟨bt268.1, bt268.2⟩ : S56), (⟨bt270.1, bt270.2⟩ : S56)] : List (S56)))).bind fun t275 => (some t275)))) else (some false))) else (some false)) else (some false)) else (some false))) else (some false))) else (some false)) else (some false)) else (some false)))))))
theorem swarflaw07_awake.mono : ∀ k, LeO (swarflaw07_awake.f k ) (swarflaw07_awake.f (k + 1) ) := by
 intro  k
 unfold swarflaw07_awake.f
 repeat' (with_reducible first | exact swarfkit_EqualInts.mono _ _ _ | exact swarfkit_EqualRanges.mono _ _ _ | exact LeO.refl _ | exact LeO.none _ | refine LeO.ite ?_ ?_ | refine LeO.bind ?_ (fun _ => ?_))
def swarflaw07_awake.T4 : Bool × List (List Nat × List Nat) := (true, [([], []), ([0], [0]), ([1], [1]), ([2], [2]), ([3, 2], [2, 3]), ([2, 4], [2, 4]), ([5, 2], [5]), ([6], [6]), ([7, 6], [6, 7]), ([6, 8], [6, 8]), ([9, 6], [9]), ([10], [10]), ([10, 10], [10]), ([11, 12, 10], [10, 11, 12]), ([10, 13], [10, 13]), ([14, 12], [14]), ([15], [15]), ([15, 15], [15]), ([16, 17, 15], [15, 16, 17]), ([15, 18], [15, 18]), ([19, 17], [19]), ([20], [20]), ([21, 20], [20, 21]), ([20, 22], [20, 22]), ([23, 20], [23]), ([24], [24]), ([25, 24], [24, 25]), ([24, 26], [24, 26]), ([27, 24], [27]), ([28], [28]), ([28], [28]), ([29, 30, 28, 28], [28, 29, 30]), ([28, 31], [28, 31]), ([32, 31], [32]), ([33], [33]), ([33, 33], [33]), ([35, 33], [33]), ([35, 36, 33], [33, 35, 36]), ([34, 37, 36, 33], [33, 34, 37]), ([33, 38], [33, 38]), ([39, 38, 0, 1, 2, 3, 4, 5, 6, 7, 8, 9, 10, 11, 12, 13, 14, 15, 16, 17, 18, 19, 20, 21, 22, 23, 24, 25, 26, 27, 28, 29, 30, 31, 32, 33, 34, 35, 36, 37, 38, 39], [39])])
def swarflaw07_awake.B4 : List Nat := [0, 1, 3, 7, 15, 31, 63, 127, 255, 511, 1023, 2047, 2047, 8191, 16383, 32767, 65535, 65535, 262143, 524287, 1048575, 2097151, 4194303, 8388607, 16777215, 33554431, 67108863, 134217727, 268435455, 536870911, 536870911, 2147483647, 4294967295, 8589934591, 17179869183, 17179869183, 51539607551, 120259084287, 274877906943, 549755813887, 1099511627775]
theorem swarflaw07_awake.tab4 : rtab .any (opsOf Try.f15 4) = swarflaw07_awake.T4 := by kernel_rfl
theorem swarflaw07_awake.bits4 : waitsOk swarflaw07_awake.T4.2 swarflaw07_awake.B4 = true := by kernel_rfl
end Go.Proofs.Ytodmemndaaiolaa.PC7
namespace Go.Proofs.Ytodmemndaaiolaa.PC7
set_option linter.unusedVariables false
set_option linter.unusedSimpArgs false
open Go.RowKit Go.Proofs.YtodmemndaaiolaaW.PrintWords Go.Proofs.YtodmemndaaiolaaW.PrintLast Go.Proofs.YtodmemndaaiolaaW.PrintMore
theorem awake_ev : Ev (fun k => swarflaw07_awake.f k) true := by
  have h1 : ∀ k, swarflaw07_awake.f k = ((swarfkit_EqualInts.f k [0, -1, 1] [0, -1, 1]).bind fun t267 => if t267 = true then (swarfkit_EqualRanges.f k [⟨90, 100⟩, ⟨240, 250⟩] [⟨90, 100⟩, ⟨240, 250⟩]).bind fun t275 => some t275 else some false) := by
    intro k
    unfold swarflaw07_awake.f
    rw [voyage_f]
    simp only [Option.bind_some]
    rw [v_drafts]
    simp only [Option.bind_some]
    rw [v_sail]
    simp only [Option.bind_some]
    rw [v_best]
    simp only [Option.bind_some, swarflaw07_rng.f, if_true, beq_self_eq_true, Bool.and_self]
  have e1 : Ev (fun k => swarfkit_EqualInts.f k [0, -1, 1] [0, -1, 1]) true := ev_of_mono (fun k => swarfkit_EqualInts.mono _ _ k) (K := 10) (by kernel_rfl)
  have e2 : Ev (fun k => swarfkit_EqualRanges.f k [⟨90, 100⟩, ⟨240, 250⟩] [⟨90, 100⟩, ⟨240, 250⟩]) true := ev_of_mono (fun k => swarfkit_EqualRanges.mono _ _ k) (K := 10) (by kernel_rfl)
  have e3 : Ev (fun k => (swarfkit_EqualInts.f k [0, -1, 1] [0, -1, 1]).bind fun t267 => if t267 = true then (swarfkit_EqualRanges.f k [⟨90, 100⟩, ⟨240, 250⟩] [⟨90, 100⟩, ⟨240, 250⟩]).bind fun t275 => some t275 else some false) true := by
    refine Ev.bind e1 ?_
    simp only [if_true]
    exact Ev.tail e2
  obtain ⟨K, hK⟩ := e3
  exact ⟨K, fun k hk => (h1 k).trans (hK k hk)⟩
theorem leO_up {α : Type} {g : Nat → Option α} (hm : ∀ k, LeO (g k) (g (k + 1))) {k K : Nat} (hk : k ≤ K) {r : α} (h : g k = some r) : g K = some r := by
  induction hk with
  | refl => exact h
  | step _ ih => exact hm _ _ ih
theorem awake_true {k : Nat} {r : Bool} (h : swarflaw07_awake.f k = some r) : r = true := by
  obtain ⟨K, hK⟩ := awake_ev
  have h1 := leO_up (g := fun k => swarflaw07_awake.f k) swarflaw07_awake.mono (Nat.le_max_left k K) h
  have h2 := hK (max k K) (Nat.le_max_right k K)
  exact Option.some.inj (h1.symm.trans h2)
end Go.Proofs.Ytodmemndaaiolaa.PC7
namespace Go.Proofs.Ytodmemndaaiolaa.PC7
open Go.RowKit Go.Proofs.YtodmemndaaiolaaW.PrintWords Go.Proofs.YtodmemndaaiolaaW.PrintLast Go.Proofs.YtodmemndaaiolaaW.PrintMore
attribute [local go_sem] max2_int min2_int max_two min_two max_three min_three max_four min_four
set_option linter.unusedVariables false
set_option linter.unusedSimpArgs false
end Go.Proofs.Ytodmemndaaiolaa.PC7
namespace Go.Proofs.Ytodmemndaaiolaa.PC7
set_option linter.unusedVariables false
set_option linter.unusedSimpArgs false
open Go.RowKit Go.Proofs.YtodmemndaaiolaaW.PrintWords Go.Proofs.YtodmemndaaiolaaW.PrintLast Go.Proofs.YtodmemndaaiolaaW.PrintMore
end Go.Proofs.Ytodmemndaaiolaa.PC7
namespace Go.Proofs.Ytodmemndaaiolaa.PC7
open Go.RowKit Go.Proofs.YtodmemndaaiolaaW.PrintWords Go.Proofs.YtodmemndaaiolaaW.PrintLast Go.Proofs.YtodmemndaaiolaaW.PrintMore
attribute [local go_sem] max2_int min2_int max_two min_two max_three min_three max_four min_four
set_option linter.unusedVariables false
set_option linter.unusedSimpArgs false
def ship_Level.f (k : Nat) (a0_0 : Int) (a0_1 : Int) (a0_2 : Int) (l0_3 : List (S85)) (a0_4 : Int) (l0_5 : List (S59)) (l0_6 : List (S79)) (l1 : List Int) : Option (Bool × Int × Int × Int) := (ship_CheckStowage.f k a0_0 a0_1 a0_2 l0_3 a0_4 l0_5 l0_6 l1).bind fun t737 => (if t737 = 0 then ((ship_apart.f k a0_0 a0_1 a0_2 l0_3 a0_4 l0_5 l0_6 l1).bind fun bt738 => ((ship_level.f k a0_0 a0_1 a0_2 l0_3 a0_4 l0_5 l0_6 bt738.1 bt738.2).bind fun t741 => (some (t741, bt738.1, bt738.2, 0)))) else (some (false, 0, 0, t737)))
end Go.Proofs.Ytodmemndaaiolaa.PC7
namespace Go.Proofs.Ytodmemndaaiolaa.PC7
set_option linter.unusedVariables false
set_option linter.unusedSimpArgs false
open Go.RowKit Go.Proofs.YtodmemndaaiolaaW.PrintWords Go.Proofs.YtodmemndaaiolaaW.PrintLast Go.Proofs.YtodmemndaaiolaaW.PrintMore
def ldS (h : S85) (t : S56) (q : Q4) : Q4 := ⟨q.b0 + t.f0 * h.f1, q.b1 + t.f0 * h.f2, q.h0 + t.f1 * h.f1, q.h1 + t.f1 * h.f2⟩
def ldL (holds : List S85) (lots : List S79) : Nat → List Int → Q4 → Q4
  | _, [], q => q
  | i, a :: r, q => ldL holds lots (i + 1) r (if a < 0 then q else ldS (holds.getD a.toNat z85) (lots.getD i z79).f0 q)
def apS (h : S85) (t : S56) (x : Int × Int) : Int × Int := (x.1 + min (t.f0 * (h.f1 - h.f2)) (t.f1 * (h.f1 - h.f2)), x.2 + max (t.f0 * (h.f1 - h.f2)) (t.f1 * (h.f1 - h.f2)))
def apL (holds : List S85) (lots : List S79) : Nat → List Int → Int × Int → Int × Int
  | _, [], x => x
  | i, a :: r, x => apL holds lots (i + 1) r (if a < 0 then x else apS (holds.getD a.toNat z85) (lots.getD i z79).f0 x)
def q0 (L : Int) : Q4 := ⟨1000 * L, 1000 * L, 1000 * L, 1000 * L⟩
def roomOK (holds : List S85) (lots : List S79) (s : List Int) : Prop := ∀ h : Nat, h < holds.length → used lots h 0 s ≤ (holds.getD h z85).f0
def wayL (U V : Int) (sills : List S59) (q : Q4) (soon : Bool) : List Int := sailL (sills.map (plainS soon)) V (max (if soon then q.b0 else q.h0) (if soon then q.b1 else q.h1) + 1000 * U)
structure Told (L U R : Int) (holds : List S85) (V : Int) (sills : List S59) (lots : List S79) (s : List Int) (q : Q4) (x : Int × Int) : Prop where
  qe : q = ldL holds lots 0 s (q0 L)
  xe : x = apL holds lots 0 s (0, 0)
  qok : QOK 10000000000 q
  xok : -1500000000 ≤ x.1 ∧ x.1 ≤ x.2 ∧ x.2 ≤ 1500000000
  le : (wayL U V sills q false).length ≤ (wayL U V sills q true).length
  top : (wayL U V sills q true).length ≤ sills.length
  good : goodB L U R holds V sills lots s = true ↔ (roomOK holds lots s ∧ max x.2 (-x.1) ≤ 1000 * R ∧ (wayL U V sills q false).length = sills.length)
  drafts : roomOK holds lots s → ship_Drafts.f L U R holds V sills lots s = some (q.b0, q.h0, q.b1, q.h1, 0)
  level : roomOK holds lots s → Ev (fun k => ship_Level.f k L U R holds V sills lots s) (decide (max x.2 (-x.1) ≤ 1000 * R), x.1, x.2, 0)
  sail : roomOK holds lots s → ship_Sail.f L U R holds V sills lots s = some (verdictE sills.length (wayL U V sills q true) (wayL U V sills q false), overE (wayL U V sills q true) (wayL U V sills q false), 0)
end Go.Proofs.Ytodmemndaaiolaa.PC7
namespace Go.Proofs.Ytodmemndaaiolaa.PC7
open Go.RowKit Go.Proofs.YtodmemndaaiolaaW.PrintWords Go.Proofs.YtodmemndaaiolaaW.PrintLast Go.Proofs.YtodmemndaaiolaaW.PrintMore
attribute [local go_sem] max2_int min2_int max_two min_two max_three min_three max_four min_four
set_option linter.unusedVariables false
set_option linter.unusedSimpArgs false
end Go.Proofs.Ytodmemndaaiolaa.PC7
namespace Go.Proofs.Ytodmemndaaiolaa.PC7
set_option linter.unusedVariables false
set_option linter.unusedSimpArgs false
open Go.RowKit Go.Proofs.YtodmemndaaiolaaW.PrintWords Go.Proofs.YtodmemndaaiolaaW.PrintLast Go.Proofs.YtodmemndaaiolaaW.PrintMore
def copyOK (holds : List S85) (sills : List S59) (lots : List S79) : Prop := holds.length ≤ 100000 ∧ lots.length ≤ 100000 ∧ lensOK sills
instance (holds : List S85) (sills : List S59) (lots : List S79) : Decidable (copyOK holds sills lots) := by unfold copyOK; infer_instance
def swarfkit_CopyVoyage.f (a0_0 : Int) (a0_1 : Int) (a0_2 : Int) (l0_3 : List (S85)) (a0_4 : Int) (l0_5 : List (S59)) (l0_6 : List (S79)) : Option (Int × Int × Int × (List (S85)) × Int × (List (S59)) × (List (S79))) :=
 if copyOK l0_3 l0_5 l0_6 then some (a0_0, a0_1, a0_2, l0_3, a0_4, l0_5, l0_6) else none
set_option maxHeartbeats 8000000 in
set_option maxRecDepth 100000 in
theorem copy_calls (x : VoyV) (w : World) (hx : x.Ok w) (hn : copyOK x.holds x.sills x.lots) :
  Calls Try.prog 20 #[.agg #[.int .i64 x.light, .int .i64 x.under, .int .i64 x.trim, .slice x.A3 x.holds.length x.c3, .int .i64 x.leaves, .slice x.A5 x.sills.length x.c5, .slice x.A6 x.lots.length x.c6]] w fun e w' => ∃ v3_ v5_ v6_ : Value, e = .returned (.agg #[.int .i64 x.light, .int .i64 x.under, .int .i64 x.trim, v3_, .int .i64 x.leaves, v5_, v6_]) ∧ Kd.R k85 85 w' w.heap.size (fun _ => True) v3_ x.holds ∧ Kd.S k59 59 w' w.heap.size (fun _ => True) v5_ x.sills ∧ Kd.R k79 79 w' w.heap.size (fun _ => True) v6_ x.lots ∧ Below w.heap.size w w' := by
 have hu26 := Try.underlying26
 have hu23 := Try.underlying23
 have hu59 := Try.underlying59
 obtain ⟨hn1, hn2, hn3⟩ := hn
 have HX := Aside0.mk hx
 have HL := Aside0.mk (SailLens.of hn3)
 have hsl : x.sills.length ≤ 100000 := HL.out.s
 have hcc5 := hx.sc
 obtain ⟨A5, hA5⟩ : ∃ A5, A5 = x.A5 := ⟨_, rfl⟩
 have hs5 := hx.s
 rw [← hA5] at hs5 ⊢
 have HS5 := Aside0.mk hs5
 clear hx hA5 hs5 hn3
 go_enter Try.func20, Try.ntmps20
 go_upto_region 2 with (first
  | (refine box_r (N := 1) rfl (cs := #[.int .i64 x.light, .int .i64 x.under, .int .i64 x.trim, .slice x.A3 x.holds.length x.c3, .int .i64 x.leaves, .slice A5 x.sills.length x.c5, .slice x.A6 x.lots.length x.c6]) (t := 26) ?_; intro gb hg w2 hbox hb; have BK := Aside0.mk hbox; have GEb : Aside0 (w.heap.size ≤ gb) := ⟨by rw [hg]; exact Nat.le_refl _⟩; have HB := Aside0.mk hb; have hz3_ := (blk_cell BK.out 3).trans rfl; have hz5_ := (blk_cell BK.out 5).trans rfl; have hz6_ := (blk_cell BK.out 6).trans rfl; clear hg hbox hb)
  | (refine box_r (N := 2) rfl (cs := #[.int .i64 0, .int .i64 0, .int .i64 0, .slice none 0 0, .int .i64 0, .slice none 0 0, .slice none 0 0]) (t := 26) ?_; intro ge hg w3 hbox hb; have BE := Aside0.mk hbox; have NBE : Aside0 (gb ≠ ge) := ⟨by have := blk_lt BK.out; omega⟩; replace BK := Aside0.mk (blk_below BK.out hb); have GEe : Aside0 (w.heap.size ≤ ge) := ⟨by rw [hg]; exact HB.out.size⟩; replace HB := Aside0.mk (below_step HB.out hb); clear hz3_ hz5_ hz6_; have hz3_ := (blk_cell BK.out 3).trans rfl; have hz5_ := (blk_cell BK.out 5).trans rfl; have hz6_ := (blk_cell BK.out 6).trans rfl; clear hg hbox hb))
 have hd_ := below_drew1 (Below.refl w3.heap.size w3)
 replace BK := Aside0.mk (blk_drew BK.out)
 replace BE := Aside0.mk (blk_drew BE.out)
 replace HB := Aside0.mk (below_step HB.out hd_)
 clear hd_
 refine start_ (n := 14) (S := fun w' => w'.cell? ⟨gb, 3, none⟩ = some (.slice x.A3 x.holds.length x.c3) ∧ w'.cell? ⟨gb, 6, none⟩ = some (.slice x.A6 x.lots.length x.c6)) (ds := [9, 11, 13]) #[false, false, false, false, false, false, false, false, false, false, false, false, false, false] (by kernel_rfl) rfl rfl ⟨hz3_, hz6_⟩ (fun hHeld => ?_)
 generalize w3.drew = wd at BK BE HB hHeld ⊢
 refine pure_y 1 (some 8) (bz 14 2) ?_
 refine pure_y 5 (some 12) (bz 14 34) ?_
 refine take_y 2 (some 9) (bz 14 38) hHeld ?_
 refine take_y 6 (some 13) (bz 14 102) hHeld ?_
 refine join_ (σ := Value × Value × Value) 6 (bz 14 383) (fun s_ => [(7, s_.1), (10, s_.2.1), (11, s_.2.2), (15, .pointer (some ⟨gb, 3, none⟩))]) (fun s_ w' => (w'.cell? ⟨gb, 3, none⟩ = some (.slice x.A3 x.holds.length x.c3) ∧ w'.cell? ⟨gb, 6, none⟩ = some (.slice x.A6 x.lots.length x.c6)) ∧ Aside0 (Kd.R k85 85 w' wd.heap.size (fun _ => True) s_.2.1 x.holds) ∧ Aside0 (Kd.R k79 79 w' wd.heap.size (fun _ => True) s_.2.2 []) ∧ Aside0 (Below wd.heap.size wd w')) ?_ ?_
 rotate_left
 ·
  intro hCont; refine two_ (i := 0) (j := 4) (Ni := some 7) (Nj := some 11) (bz 14 103) (bz 14 118) rfl rfl rfl rfl (by kernel_rfl) (by decide) (by decide) (fun K hK => ?_) (fun K hK => ?_)
  ·
   skip
   have HBd := Aside0.mk (Below.refl wd.heap.size wd); refine Kd.R_lit_step k85 _ 85 ?hg (N := 7) ?hd (xs := ([] : List S85)) (inner := []) (ok := fun _ => True) (okp := fun _ => True) ?hr ?hp (fun _ hk => hk) trivial (Below.refl _ _) (Nat.le_refl _) (by simp) ?_; (case hd => rfl); (case hg => rfl); (case hr => first | (go_simp; done) | (go_simp; rfl)); (case hp => exact (Reps.none _ _)); intro v7 wq0 ho_ hb_ hg_ hnew_; clear hg_ hnew_; have R7 := Aside0.mk (Kd.R_lower ho_ HBd.out.size); replace HBd := Aside0.mk (below_step HBd.out hb_); clear ho_ hb_; refine hK.out _ _ ⟨(HBd.out.cell (blk_lt BK.out)).trans ((blk_cell BK.out 3).trans rfl), (HBd.out.cell (blk_lt BK.out)).trans ((blk_cell BK.out 6).trans rfl)⟩ (fun hHeld => ?_); clear hK K; refine norm_y (some 7) ?_; refine two_ (i := 3) (j := 4) (Ni := some 10) (Nj := some 11) (bz 14 111) (bz 14 119) rfl rfl rfl rfl (by kernel_rfl) (by decide) (by decide) (fun K hK => ?_) (fun K hK => ?_)
   ·
    skip
    refine Kd.R_append_rows_step k85 (w0 := wd) wd.heap.size (by rfl) (.tmp 7) (.tmp 9) 22 85 (.agg #[(.int .i64 0), (.int .i64 0), (.int .i64 0)]) 24 rfl Try.underlying22 info85 rfl (by decide) (by omega) v7 [] x.holds x.A3 _ x.c3 (fun _ => True) (fun _ => False) rfl rfl ?aO ?aR (fun _ _ h => h) (fun _ h => h.elim) ?aF ?aB ?aS ?aL ?_
    (case aR => exact (Kd.C_below (Kd.C_below HX.out.h HB.out) HBd.out))
    (case aB => exact HBd.out)
    (case aF => exact (fun _ _ => trivial))
    (case aO => exact R7.out)
    (case aS => exact HBd.out.size)
    (case aL => simp only [List.length_nil]; omega)
    intro v10 wq1 ho_ hb_ hg_ hat_; rw [List.nil_append] at ho_; have R10 := Aside0.mk ho_; replace HBd := Aside0.mk hb_; clear ho_ hb_ hg_ hat_ R7; refine hK.out _ _ ⟨(HBd.out.cell (blk_lt BK.out)).trans ((blk_cell BK.out 3).trans rfl), (HBd.out.cell (blk_lt BK.out)).trans ((blk_cell BK.out 6).trans rfl)⟩ (fun hHeld => ?_); clear hK K; refine norm_y (some 10) ?_; refine pure_y 8 (some 15) (bz 14 367) ?_; (refine one_y 4 (some 11) (bz 14 383) fun K hK => ?_); refine Kd.R_lit_step k79 _ 79 ?hg (N := 11) ?hd (xs := ([] : List S79)) (inner := []) (ok := fun _ => True) (okp := fun _ => True) ?hr ?hp (fun _ hk => hk) trivial (Below.refl _ _) (Nat.le_refl _) (by simp) ?_; (case hd => rfl); (case hg => rfl); (case hr => first | (go_simp; done) | (go_simp; rfl)); (case hp => exact (Reps.none _ _)); intro v11 wq2 ho_ hb_ hg_ hnew_; clear hg_ hnew_; have R11 := Aside0.mk (Kd.R_lower ho_ HBd.out.size); replace R10 := Aside0.mk (Kd.R_below R10.out hb_); replace HBd := Aside0.mk (below_step HBd.out hb_); clear ho_ hb_; refine hK.out _ _ ⟨(HBd.out.cell (blk_lt BK.out)).trans ((blk_cell BK.out 3).trans rfl), (HBd.out.cell (blk_lt BK.out)).trans ((blk_cell BK.out 6).trans rfl)⟩ (fun hHeld => ?_); clear hK K; refine norm_y (some 11) ?_; exact norm_ (by simp only [putAll, Act.put, put_x]) (hCont (v7, v10, v11) _ ⟨hHeld, R10, R11, HBd⟩)
   ·
    skip
    refine Kd.R_lit_step k79 _ 79 ?hg (N := 11) ?hd (xs := ([] : List S79)) (inner := []) (ok := fun _ => True) (okp := fun _ => True) ?hr ?hp (fun _ hk => hk) trivial (Below.refl _ _) (Nat.le_refl _) (by simp) ?_; (case hd => rfl); (case hg => rfl); (case hr => first | (go_simp; done) | (go_simp; rfl)); (case hp => exact (Reps.none _ _)); intro v11 wq1 ho_ hb_ hg_ hnew_; clear hg_ hnew_; have R11 := Aside0.mk (Kd.R_lower ho_ HBd.out.size); replace R7 := Aside0.mk (Kd.R_below R7.out hb_); replace HBd := Aside0.mk (below_step HBd.out hb_); clear ho_ hb_; refine hK.out _ _ ⟨(HBd.out.cell (blk_lt BK.out)).trans ((blk_cell BK.out 3).trans rfl), (HBd.out.cell (blk_lt BK.out)).trans ((blk_cell BK.out 6).trans rfl)⟩ (fun hHeld => ?_); clear hK K; refine norm_y (some 11) ?_; (refine one_y 3 (some 10) (bz 14 127) fun K hK => ?_); refine Kd.R_append_rows_step k85 (w0 := wd) wd.heap.size (by rfl) (.tmp 7) (.tmp 9) 22 85 (.agg #[(.int .i64 0), (.int .i64 0), (.int .i64 0)]) 24 rfl Try.underlying22 info85 rfl (by decide) (by omega) v7 [] x.holds x.A3 _ x.c3 (fun _ => True) (fun _ => False) rfl rfl ?aO ?aR (fun _ _ h => h) (fun _ h => h.elim) ?aF ?aB ?aS ?aL ?_
    (case aR => exact (Kd.C_below (Kd.C_below HX.out.h HB.out) HBd.out))
    (case aB => exact HBd.out)
    (case aF => exact (fun _ _ => trivial))
    (case aO => exact R7.out)
    (case aS => exact HBd.out.size)
    (case aL => simp only [List.length_nil]; omega)
    intro v10 wq2 ho_ hb_ hg_ hat_; rw [List.nil_append] at ho_; have R10 := Aside0.mk ho_; replace R11 := Aside0.mk (Kd.R_over' R11.out (Kd.R_typed R7.out) (by decide) hg_); replace HBd := Aside0.mk hb_; clear ho_ hb_ hg_ hat_ R7; refine hK.out _ _ ⟨(HBd.out.cell (blk_lt BK.out)).trans ((blk_cell BK.out 3).trans rfl), (HBd.out.cell (blk_lt BK.out)).trans ((blk_cell BK.out 6).trans rfl)⟩ (fun hHeld => ?_); clear hK K; refine norm_y (some 10) ?_; refine pure_y 8 (some 15) (bz 14 383) ?_; exact norm_ (by simp only [putAll, Act.put, put_x]) (hCont (v7, v10, v11) _ ⟨hHeld, R10, R11, HBd⟩)
  ·
   skip
   have HBd := Aside0.mk (Below.refl wd.heap.size wd); refine Kd.R_lit_step k79 _ 79 ?hg (N := 11) ?hd (xs := ([] : List S79)) (inner := []) (ok := fun _ => True) (okp := fun _ => True) ?hr ?hp (fun _ hk => hk) trivial (Below.refl _ _) (Nat.le_refl _) (by simp) ?_; (case hd => rfl); (case hg => rfl); (case hr => first | (go_simp; done) | (go_simp; rfl)); (case hp => exact (Reps.none _ _)); intro v11 wq0 ho_ hb_ hg_ hnew_; clear hg_ hnew_; have R11 := Aside0.mk (Kd.R_lower ho_ HBd.out.size); replace HBd := Aside0.mk (below_step HBd.out hb_); clear ho_ hb_; refine hK.out _ _ ⟨(HBd.out.cell (blk_lt BK.out)).trans ((blk_cell BK.out 3).trans rfl), (HBd.out.cell (blk_lt BK.out)).trans ((blk_cell BK.out 6).trans rfl)⟩ (fun hHeld => ?_); clear hK K; refine norm_y (some 11) ?_; (refine one_y 0 (some 7) (bz 14 119) fun K hK => ?_); refine Kd.R_lit_step k85 _ 85 ?hg (N := 7) ?hd (xs := ([] : List S85)) (inner := []) (ok := fun _ => True) (okp := fun _ => True) ?hr ?hp (fun _ hk => hk) trivial (Below.refl _ _) (Nat.le_refl _) (by simp) ?_; (case hd => rfl); (case hg => rfl); (case hr => first | (go_simp; done) | (go_simp; rfl)); (case hp => exact (Reps.none _ _)); intro v7 wq1 ho_ hb_ hg_ hnew_; clear hg_ hnew_; have R7 := Aside0.mk (Kd.R_lower ho_ HBd.out.size); replace R11 := Aside0.mk (Kd.R_below R11.out hb_); replace HBd := Aside0.mk (below_step HBd.out hb_); clear ho_ hb_; refine hK.out _ _ ⟨(HBd.out.cell (blk_lt BK.out)).trans ((blk_cell BK.out 3).trans rfl), (HBd.out.cell (blk_lt BK.out)).trans ((blk_cell BK.out 6).trans rfl)⟩ (fun hHeld => ?_); clear hK K; refine norm_y (some 7) ?_; (refine one_y 3 (some 10) (bz 14 127) fun K hK => ?_); refine Kd.R_append_rows_step k85 (w0 := wd) wd.heap.size (by rfl) (.tmp 7) (.tmp 9) 22 85 (.agg #[(.int .i64 0), (.int .i64 0), (.int .i64 0)]) 24 rfl Try.underlying22 info85 rfl (by decide) (by omega) v7 [] x.holds x.A3 _ x.c3 (fun _ => True) (fun _ => False) rfl rfl ?aO ?aR (fun _ _ h => h) (fun _ h => h.elim) ?aF ?aB ?aS ?aL ?_
   (case aR => exact (Kd.C_below (Kd.C_below HX.out.h HB.out) HBd.out))
   (case aB => exact HBd.out)
   (case aF => exact (fun _ _ => trivial))
   (case aO => exact R7.out)
   (case aS => exact HBd.out.size)
   (case aL => simp only [List.length_nil]; omega)
   intro v10 wq2 ho_ hb_ hg_ hat_; rw [List.nil_append] at ho_; have R10 := Aside0.mk ho_; replace R11 := Aside0.mk (Kd.R_over' R11.out (Kd.R_typed R7.out) (by decide) hg_); replace HBd := Aside0.mk hb_; clear ho_ hb_ hg_ hat_ R7; refine hK.out _ _ ⟨(HBd.out.cell (blk_lt BK.out)).trans ((blk_cell BK.out 3).trans rfl), (HBd.out.cell (blk_lt BK.out)).trans ((blk_cell BK.out 6).trans rfl)⟩ (fun hHeld => ?_); clear hK K; refine norm_y (some 10) ?_; refine pure_y 8 (some 15) (bz 14 383) ?_; exact norm_ (by simp only [putAll, Act.put, put_x]) (hCont (v7, v10, v11) _ ⟨hHeld, R10, R11, HBd⟩)
 rintro ⟨v7, v10, v11⟩ wj ⟨hHeld, R10, R11, HBd⟩
 obtain ⟨A10, c10, hv10_⟩ := Kd.R_slice R10.out
 dsimp only at R10 R11 hv10_ ⊢
 subst hv10_
 refine norm_ (a' := ?_) ?_ ?_
 rotate_left
 ·
  simp only [putAll, Act.put, put_x]; rfl
 refine one_y 7 (some 14) (bz 14 511) fun K hK => ?_
 refine Kd.R_append_rows_step k79 (w0 := wd) wd.heap.size (by rfl) (.tmp 11) (.tmp 13) 24 79 (.agg #[(.int .i64 0), (.int .i64 0), (.int .i64 0)]) 24 rfl Try.underlying24 info79 rfl (by decide) (by omega) v11 [] x.lots x.A6 _ x.c6 (fun _ => True) (fun _ => False) rfl rfl ?aO ?aR (fun _ _ h => h) (fun _ h => h.elim) ?aF ?aB ?aS ?aL ?_
 (case aR => exact (Kd.C_below (Kd.C_below HX.out.l HB.out) HBd.out))
 (case aB => exact HBd.out)
 (case aF => exact (fun _ _ => trivial))
 (case aO => exact R11.out)
 (case aS => exact HBd.out.size)
 (case aL => simp only [List.length_nil]; omega)
 intro v14 w4 ho_ hb_ hg_ hat_
 rw [List.nil_append] at ho_
 obtain ⟨A14, c14, rfl⟩ := Kd.R_slice ho_
 have R14 := Aside0.mk ho_
 replace R10 := Aside0.mk (Kd.R_over' R10.out (Kd.R_typed R11.out) (by decide) hg_)
 have BK4 := Aside0.mk (blk_below BK.out hb_)
 have BE4 := Aside0.mk (blk_below BE.out hb_)
 replace HBd := Aside0.mk hb_
 clear ho_ hb_ hg_ hat_ R11
 refine hK.out _ _ ⟨(HBd.out.cell (blk_lt BK.out)).trans ((blk_cell BK.out 3).trans rfl), (HBd.out.cell (blk_lt BK.out)).trans ((blk_cell BK.out 6).trans rfl)⟩ (fun hHeld => ?_)
 clear hK K
 refine norm_y (some 14) ?_
 refine last_ (i := 9) (N := none) (bz 14 1023) rfl rfl (by kernel_rfl) (by decide) (fun K hK => ?_)
 have hy0_ := (blk_cell BK4.out 3).trans rfl
 have hf_ := blk_frozen BK4.out
 refine skip_ (w1 := ?_) (by rfl) rfl ?_ ?_; rotate_left; (go_simp; rfl)
 clear hy0_ hf_
 refine hK.out _ _ ?_
 clear hK K
 refine pure_y 10 (some 16) (bz 14 2047) ?_
 refine last_ (i := 11) (N := none) (bz 14 4095) rfl rfl (by kernel_rfl) (by decide) (fun K hK => ?_)
 have BK5 := Aside0.mk (blk_put (cs' := #[.int .i64 x.light, .int .i64 x.under, .int .i64 x.trim, .slice A10 x.holds.length c10, .int .i64 x.leaves, .slice A5 x.sills.length x.c5, .slice x.A6 x.lots.length x.c6]) BK4.out 3 (.slice A10 x.holds.length c10) rfl)
 have hy0_ := (blk_cell BK5.out 6).trans rfl
 have hf_ := blk_frozen BK5.out
 refine skip_ (w1 := ?_) (by rfl) rfl ?_ ?_; rotate_left; (go_simp; rfl)
 clear hy0_ hf_
 refine hK.out _ _ ?_
 clear hK K
 refine pure_y 12 (some 17) (bz 14 8191) ?_
 refine last_ (i := 13) (N := none) (bz 14 16383) rfl rfl (by kernel_rfl) (by decide) (fun K hK => ?_)
 have BK6 := Aside0.mk (blk_put (cs' := #[.int .i64 x.light, .int .i64 x.under, .int .i64 x.trim, .slice A10 x.holds.length c10, .int .i64 x.leaves, .slice A5 x.sills.length x.c5, .slice A14 x.lots.length c14]) BK5.out 6 (.slice A14 x.lots.length c14) rfl)
 have hy0_ := (blk_cell BK6.out 5).trans rfl
 have hf_ := blk_frozen BK6.out
 refine skip_ (w1 := ?_) (by rfl) rfl ?_ ?_; rotate_left; (go_simp; rfl)
 clear hy0_ hf_
 refine hK.out _ _ ?_
 clear hK K
 refine done_ (by kernel_rfl) ?_
 clear hHeld hz3_ hz5_ hz6_
 have BK7 := Aside0.mk (blk_put (cs' := #[.int .i64 x.light, .int .i64 x.under, .int .i64 x.trim, .slice A10 x.holds.length c10, .int .i64 x.leaves, .slice none 0 0, .slice A14 x.lots.length c14]) BK6.out 5 (.slice none 0 0) rfl)
 have BE7 := Aside0.mk (blk_far (blk_far (blk_far BE4.out (p := ⟨gb, 3, none⟩) NBE.out.symm (.slice A10 x.holds.length c10)) (p := ⟨gb, 6, none⟩) NBE.out.symm (.slice A14 x.lots.length c14)) (p := ⟨gb, 5, none⟩) NBE.out.symm (.slice none 0 0))
 have HB7 := Aside0.mk (below_set (below_set (below_set (below_step HB.out HBd.out) GEb.out (j := 3) (v := (.slice A10 x.holds.length c10))) GEb.out (j := 6) (v := (.slice A14 x.lots.length c14))) GEb.out (j := 5) (v := .slice none 0 0))
 replace R10 := Aside0.mk (Kd.R_set (Kd.R_set (Kd.R_set R10.out BK4.out (by decide) 3 (.slice A10 x.holds.length c10)) BK5.out (by decide) 6 (.slice A14 x.lots.length c14)) BK6.out (by decide) 5 (.slice none 0 0))
 replace R14 := Aside0.mk (Kd.R_set (Kd.R_set (Kd.R_set R14.out BK4.out (by decide) 3 (.slice A10 x.holds.length c10)) BK5.out (by decide) 6 (.slice A14 x.lots.length c14)) BK6.out (by decide) 5 (.slice none 0 0))
 replace R10 := Aside0.mk (Kd.R_lower R10.out HB.out.size)
 replace R14 := Aside0.mk (Kd.R_lower R14.out HB.out.size)
 generalize hW_ : ((w4.setCell ⟨gb, 3, none⟩ (.slice A10 x.holds.length c10)).setCell ⟨gb, 6, none⟩ (.slice A14 x.lots.length c14)).setCell ⟨gb, 5, none⟩ (.slice none 0 0) = w5 at *
 clear hW_ BK4 BK5 BK6 BE4 HBd BK BE HB
 go_wp2
 go_loopg [4] x.sills.length (fun gk v4 wr => ∃ k : Nat, k ≤ x.sills.length ∧ x.sills.length - k ≤ gk ∧ v4 = .int .i64 k ∧ Aside0 (∃ v5, wr.heap[gb]? = some (.cells #[.int .i64 x.light, .int .i64 x.under, .int .i64 x.trim, .slice A10 x.holds.length c10, .int .i64 x.leaves, v5, .slice A14 x.lots.length c14] 26 (0, 0)) ∧ Kd.S k59 59 wr w.heap.size (fun _ => True) v5 (x.sills.take k)) ∧ Aside0 (wr.heap[ge]? = some (.cells #[.int .i64 0, .int .i64 0, .int .i64 0, .slice none 0 0, .int .i64 0, .slice none 0 0, .slice none 0 0] 26 (0, 0))) ∧ Aside0 (Kd.R k85 85 wr w.heap.size (fun _ => True) (.slice A10 x.holds.length c10) x.holds) ∧ Aside0 (Kd.R k79 79 wr w.heap.size (fun _ => True) (.slice A14 x.lots.length c14) x.lots) ∧ Aside0 (Below w.heap.size w wr))
 case atStart => exact ⟨0, by omega, by omega, rfl, ⟨⟨_, BK7.out, Kd.S_nil _ _ _ _ _⟩⟩, BE7, R10, R14, HB7⟩
 case round =>
  clear BK7 BE7 R10 R14 HB7; obtain ⟨k, hk, hgk, rfl, HI, BE, R10, R14, HB⟩ := hrel; obtain ⟨v5, hbk, hs5⟩ := HI.out; obtain ⟨Av, cv, hv5_⟩ := Kd.S_slice hs5; rw [List.length_take, Nat.min_eq_left hk] at hv5_; subst hv5_; have BK := Aside0.mk hbk; have HO := Aside0.mk hs5; clear hbk hs5 HI; by_cases hlt : k < x.sills.length
  ·
   (have hlz : (k : Int) < (x.sills.length : Int) := by omega); obtain ⟨ads, A2, c2, e, h0, h1, h2, l2, g2⟩ := at_T59 HS5.out (k : Int) (by omega) hlz; (cases e); rw [Int.toNat_natCast] at h0 h1 h2; have hlen := HL.out.l k hlt
   have htk : Aside0 (x.sills.take (k + 1) = x.sills.take k ++ [rd_T59 x.sills (k : Int)]) := ⟨by
    rw [List.take_succ_eq_append_getElem hlt]; (have : rd_T59 x.sills (k : Int) = x.sills[k] := by simp [rd_T59, List.getD, hlt]); rw [this]⟩
   (have htl : (x.sills.take k).length = k := by rw [List.length_take]; omega); have HTL := Aside0.mk htl; have hrd : x.sills.getD k z59 = rd_T59 x.sills (k : Int) := rfl; rw [hrd] at hlen; clear hrd htl; generalize rd_T59 x.sills (k : Int) = sl at *; have LT0 := Aside0.mk (World.block_lt_of_cell? w _ h0); have LT1 := Aside0.mk (World.block_lt_of_cell? w _ h1); have LT2 := Aside0.mk (World.block_lt_of_cell? w _ h2); have E0 := Aside0.mk h0; have E1 := Aside0.mk h1; have E2 := Aside0.mk h2; have G2 := Aside0.mk g2; clear g2; replace h0 := (HB.out.cell LT0.out).trans h0; replace h1 := (HB.out.cell LT1.out).trans h1; replace h2 := (HB.out.cell LT2.out).trans h2; have hz5_ := (blk_cell BK.out 5).trans rfl
   go_upto_region 6 with (fail)
   have hd_ := below_drew1 (Below.refl wr.heap.size wr); replace BK := Aside0.mk (blk_drew BK.out); replace BE := Aside0.mk (blk_drew BE.out); replace HO := Aside0.mk (Kd.S_drew HO.out); replace R10 := Aside0.mk (Kd.R_drew R10.out); replace R14 := Aside0.mk (Kd.R_drew R14.out); replace HB := Aside0.mk (below_step HB.out hd_); clear hd_; refine start_ (n := 19) (S := fun w' => w'.cell? ⟨gb, 5, none⟩ = some (.slice Av k cv) ∧ w'.cell? (ads.add (k * 3)) = some (.int .i64 sl.f0.f0) ∧ w'.cell? ⟨(ads.add (k * 3)).block, (ads.add (k * 3)).off + 1, none⟩ = some (.int .i64 sl.f0.f1) ∧ w'.cell? ⟨(ads.add (k * 3)).block, (ads.add (k * 3)).off + 2, none⟩ = some (.slice A2 sl.f1.length c2)) (ds := [16, 18]) #[false, false, false, false, false, false, false, false, false, false, false, false, false, false, false, false, false, false, false] (by kernel_rfl) rfl rfl ⟨hz5_, h0, h1, h2⟩ (fun hHeld => ?_); generalize wr.drew = wd at BK BE HO R10 R14 HB hHeld ⊢; refine pure_y 0 (some 24) (bz 19 1) ?_; refine pure_y 2 (some 26) (bz 19 5) ?_; refine pure_y 3 (some 27) (bz 19 13) ?_; refine pure_y 4 (some 28) (bz 19 29) ?_; refine pure_y 5 (some 29) (bz 19 61) ?_; refine pure_y 8 (some 32) (bz 19 317) ?_; refine pure_y 9 (some 33) (bz 19 829) ?_; refine pure_y 10 (some 34) (bz 19 1853) ?_; refine pure_y 11 (some 35) (bz 19 3901) ?_; refine take_y 1 (some 25) (bz 19 3903) hHeld ?_; refine take_y 6 (some 30) (bz 19 3967) hHeld ?_; refine take_y 12 (some 36) (bz 19 8063) hHeld ?_; (refine one_y 7 (some 31) (bz 19 8191) fun K hK => ?_); refine Kd.R_lit_step k62 _ 62 ?hg (N := 31) ?hd (xs := ([] : List S62)) (inner := []) (ok := fun _ => True) (okp := fun _ => True) ?hr ?hp (fun _ hk => hk) trivial (Below.refl _ _) (Nat.le_refl _) (by simp) ?_; (case hd => rfl); (case hg => rfl); (case hr => first | (go_simp; done) | (go_simp; rfl)); (case hp => exact (Reps.none _ _)); intro v31 w6 ho_ hb_ hg_ hnew_; clear hg_ hnew_; have R31 := Aside0.mk ho_; have HBd := Aside0.mk hb_; clear ho_ hb_; refine hK.out _ _ ⟨(HBd.out.cell (blk_lt BK.out)).trans ((blk_cell BK.out 5).trans rfl), (HBd.out.cell (Nat.lt_of_lt_of_le LT0.out HB.out.size)).trans ((HB.out.cell LT0.out).trans E0.out), (HBd.out.cell (Nat.lt_of_lt_of_le LT1.out HB.out.size)).trans ((HB.out.cell LT1.out).trans E1.out), (HBd.out.cell (Nat.lt_of_lt_of_le LT2.out HB.out.size)).trans ((HB.out.cell LT2.out).trans E2.out)⟩ (fun hHeld => ?_); clear hK K; refine norm_y (some 31) ?_; (refine one_y 13 (some 37) (bz 19 16383) fun K hK => ?_); refine Kd.R_append_rows_step k62 (w0 := wd) wd.heap.size (by rfl) (.tmp 31) (.tmp 36) 57 62 (.agg #[(.int .i64 0), (.int .i64 0), (.int .i64 0)]) 24 rfl Try.underlying57 info62 rfl (by decide) (by omega) v31 [] sl.f1 A2 _ c2 (fun _ => True) (fun _ => False) rfl rfl ?aO ?aR (fun _ _ h => h) (fun _ h => h.elim) ?aF ?aB ?aS ?aL ?_
   (case aR => exact (Kd.C_below (Kd.C_below G2.out HB.out) HBd.out))
   (case aB => exact HBd.out)
   (case aF => exact (fun _ _ => trivial))
   (case aO => exact R31.out)
   (case aS => exact HBd.out.size)
   (case aL => simp only [List.length_nil]; omega)
   intro v37 w7 ho_ hb_ hg_ hat_; rw [List.nil_append] at ho_; obtain ⟨A37, c37, rfl⟩ := Kd.R_slice ho_; have R37 := Aside0.mk ho_; replace HBd := Aside0.mk hb_; clear ho_ hb_ hg_ hat_ R31; refine hK.out _ _ ⟨(HBd.out.cell (blk_lt BK.out)).trans ((blk_cell BK.out 5).trans rfl), (HBd.out.cell (Nat.lt_of_lt_of_le LT0.out HB.out.size)).trans ((HB.out.cell LT0.out).trans E0.out), (HBd.out.cell (Nat.lt_of_lt_of_le LT1.out HB.out.size)).trans ((HB.out.cell LT1.out).trans E1.out), (HBd.out.cell (Nat.lt_of_lt_of_le LT2.out HB.out.size)).trans ((HB.out.cell LT2.out).trans E2.out)⟩ (fun hHeld => ?_); clear hK K; refine norm_y (some 37) ?_; refine pure_y 14 (some 38) (bz 19 32767) ?_; (refine one_y 15 (some 39) (bz 19 65535) fun K hK => ?_); refine value_ (w1 := ?_) (v := ?_) (by rfl) rfl ?_ ?_; rotate_left 2
   ·
    (go_simp; constructor <;> rfl)
   refine hK.out _ _ ⟨((below_alloc HBd.out _).cell (blk_lt BK.out)).trans ((blk_cell BK.out 5).trans rfl), ((below_alloc HBd.out _).cell (Nat.lt_of_lt_of_le LT0.out HB.out.size)).trans ((HB.out.cell LT0.out).trans E0.out), ((below_alloc HBd.out _).cell (Nat.lt_of_lt_of_le LT1.out HB.out.size)).trans ((HB.out.cell LT1.out).trans E1.out), ((below_alloc HBd.out _).cell (Nat.lt_of_lt_of_le LT2.out HB.out.size)).trans ((HB.out.cell LT2.out).trans E2.out)⟩ (fun hHeld => ?_); clear hK K; refine norm_y (some 39) ?_; refine last_ (i := 16) (N := some 40) (bz 19 131071) rfl rfl (by kernel_rfl) (by decide) (fun K hK => ?_); refine Kd.S_append_step k59 (w0 := w) w.heap.size (by rfl) (.tmp 25) (.tmp 39) 23 59 (.agg #[(.int .i64 0), (.int .i64 0), (.slice none 0 0)]) 40 rfl Try.underlying23 info59 rfl (by decide) (by omega) (.slice Av k cv) (x.sills.take k) sl [.int .i64 sl.f0.f0, .int .i64 sl.f0.f1, .slice A37 sl.f1.length c37] (fun _ => True) (fun k_ => wd.heap.size ≤ k_) rfl rfl ?aP ?aK ?aF ?aO ?aB ?aS ?aL ?_
   (case aP => exact k59_mkM _ _ _ sl (Kd.R_mono (Kd.R_bound (Kd.R_lower (Kd.R_mono (Kd.R_bound R37.out) (fun _ hk => hk.2.1)) HB.out.size)) (fun _ hk => hk.1)))
   (case aK => exact (fun k_ hk => ⟨trivial, fun he => by have := Kd.S_lt HO.out k_ he.symm; omega⟩))
   (case aF => exact (fun _ _ => trivial))
   (case aO => exact Kd.S_mono (Kd.S_old HO.out HBd.out) (fun _ hk => ⟨trivial, by have := hk.2; omega⟩))
   (case aB => exact below_step HB.out HBd.out)
   (case aS => exact Nat.le_trans HB.out.size HBd.out.size)
   (case aL => have := HTL.out; omega)
   intro v40 w8 ho_ hb_ hg_ hat_; obtain ⟨A40, c40, hv40_⟩ := Kd.S_slice ho_; rw [List.length_append, HTL.out, List.length_singleton] at hv40_; subst hv40_; have HO2 := Aside0.mk ho_; have BK2 := Aside0.mk (blk_grown (blk_below BK.out HBd.out) hg_ (Kd.S_ne HO.out BK.out (by decide))); have BE2 := Aside0.mk (blk_grown (blk_below BE.out HBd.out) hg_ (Kd.S_ne HO.out BE.out (by decide))); have T_ := Aside0.mk (fun k_ he => (Kd.S_typed HO.out k_ he).imp fun _ hc => blk_below hc HBd.out); replace R10 := Aside0.mk (Kd.R_over' (Kd.R_below R10.out HBd.out) T_.out (by decide) hg_); replace R14 := Aside0.mk (Kd.R_over' (Kd.R_below R14.out HBd.out) T_.out (by decide) hg_); have HB2 := Aside0.mk hb_; clear ho_ hb_ hg_ hat_ T_ R37; refine hK.out _ _ ?_; clear hK K; refine norm_y (some 40) ?_; refine pure_y 17 (some 41) (bz 19 262143) ?_; refine last_ (i := 18) (N := none) (bz 19 524287) rfl rfl (by kernel_rfl) (by decide) (fun K hK => ?_); have hy0_ := (blk_cell BK2.out 5).trans rfl; have hf_ := blk_frozen BK2.out; refine skip_ (w1 := ?_) (by rfl) rfl ?_ ?_; rotate_left; (go_simp; rfl); clear hy0_ hf_; refine hK.out _ _ ?_; clear hK K; refine done_ (by kernel_rfl) ?_; clear hHeld hz5_ h0 h1 h2; have BK3 := Aside0.mk (blk_put (cs' := #[.int .i64 x.light, .int .i64 x.under, .int .i64 x.trim, .slice A10 x.holds.length c10, .int .i64 x.leaves, .slice A40 (k + 1) c40, .slice A14 x.lots.length c14]) BK2.out 5 (.slice A40 (k + 1) c40) rfl); have BE3 := Aside0.mk (blk_far BE2.out (p := ⟨gb, 5, none⟩) NBE.out.symm (.slice A40 (k + 1) c40)); have HB3 := Aside0.mk (below_set HB2.out GEb.out (j := 5) (v := (.slice A40 (k + 1) c40))); have HO3 := Aside0.mk (Kd.S_set HO2.out BK2.out (by decide) 5 (.slice A40 (k + 1) c40)); replace R10 := Aside0.mk (Kd.R_set R10.out BK2.out (by decide) 5 (.slice A40 (k + 1) c40)); replace R14 := Aside0.mk (Kd.R_set R14.out BK2.out (by decide) 5 (.slice A40 (k + 1) c40)); generalize hW_ : w8.setCell ⟨gb, 5, none⟩ (.slice A40 (k + 1) c40) = w9 at *; clear hW_ BK BE HO HB BK2 BE2 HB2 HO2 HBd; go_wp2; go_roundg (x.sills.length - (k + 1))
   case measure => omega
   case rel => exact ⟨k + 1, by omega, by omega, by go_num, ⟨⟨_, BK3.out, by rw [htk.out]; exact HO3.out⟩⟩, BE3, R10, R14, HB3⟩
  ·
   (have : k = x.sills.length := by omega); subst this; have HOe := HO.out; rw [List.take_length] at HOe; have HO2 := Aside0.mk HOe; clear HOe HO; have hz0_ := (blk_cell BK.out 0).trans rfl; have hz1_ := (blk_cell BK.out 1).trans rfl; have hz2_ := (blk_cell BK.out 2).trans rfl; have hz3_ := (blk_cell BK.out 3).trans rfl; have hz4_ := (blk_cell BK.out 4).trans rfl; have hz5_ := (blk_cell BK.out 5).trans rfl; have hz6_ := (blk_cell BK.out 6).trans rfl; have hy0_ := (blk_cell BE.out 0).trans rfl; have hy1_ := (blk_cell BE.out 1).trans rfl; have hy2_ := (blk_cell BE.out 2).trans rfl; have hy3_ := (blk_cell BE.out 3).trans rfl; have hy4_ := (blk_cell BE.out 4).trans rfl; have hy5_ := (blk_cell BE.out 5).trans rfl; have hy6_ := (blk_cell BE.out 6).trans rfl; have hf_ := blk_frozen BE.out; go_wp2; have BR := BE; have BR0 := BR; replace BR := Aside0.mk (blk_put (cs' := #[.int .i64 x.light, .int .i64 0, .int .i64 0, .slice none 0 0, .int .i64 0, .slice none 0 0, .slice none 0 0]) BR.out 0 (.int .i64 x.light) rfl); have BR1 := BR; replace BR := Aside0.mk (blk_put (cs' := #[.int .i64 x.light, .int .i64 x.under, .int .i64 0, .slice none 0 0, .int .i64 0, .slice none 0 0, .slice none 0 0]) BR.out 1 (.int .i64 x.under) rfl); have BR2 := BR; replace BR := Aside0.mk (blk_put (cs' := #[.int .i64 x.light, .int .i64 x.under, .int .i64 x.trim, .slice none 0 0, .int .i64 0, .slice none 0 0, .slice none 0 0]) BR.out 2 (.int .i64 x.trim) rfl); have BR3 := BR; replace BR := Aside0.mk (blk_put (cs' := #[.int .i64 x.light, .int .i64 x.under, .int .i64 x.trim, .slice A10 x.holds.length c10, .int .i64 0, .slice none 0 0, .slice none 0 0]) BR.out 3 (.slice A10 x.holds.length c10) rfl); have BR4 := BR; replace BR := Aside0.mk (blk_put (cs' := #[.int .i64 x.light, .int .i64 x.under, .int .i64 x.trim, .slice A10 x.holds.length c10, .int .i64 x.leaves, .slice none 0 0, .slice none 0 0]) BR.out 4 (.int .i64 x.leaves) rfl); have BR5 := BR; replace BR := Aside0.mk (blk_put (cs' := #[.int .i64 x.light, .int .i64 x.under, .int .i64 x.trim, .slice A10 x.holds.length c10, .int .i64 x.leaves, .slice Av x.sills.length cv, .slice none 0 0]) BR.out 5 (.slice Av x.sills.length cv) rfl); have BR6 := BR; replace BR := Aside0.mk (blk_put (cs' := #[.int .i64 x.light, .int .i64 x.under, .int .i64 x.trim, .slice A10 x.holds.length c10, .int .i64 x.leaves, .slice Av x.sills.length cv, .slice A14 x.lots.length c14]) BR.out 6 (.slice A14 x.lots.length c14) rfl); have HBe := Aside0.mk (show Below w.heap.size w (((((((wr.setCell ⟨ge, 0, none⟩ (.int .i64 x.light)).setCell ⟨ge, 1, none⟩ (.int .i64 x.under)).setCell ⟨ge, 2, none⟩ (.int .i64 x.trim)).setCell ⟨ge, 3, none⟩ (.slice A10 x.holds.length c10)).setCell ⟨ge, 4, none⟩ (.int .i64 x.leaves)).setCell ⟨ge, 5, none⟩ (.slice Av x.sills.length cv)).setCell ⟨ge, 6, none⟩ (.slice A14 x.lots.length c14)) from below_set (below_set (below_set (below_set (below_set (below_set (below_set (HB.out) GEe.out) GEe.out) GEe.out) GEe.out) GEe.out) GEe.out) GEe.out); have HOe := Aside0.mk (Kd.S_set (Kd.S_set (Kd.S_set (Kd.S_set (Kd.S_set (Kd.S_set (Kd.S_set HO2.out BR0.out (by decide) 0 (.int .i64 x.light)) BR1.out (by decide) 1 (.int .i64 x.under)) BR2.out (by decide) 2 (.int .i64 x.trim)) BR3.out (by decide) 3 (.slice A10 x.holds.length c10)) BR4.out (by decide) 4 (.int .i64 x.leaves)) BR5.out (by decide) 5 (.slice Av x.sills.length cv)) BR6.out (by decide) 6 (.slice A14 x.lots.length c14)); have R10e := Aside0.mk (Kd.R_set (Kd.R_set (Kd.R_set (Kd.R_set (Kd.R_set (Kd.R_set (Kd.R_set R10.out BR0.out (by decide) 0 (.int .i64 x.light)) BR1.out (by decide) 1 (.int .i64 x.under)) BR2.out (by decide) 2 (.int .i64 x.trim)) BR3.out (by decide) 3 (.slice A10 x.holds.length c10)) BR4.out (by decide) 4 (.int .i64 x.leaves)) BR5.out (by decide) 5 (.slice Av x.sills.length cv)) BR6.out (by decide) 6 (.slice A14 x.lots.length c14)); have R14e := Aside0.mk (Kd.R_set (Kd.R_set (Kd.R_set (Kd.R_set (Kd.R_set (Kd.R_set (Kd.R_set R14.out BR0.out (by decide) 0 (.int .i64 x.light)) BR1.out (by decide) 1 (.int .i64 x.under)) BR2.out (by decide) 2 (.int .i64 x.trim)) BR3.out (by decide) 3 (.slice A10 x.holds.length c10)) BR4.out (by decide) 4 (.int .i64 x.leaves)) BR5.out (by decide) 5 (.slice Av x.sills.length cv)) BR6.out (by decide) 6 (.slice A14 x.lots.length c14)); clear hf_ BR0 BR1 BR2 BR3 BR4 BR5 BR6 BE HB HO2 R10 R14 BK hz0_ hz1_ hz2_ hz3_ hz4_ hz5_ hz6_ hy0_ hy1_ hy2_ hy3_ hy4_ hy5_ hy6_; generalize hW_ : ((((((wr.setCell ⟨ge, 0, none⟩ (.int .i64 x.light)).setCell ⟨ge, 1, none⟩ (.int .i64 x.under)).setCell ⟨ge, 2, none⟩ (.int .i64 x.trim)).setCell ⟨ge, 3, none⟩ (.slice A10 x.holds.length c10)).setCell ⟨ge, 4, none⟩ (.int .i64 x.leaves)).setCell ⟨ge, 5, none⟩ (.slice Av x.sills.length cv)).setCell ⟨ge, 6, none⟩ (.slice A14 x.lots.length c14) = we at *; clear hW_; have hr0_ := (blk_cell BR.out 0).trans rfl; have hr1_ := (blk_cell BR.out 1).trans rfl; have hr2_ := (blk_cell BR.out 2).trans rfl; have hr3_ := (blk_cell BR.out 3).trans rfl; have hr4_ := (blk_cell BR.out 4).trans rfl; have hr5_ := (blk_cell BR.out 5).trans rfl; have hr6_ := (blk_cell BR.out 6).trans rfl; exact bodyPost_ret (results_single (r := .cell 2 26) rfl (.cell ge 26 #[.int .i64 x.light, .int .i64 x.under, .int .i64 x.trim, .slice A10 x.holds.length c10, .int .i64 x.leaves, .slice Av x.sills.length cv, .slice A14 x.lots.length c14] (0, 0) _ rfl BR.out hu26 rfl (by kernel_rfl) .nil)) rfl ⟨_, _, _, rfl, R10e.out, HOe.out, R14e.out, HBe.out⟩
theorem swarfkit_CopyVoyage.calls (a0_0 : Int) (a0_1 : Int) (a0_2 : Int) (A0_3 : Option Addr) (c0_3 : Nat) (l0_3 : List (S85)) (a0_4 : Int) (A0_5 : Option Addr) (c0_5 : Nat) (l0_5 : List (S59)) (A0_6 : Option Addr) (c0_6 : Nat) (l0_6 : List (S79)) (r1 : Int) (r2 : Int) (r3 : Int) (r4 : List (S85)) (r5 : Int) (r6 : List (S59)) (r7 : List (S79)) (w : World) (hr0_3 : Kd.C k85 w A0_3 l0_3.length l0_3) (hc0_3 : l0_3.length ≤ c0_3) (hr0_5 : Kd.C k59 w A0_5 l0_5.length l0_5) (hc0_5 : l0_5.length ≤ c0_5) (hr0_6 : Kd.C k79 w A0_6 l0_6.length l0_6) (hc0_6 : l0_6.length ≤ c0_6) (h : swarfkit_CopyVoyage.f a0_0 a0_1 a0_2 l0_3 a0_4 l0_5 l0_6 = some (r1, r2, r3, r4, r5, r6, r7)) :
  Calls Try.prog 20 #[.agg #[.int .i64 a0_0, .int .i64 a0_1, .int .i64 a0_2, .slice A0_3 l0_3.length c0_3, .int .i64 a0_4, .slice A0_5 l0_5.length c0_5, .slice A0_6 l0_6.length c0_6]] w fun e w' => ∃ v3_ v5_ v6_ : Value, e = .returned (.agg #[.int .i64 r1, .int .i64 r2, .int .i64 r3, v3_, .int .i64 r5, v5_, v6_]) ∧ Kd.R k85 85 w' w.heap.size (fun _ => True) v3_ r4 ∧ Kd.S k59 59 w' w.heap.size (fun _ => True) v5_ r6 ∧ Kd.R k79 79 w' w.heap.size (fun _ => True) v6_ r7 ∧ Below w.heap.size w w' := by
 unfold swarfkit_CopyVoyage.f at h
 by_cases hn : copyOK l0_3 l0_5 l0_6
 ·
  rw [if_pos hn] at h; simp only [Option.some.injEq, Prod.mk.injEq] at h; obtain ⟨rfl, rfl, rfl, rfl, rfl, rfl, rfl⟩ := h; exact copy_calls ⟨_, _, _, A0_3, c0_3, _, _, A0_5, c0_5, _, A0_6, c0_6, _⟩ w ⟨hr0_3, hc0_3, hr0_5, hc0_5, hr0_6, hc0_6⟩ hn
 ·
  rw [if_neg hn] at h; cases h
theorem VoyOK.mono {H S L' H' S' L2 : Nat} {T T' L U R V : Int} {holds : List S85} {sills : List S59} {lots : List S79} (h : VoyOK H S L' T L U R holds V sills lots) (h1 : H ≤ H') (h2 : S ≤ S') (h3 : L' ≤ L2) (h4 : T ≤ T') : VoyOK H' S' L2 T' L U R holds V sills lots :=
  ⟨h.light, h.under, h.trim, h.leaves, ⟨h.hn.1, Nat.le_trans h.hn.2 h1⟩, fun x hx => by obtain ⟨a, b, c⟩ := h.ho x hx; exact ⟨a, by omega, c⟩, Nat.le_trans h.sn h2,
    fun x hx => by
      obtain ⟨a, b, c, d, e, fr, hl⟩ := h.si x hx
      exact ⟨a, b, c, d, e, fr, fun i hi => by obtain ⟨p, q, r, s, t⟩ := hl.bd i hi; exact ⟨p, q, r, s, by omega⟩, hl.up, hl.zero, hl.first, hl.lim⟩,
    Nat.le_trans h.ln h3, fun x hx => by obtain ⟨a, b, c, d⟩ := h.lo x hx; exact ⟨a, b, by omega, d⟩⟩
structure HoldsLE (a b : List S85) : Prop where
  len : a.length ≤ b.length
  eq : ∀ g : Nat, g < a.length → (b.getD g z85).f1 = (a.getD g z85).f1 ∧ (b.getD g z85).f2 = (a.getD g z85).f2 ∧ (a.getD g z85).f0 ≤ (b.getD g z85).f0
  more : ∀ g : Nat, a.length ≤ g → g < b.length → 0 ≤ (b.getD g z85).f0
theorem copy_ok {H S L' : Nat} {T L U R V : Int} {holds : List S85} {sills : List S59} {lots : List S79} (h : VoyOK H S L' T L U R holds V sills lots) (hH : H ≤ 100) (hS : S ≤ 100) (hL : L' ≤ 100) : swarfkit_CopyVoyage.f L U R holds V sills lots = some (L, U, R, holds, V, sills, lots) := by
  unfold swarfkit_CopyVoyage.f
  have h1 := h.hn; have h2 := h.sn; have h3 := h.ln
  rw [if_pos ⟨by omega, by omega, by omega, fun x hx => by obtain ⟨_, _, _, _, a5, _⟩ := h.si x hx; omega⟩]
end Go.Proofs.Ytodmemndaaiolaa.PC7
namespace Go.Proofs.Ytodmemndaaiolaa.PC7
open Go.RowKit Go.Proofs.YtodmemndaaiolaaW.PrintWords Go.Proofs.YtodmemndaaiolaaW.PrintLast Go.Proofs.YtodmemndaaiolaaW.PrintMore
attribute [local go_sem] max2_int min2_int max_two min_two max_three min_three max_four min_four
set_option linter.unusedVariables false
set_option linter.unusedSimpArgs false
def swarfkit_Feed_In.f (s0_0 : Int) (a1_0 : Int) (a1_1 : Int) : Option (Int × Int) := (swarfkit_Feed_Between.f s0_0 a1_0 a1_1).bind fun bt1050 => ((swarfkit_Feed_Between.f bt1050.2 a1_0 a1_1).bind fun bt1052 => ((swarfkit_Feed_Either.f bt1052.2 (([a1_0, a1_1, bt1050.1, bt1052.1] : List Int))).bind fun bt1057 => (some (bt1057.1, bt1057.2))))
end Go.Proofs.Ytodmemndaaiolaa.PC7
namespace Go.Proofs.Ytodmemndaaiolaa.PC7
set_option linter.unusedVariables false
set_option linter.unusedSimpArgs false
open Go.RowKit Go.Proofs.YtodmemndaaiolaaW.PrintWords Go.Proofs.YtodmemndaaiolaaW.PrintLast Go.Proofs.YtodmemndaaiolaaW.PrintMore
def feedL (s : Int) : List S56 → Option (List Int × Int)
 | [] => some ([], s)
 | x :: r => (swarfkit_Feed_In.f s x.f0 x.f1).bind fun a => (feedL a.2 r).bind fun b => some (a.1 :: b.1, b.2)
def factS (s : Int) : List S59 → Option (List Int × List (List Int) × Int)
 | [] => some ([], [], s)
 | x :: r => (swarfkit_Feed_In.f s x.f0.f0 x.f0.f1).bind fun a => (feedL a.2 (x.f1.map (·.f1))).bind fun l => (factS l.2 r).bind fun b => some (a.1 :: b.1, l.1 :: b.2.1, b.2.2)
theorem R_kb {α : Type} {d : Kd α} {e base g : Nat} {ok : Nat → Prop} {W W' : World} {v : Value} {xs : List α} (h : d.R e W base ok v xs) (hk : KeepBut W W' g none) (hg : g < base) : d.R e W' base ok v xs :=
 Kd.R_mono (Kd.R_step (Kd.R_bound h) (fun k hk' hlt => hk.2 k hlt (by have := hk'.2.1; omega) (by simp))) (fun _ h => h.1)
theorem S_kb {α : Type} {d : Kd α} {e base g : Nat} {ok : Nat → Prop} {W W' : World} {v : Value} {xs : List α} (h : d.S e W base ok v xs) (hk : KeepBut W W' g none) (hg : g < base) : d.S e W' base ok v xs :=
 Kd.S_mono (Kd.S_step (Kd.S_bound h) (fun k hk' hlt => hk.2 k hlt (by have := hk'.2.1; omega) (by simp))) (fun _ h => h.1)
theorem blk_kb {w w' : World} {g b : Nat} {o : Obj} (h : w.heap[b]? = some o) (hk : KeepBut w w' g none) (hne : b ≠ g) : w'.heap[b]? = some o := (hk.2 b (blk_lt h) hne (by simp)).trans h
end Go.Proofs.Ytodmemndaaiolaa.PC7
namespace Go.Proofs.Ytodmemndaaiolaa.PC7
set_option linter.unusedVariables false
open Go.RowKit Go.Proofs.YtodmemndaaiolaaW.PrintWords Go.Proofs.YtodmemndaaiolaaW.PrintLast Go.Proofs.YtodmemndaaiolaaW.PrintMore
def feedX (s x : Int) : Int := Go.bits .xor .u64 s (IntKind.u64.wrap (IntKind.u64.wrap x * 15485907386658061715))
def feedAll (l : List Int) : Int := l.foldl (fun s x => feedN (feedX s x)) 88172645463325252
def swarfkit_FeedOf.f (l0 : List Int) : Option (Int) := if l0.length ≤ 140737488351232 then some (feedAll l0) else none
structure FeedNew (w0 w W : World) (g : Nat) (x : Int) : Prop where
 is : IsS90 w0 W g x
 be : Below w0.heap.size w0 W
 bw : Below w.heap.size w W
 ge : w.heap.size ≤ g
theorem FeedNew.next {w0 w W : World} {g : Nat} {x : Int} (h : FeedNew w0 w W g x) (y : Int) : FeedNew w0 w (W.setCell ⟨g, 0, none⟩ (.int .u64 y)) g y :=
 ⟨h.is.set_0 y, below_set h.be h.is.ge, below_set h.bw h.ge, h.ge⟩
theorem FeedNew.drew {w0 w W : World} {g : Nat} {x : Int} (h : FeedNew w0 w W g x) : FeedNew w0 w W.drew g x := ⟨h.is.drew, h.be.drew, h.bw.drew, h.ge⟩
theorem below_next {w0 w w1 w2 : World} {g : Nat} (hb : Below w.heap.size w w1) (h1 : Below w0.heap.size w0 w1) (h2 : Below w0.heap.size w0 w2) (hk : KeepBut w1 w2 g none) (hg : w.heap.size ≤ g) : Below w.heap.size w w2 :=
 ⟨(h2.os.trans h1.os.symm).trans hb.os, (h2.tape.trans h1.tape.symm).trans hb.tape, (h2.output.trans h1.output.symm).trans hb.output, Nat.le_trans hb.size hk.1,
  fun k hlt => (hk.2 k (Nat.lt_of_lt_of_le hlt hb.size) (by omega) (by simp)).trans (hb.block k hlt)⟩
theorem feedAll_step (l : List Int) (i : Nat) (h : i < l.length) : feedAll (l.take (i + 1)) = feedN (feedX (feedAll (l.take i)) (rd l (i : Int))) := by
 unfold feedAll
 rw [List.take_succ_eq_append_getElem h, List.foldl_append]
 simp [rd, List.getD, h]
set_option maxHeartbeats 4000000 in
set_option maxRecDepth 100000 in
theorem swarfkit_FeedOf.calls (A0 : Option Addr) (c0 : Nat) (l0 : List Int) (r : Int) (w0 w : World) (hB : Below w0.heap.size w0 w) (hr0 : Kd.C (Kd.int .i64) w0 A0 l0.length l0) (hc0 : l0.length ≤ c0) (h : swarfkit_FeedOf.f l0 = some r) :
  Calls Try.prog 16 #[.slice A0 l0.length c0] w fun e w' => ∃ g_ : Nat, e = .returned (.pointer (some ⟨g_, 0, none⟩)) ∧ IsS90 w0 w' g_ r ∧ Below w0.heap.size w0 w' ∧ Below w.heap.size w w' := by
 simp only [swarfkit_FeedOf.f] at h
 by_cases hl : l0.length ≤ 140737488351232
 case neg => rw [if_neg hl] at h; cases h
 rw [if_pos hl] at h
 obtain rfl := Option.some.inj h
 clear h
 have hu90 := Try.underlying90
 have HB := Aside0.mk hB
 have HR0 := Aside0.mk hr0
 clear hB hr0
 go_enter Try.func16, Try.ntmps16
 go_wp2
 have F := Aside0.mk (FeedNew.mk (IsS90.new w0 w (88172645463325252) HB.out) (below_alloc HB.out _) (below_alloc (Below.refl _ _) _) (Nat.le_refl _))
 go_loopw [4] (fun i wr => ∃ k : Nat, k ≤ l0.length ∧ i = .int .i64 k ∧ Aside0 (FeedNew w0 w wr w.heap.size (feedAll (l0.take k)))) (fun i _ => l0.length - (intOf i).toNat)
 case atStart => exact ⟨0, Nat.zero_le _, rfl, F⟩
 case round =>
  clear F; obtain ⟨k, hk, rfl, F⟩ := hrel; have hcell := (blk_cell F.out.is.1 0).trans rfl; have hfree := blk_frozen F.out.is.1 0; by_cases hlt : k < l0.length
  ·
   (have hlz : (k : Int) < (l0.length : Int) := by omega); obtain ⟨ad, e, hx⟩ := Kd.at_int HR0.out (k : Int) (by omega) hlz; (cases e); rw [Int.toNat_natCast] at hx; replace hx := (F.out.be.cell (World.block_lt_of_cell? w0 _ hx)).trans hx; have HF := Aside0.mk (feedAll_step l0 k hlt); generalize feedAll (l0.take k) = s at *; generalize rd l0 (k : Int) = x at *; go_wp2
   go_region
   clear hcell hfree hx; have F1 := Aside0.mk (F.out.next (feedX s x)).drew; generalize hx1 : bits BinOp.xor IntKind.u64 s (IntKind.u64.wrap (IntKind.u64.wrap x * 15485907386658061715)) = x1; have hy1 : feedX s x = x1 := hx1; rw [hy1] at F1 HF; generalize hw1 : (wr.setCell ⟨w.heap.size, 0, none⟩ (.int .u64 x1)).drew = w1; rw [hw1] at F1; clear hx1 hw1 hy1 F; have HC := Aside0.mk (swarfkit_Feed_next.calls w.heap.size x1 (feedM (feedN x1)) (feedN x1) w0 w1 F1.out.is F1.out.be rfl)
   go_wp2_with (go_at_call 53; refine HC.out.mono ?_; rintro e w2 ⟨rfl, hI2, hB2, hK2⟩; have F2 := Aside0.mk (FeedNew.mk hI2 hB2 (below_next F1.out.bw F1.out.be hB2 hK2 F1.out.ge) F1.out.ge); clear hI2 hB2 hK2 HC)
   go_roundw
   case rel => exact ⟨k + 1, by omega, by go_num, by rw [HF.out]; exact F2⟩
   case measure => simp [intOf]; omega
  ·
   (have : k = l0.length := by omega); subst this; go_wp2; go_ret; rw [List.take_length] at F; exact ⟨_, rfl, F.out.is, F.out.be, F.out.bw⟩
end Go.Proofs.Ytodmemndaaiolaa.PC7
namespace Go.Proofs.Ytodmemndaaiolaa.PC7
open Go.RowKit Go.Proofs.YtodmemndaaiolaaW.PrintWords Go.Proofs.YtodmemndaaiolaaW.PrintLast Go.Proofs.YtodmemndaaiolaaW.PrintMore
attribute [local go_sem] max2_int min2_int max_two min_two max_three min_three max_four min_four
set_option linter.unusedVariables false
set_option linter.unusedSimpArgs false
attribute [local go_sem high] eqA56
set_option maxHeartbeats 8000000 in
set_option maxRecDepth 100000 in
theorem swarflaw07_awake.calls (k : Nat)  (r : Bool) (w : World) (h : swarflaw07_awake.f k  = some r) :
  Calls Try.prog 15 #[] w fun e w' => e = .returned (.bool r) ∧ Below w.heap.size w w' := by
 have hrt := Aside0.mk (awake_true h)
 have hu56 := Try.underlying56
 have HB := Aside0.mk (Below.refl w.heap.size w)
 have H : ((swarflaw07_voyage.f).bind fun bt198 => ((ship_Drafts.f bt198.1 bt198.2.1 bt198.2.2.1 bt198.2.2.2.1 bt198.2.2.2.2.1 bt198.2.2.2.2.2.1 bt198.2.2.2.2.2.2 (([0, 1, (-1)] : List Int))).bind fun bt214 => ((swarflaw07_voyage.f).bind fun bt221 => ((ship_Sail.f bt221.1 bt221.2.1 bt221.2.2.1 bt221.2.2.2.1 bt221.2.2.2.2.1 bt221.2.2.2.2.2.1 bt221.2.2.2.2.2.2 (([0, 1, (-1)] : List Int))).bind fun bt237 => ((swarflaw07_voyage.f).bind fun bt242 => ((ship_Best.f bt242.1 bt242.2.1 bt242.2.2.1 bt242.2.2.2.1 bt242.2.2.2.2.1 bt242.2.2.2.2.2.1 bt242.2.2.2.2.2.2).bind fun bt255 => (if bt214.2.2.2.2 = 0 then (if bt237.2.2 = 0 then (if bt255.2.2 = 0 then ((swarflaw07_rng.f 1290000 1340000).bind fun bt260 => (if (bt214.1 == bt260.1 && (bt214.2.1 == bt260.2)) = true then ((swarflaw07_rng.f 1260000 1310000).bind fun bt262 => (if (bt214.2.2.1 == bt262.1 && (bt214.2.2.2.1 == bt262.2)) = true then (if bt237.1 = 1 then (if bt255.2.1 = 95 then ((swarfkit_EqualInts.f k bt255.1 (([0, (-1), 1] : List Int))).bind fun t267 => (if t267 = true then ((swarflaw07_rng.f 90 100).bind fun bt268 => ((swarflaw07_rng.f 240 250).bind fun bt270 => ((swarfkit_EqualRanges.f k bt237.2.1 (([(⟨bt268.1, bt268.2⟩ : S56), (⟨bt270.1, bt270.2⟩ : S56)] : List (S56)))).bind fun t275 => (some t275)))) else (some false))) else (some false)) else (some false)) else (some false))) else (some false))) else (some false)) else (some false)) else (some false)))))))) = some r := h
 clear h
 replace H := Option.bind_eq_some_iff.mp H
 obtain ⟨⟨t198, t199, t200, t201, t204, t205, t208⟩, A10, H⟩ := H
 try dsimp only at H
 have A1 := Aside0.mk A10
 clear A10
 obtain ⟨y211, hy211⟩ : ∃ y_ : List Int, y_ = (([0, 1, (-1)] : List Int)) := ⟨_, rfl⟩
 replace H : ((ship_Drafts.f t198 t199 t200 t201 t204 t205 t208 y211).bind fun bt214 => ((swarflaw07_voyage.f).bind fun bt221 => ((ship_Sail.f bt221.1 bt221.2.1 bt221.2.2.1 bt221.2.2.2.1 bt221.2.2.2.2.1 bt221.2.2.2.2.2.1 bt221.2.2.2.2.2.2 (([0, 1, (-1)] : List Int))).bind fun bt237 => ((swarflaw07_voyage.f).bind fun bt242 => ((ship_Best.f bt242.1 bt242.2.1 bt242.2.2.1 bt242.2.2.2.1 bt242.2.2.2.2.1 bt242.2.2.2.2.2.1 bt242.2.2.2.2.2.2).bind fun bt255 => (if bt214.2.2.2.2 = 0 then (if bt237.2.2 = 0 then (if bt255.2.2 = 0 then ((swarflaw07_rng.f 1290000 1340000).bind fun bt260 => (if (bt214.1 == bt260.1 && (bt214.2.1 == bt260.2)) = true then ((swarflaw07_rng.f 1260000 1310000).bind fun bt262 => (if (bt214.2.2.1 == bt262.1 && (bt214.2.2.2.1 == bt262.2)) = true then (if bt237.1 = 1 then (if bt255.2.1 = 95 then ((swarfkit_EqualInts.f k bt255.1 (([0, (-1), 1] : List Int))).bind fun t267 => (if t267 = true then ((swarflaw07_rng.f 90 100).bind fun bt268 => ((swarflaw07_rng.f 240 250).bind fun bt270 => ((swarfkit_EqualRanges.f k bt237.2.1 (([(⟨bt268.1, bt268.2⟩ : S56), (⟨bt270.1, bt270.2⟩ : S56)] : List (S56)))).bind fun t275 => (some t275)))) else (some false))) else (some false)) else (some false)) else (some false))) else (some false))) else (some false)) else (some false)) else (some false))))))) = some r := by first | (rw [hy211]; with_reducible exact H) | (have H2_ := (Option.bind_some _ _).symm.trans H; rw [hy211]; with_reducible exact H2_) | (have H2_ := (Option.bind_some _ _).symm.trans H; with_reducible exact H2_) | with_reducible exact H | (rw [hy211]; exact H) | exact H
 have Ny211 := Aside0.mk hy211
 clear hy211
 replace H := Option.bind_eq_some_iff.mp H
 obtain ⟨⟨t214, t215, t216, t217, t218⟩, A20, H⟩ := H
 try dsimp only at H
 have A2 := Aside0.mk A20
 clear A20
 replace H := Option.bind_eq_some_iff.mp H
 obtain ⟨⟨t221, t222, t223, t224, t227, t228, t231⟩, A30, H⟩ := H
 try dsimp only at H
 have A3 := Aside0.mk A30
 clear A30
 obtain ⟨y234, hy234⟩ : ∃ y_ : List Int, y_ = (([0, 1, (-1)] : List Int)) := ⟨_, rfl⟩
 replace H : ((ship_Sail.f t221 t222 t223 t224 t227 t228 t231 y234).bind fun bt237 => ((swarflaw07_voyage.f).bind fun bt242 => ((ship_Best.f bt242.1 bt242.2.1 bt242.2.2.1 bt242.2.2.2.1 bt242.2.2.2.2.1 bt242.2.2.2.2.2.1 bt242.2.2.2.2.2.2).bind fun bt255 => (if t218 = 0 then (if bt237.2.2 = 0 then (if bt255.2.2 = 0 then ((swarflaw07_rng.f 1290000 1340000).bind fun bt260 => (if (t214 == bt260.1 && (t215 == bt260.2)) = true then ((swarflaw07_rng.f 1260000 1310000).bind fun bt262 => (if (t216 == bt262.1 && (t217 == bt262.2)) = true then (if bt237.1 = 1 then (if bt255.2.1 = 95 then ((swarfkit_EqualInts.f k bt255.1 (([0, (-1), 1] : List Int))).bind fun t267 => (if t267 = true then ((swarflaw07_rng.f 90 100).bind fun bt268 => ((swarflaw07_rng.f 240 250).bind fun bt270 => ((swarfkit_EqualRanges.f k bt237.2.1 (([(⟨bt268.1, bt268.2⟩ : S56), (⟨bt270.1, bt270.2⟩ : S56)] : List (S56)))).bind fun t275 => (some t275)))) else (some false))) else (some false)) else (some false)) else (some false))) else (some false))) else (some false)) else (some false)) else (some false))))) = some r := by first | (rw [hy234]; with_reducible exact H) | (have H2_ := (Option.bind_some _ _).symm.trans H; rw [hy234]; with_reducible exact H2_) | (have H2_ := (Option.bind_some _ _).symm.trans H; with_reducible exact H2_) | with_reducible exact H | (rw [hy234]; exact H) | exact H
 have Ny234 := Aside0.mk hy234
 clear hy234
 replace H := Option.bind_eq_some_iff.mp H
 obtain ⟨⟨t237, t238, t241⟩, A40, H⟩ := H
 try dsimp only at H
 have A4 := Aside0.mk A40
 clear A40
 replace H := Option.bind_eq_some_iff.mp H
 obtain ⟨⟨t242, t243, t244, t245, t248, t249, t252⟩, A50, H⟩ := H
 try dsimp only at H
 have A5 := Aside0.mk A50
 clear A50
 replace H := Option.bind_eq_some_iff.mp H
 obtain ⟨⟨t255, t258, t259⟩, A60, H⟩ := H
 try dsimp only at H
 have A6 := Aside0.mk A60
 clear A60
 by_cases c7 : t218 = 0
 ·
  rw [if_pos c7] at H; have c7b0 : (t218 == 0) = true := beq_iff_eq.mpr c7; have c7b1 : (t218 != 0) = false := bne_eq_false_iff_eq.mpr c7; clear c7; by_cases c8 : t241 = 0
  ·
   rw [if_pos c8] at H; have c8b0 : (t241 == 0) = true := beq_iff_eq.mpr c8; have c8b1 : (t241 != 0) = false := bne_eq_false_iff_eq.mpr c8; clear c8; by_cases c9 : t259 = 0
   ·
    rw [if_pos c9] at H; have c9b0 : (t259 == 0) = true := beq_iff_eq.mpr c9; have c9b1 : (t259 != 0) = false := bne_eq_false_iff_eq.mpr c9; clear c9; replace H := Option.bind_eq_some_iff.mp H; obtain ⟨⟨t260, t261⟩, A100, H⟩ := H
    try dsimp only at H
    have A10 := Aside0.mk A100; clear A100; by_cases c11 : (t214 == t260 && (t215 == t261)) = true
    ·
     rw [if_pos c11] at H; have c11b0 : (t214 == t260 && (t215 == t261)) = true := c11
     (try (have c11b1 : decide (t214 = t260 && (t215 == t261)) = true := by simpa using c11))
     (try (have c11b2 : (t214 == t260 && (t215 == t261)) = true := by simpa using c11))
     clear c11; replace H := Option.bind_eq_some_iff.mp H; obtain ⟨⟨t262, t263⟩, A120, H⟩ := H
     try dsimp only at H
     have A12 := Aside0.mk A120; clear A120; by_cases c13 : (t216 == t262 && (t217 == t263)) = true
     ·
      rw [if_pos c13] at H; have c13b0 : (t216 == t262 && (t217 == t263)) = true := c13
      (try (have c13b1 : decide (t216 = t262 && (t217 == t263)) = true := by simpa using c13))
      (try (have c13b2 : (t216 == t262 && (t217 == t263)) = true := by simpa using c13))
      clear c13; by_cases c14 : t237 = 1
      ·
       rw [if_pos c14] at H; have c14b0 : (t237 == 1) = true := beq_iff_eq.mpr c14; have c14b1 : (t237 != 1) = false := bne_eq_false_iff_eq.mpr c14; clear c14; by_cases c15 : t258 = 95
       ·
        rw [if_pos c15] at H; have c15b0 : (t258 == 95) = true := beq_iff_eq.mpr c15; have c15b1 : (t258 != 95) = false := bne_eq_false_iff_eq.mpr c15; clear c15; obtain ⟨y264, hy264⟩ : ∃ y_ : List Int, y_ = (([0, (-1), 1] : List Int)) := ⟨_, rfl⟩; (replace H : ((swarfkit_EqualInts.f k t255 y264).bind fun t267 => (if t267 = true then ((swarflaw07_rng.f 90 100).bind fun bt268 => ((swarflaw07_rng.f 240 250).bind fun bt270 => ((swarfkit_EqualRanges.f k t238 (([(⟨bt268.1, bt268.2⟩ : S56), (⟨bt270.1, bt270.2⟩ : S56)] : List (S56)))).bind fun t275 => (some t275)))) else (some false))) = some r := by first | (rw [hy264]; with_reducible exact H) | (have H2_ := (Option.bind_some _ _).symm.trans H; rw [hy264]; with_reducible exact H2_) | (have H2_ := (Option.bind_some _ _).symm.trans H; with_reducible exact H2_) | with_reducible exact H | (rw [hy264]; exact H) | exact H); have Ny264 := Aside0.mk hy264; clear hy264; replace H := Option.bind_eq_some_iff.mp H; obtain ⟨t267, A160, H⟩ := H
        try dsimp only at H
        have A16 := Aside0.mk A160; clear A160; by_cases c17 : t267 = true
        ·
         subst c17; (have H1 : ((swarflaw07_rng.f 90 100).bind fun bt268 => ((swarflaw07_rng.f 240 250).bind fun bt270 => ((swarfkit_EqualRanges.f k t238 (([(⟨bt268.1, bt268.2⟩ : S56), (⟨bt270.1, bt270.2⟩ : S56)] : List (S56)))).bind fun t275 => (some t275)))) = some r := by rw [if_pos rfl] at H; exact H); clear H; have H := H1; clear H1; replace H := Option.bind_eq_some_iff.mp H; obtain ⟨⟨t268, t269⟩, A180, H⟩ := H
         try dsimp only at H
         have A18 := Aside0.mk A180; clear A180; replace H := Option.bind_eq_some_iff.mp H; obtain ⟨⟨t270, t271⟩, A190, H⟩ := H
         try dsimp only at H
         have A19 := Aside0.mk A190; clear A190; obtain ⟨y272, hy272⟩ : ∃ y_ : List (S56), y_ = (([(⟨t268, t269⟩ : S56), (⟨t270, t271⟩ : S56)] : List (S56))) := ⟨_, rfl⟩; (replace H : ((swarfkit_EqualRanges.f k t238 y272).bind fun t275 => (some t275)) = some r := by first | (rw [hy272]; with_reducible exact H) | (have H2_ := (Option.bind_some _ _).symm.trans H; rw [hy272]; with_reducible exact H2_) | (have H2_ := (Option.bind_some _ _).symm.trans H; with_reducible exact H2_) | with_reducible exact H | (rw [hy272]; exact H) | exact H); have Ny272 := Aside0.mk hy272; clear hy272; replace H := Option.bind_eq_some_iff.mp H; obtain ⟨t275, A200, H⟩ := H; replace H : (some t275) = some r := H; have A20 := Aside0.mk A200; clear A200; obtain rfl := Option.some.inj H; go_enter Try.func15, Try.ntmps15
         try go_wp2_with (first | (refine goesG_x 52 rfl (some 11) Try.func52 #[] ?_; (with_reducible refine (swarflaw07_voyage.calls  t198 t199 t200 t201 t204 t205 t208 _ A1.out).mono ?_); rintro e w21 ⟨v202, v206, v209, rfl, ho0, ho1, ho2, hb⟩; refine ⟨_, rfl, ?_⟩; have HO203 := Aside0.mk (Kd.R_lower (Kd.R_mono (ok' := fun k_ => True) ho0 (fun _ hk_ => trivial)) (below_size (below_x HB.out))); have HO207 := Aside0.mk (Kd.N_lower (Kd.N_mono (ok' := fun k_ => some k_ ≠ (v202 : Value).ownBlock ∧ some k_ ≠ (v209 : Value).ownBlock) ho1 (fun k_ hk_ => ⟨hk_.2.1, hk_.2.2⟩)) (below_size (below_x HB.out))); have HO210 := Aside0.mk (Kd.R_lower (Kd.R_mono (ok' := fun k_ => True) ho2 (fun _ hk_ => trivial)) (below_size (below_x HB.out))); replace HB := Aside0.mk (below_step (below_x HB.out) hb); (try clear hb); (try clear hk); (try clear hi); (try clear ho0); (try clear ho1); (try clear ho2)) | ((with_reducible refine gate_dst (N := 12) rfl ?_); (try (refine gate_guard (by rfl) ?_; dsimp only)); refine Kd.R_lit (Kd.int .i64) _ 3 ?hg (N := 12) ?hd (xs := ([0, 1, (-1)] : List Int)) (inner := [.int .i64 0, .int .i64 1, .int .i64 (-1)]) (ok := fun _ => True) (okp := fun _ => True) ?hr ?hp (fun _ hk => hk) trivial (Below.refl _ _) (Nat.le_refl _) (by simp) ?_; (case hd => rfl); (case hg => rfl); (case hr => first | (go_simp; done) | (go_simp; rfl)); (case hp => exact (Reps.one (show Kd.M (Kd.int .i64) _ _ _ 0 [.int .i64 0] from rfl) (Reps.one (show Kd.M (Kd.int .i64) _ _ _ 1 [.int .i64 1] from rfl) (Reps.one (show Kd.M (Kd.int .i64) _ _ _ (-1) [.int .i64 (-1)] from rfl) (Reps.none _ _))))); intro v212 w22 ho23 hb hg_ hnew_; clear hg_ hnew_; (first | rw [← Ny211.out] at ho23 | (simp only [Int.reduceToNat] at ho23; rw [← Ny211.out] at ho23)); replace HO203 := Aside0.mk (Kd.R_below (Kd.R_x HO203.out) hb); replace HO207 := Aside0.mk (Kd.N_elder' (Kd.N_x HO207.out) (Kd.R_base ho23) hb); replace HO210 := Aside0.mk (Kd.R_below (Kd.R_x HO210.out) hb); have HO213 := Aside0.mk (Kd.R_lower ho23 (below_size (below_x HB.out))); replace HB := Aside0.mk (below_step (below_x HB.out) hb); clear hb ho23; obtain ⟨Ao24, co24, eo24⟩ := Kd.R_slice HO203.out; subst eo24; obtain ⟨Ao25, co25, eo25⟩ := Kd.N_slice HO207.out; subst eo25; obtain ⟨Ao26, co26, eo26⟩ := Kd.R_slice HO210.out; subst eo26; obtain ⟨Ao27, co27, eo27⟩ := Kd.R_slice HO213.out; subst eo27) | (refine goesG_x 35 rfl (some 13) Try.func35 #[.agg #[.int .i64 t198, .int .i64 t199, .int .i64 t200, .slice Ao24 t201.length co24, .int .i64 t204, .slice Ao25 t205.length co25, .slice Ao26 t208.length co26], .slice Ao27 y211.length co27] ?_; (with_reducible refine (ship_Drafts.calls t198 t199 t200 _ _ t201 t204 _ _ t205 _ _ t208 _ _ y211 t214 t215 t216 t217 t218 _ ?side1 ?side2 ?side3 ?side4 ?side5 ?side6 ?side7 ?side8 A2.out).mono ?_); (case side1 => exact Kd.C_y (Kd.R_reads' HO203.out).2.2); (case side2 => exact (Kd.R_reads' HO203.out).2.1); (case side3 => exact Kd.C_y (Kd.N_reads' HO207.out).2.2); (case side4 => exact (Kd.N_reads' HO207.out).2.1); (case side5 => exact Kd.C_y (Kd.R_reads' HO210.out).2.2); (case side6 => exact (Kd.R_reads' HO210.out).2.1); (case side7 => exact Kd.C_y (Kd.R_reads' HO213.out).2.2); (case side8 => exact (Kd.R_reads' HO213.out).2.1); rintro e w28 ⟨rfl, hb⟩; refine ⟨_, rfl, ?_⟩; replace HO203 := Aside0.mk (Kd.R_below (Kd.R_x HO203.out) hb); replace HO207 := Aside0.mk (Kd.N_below (Kd.N_x HO207.out) hb); replace HO210 := Aside0.mk (Kd.R_below (Kd.R_x HO210.out) hb); replace HO213 := Aside0.mk (Kd.R_below (Kd.R_x HO213.out) hb); replace HB := Aside0.mk (below_step (below_x HB.out) hb); (try clear hb); (try clear hk); (try clear hi)) | ((with_reducible refine gate_dst (N := 1) rfl ?_); (try (refine gate_guard (by rfl) ?_; dsimp only)); refine box_x (N := 1) (cs := #[.int .i64 0, .int .i64 0]) (t := 56) ?_; intro gb219 hg w29 hbox hb; replace HO203 := Aside0.mk (Kd.R_below (Kd.R_x HO203.out) hb); replace HO207 := Aside0.mk (Kd.N_below (Kd.N_elderB (Kd.N_x HO207.out) gb219 (Nat.le_of_eq hg.symm)) hb); replace HO210 := Aside0.mk (Kd.R_below (Kd.R_x HO210.out) hb); replace HO213 := Aside0.mk (Kd.R_below (Kd.R_x HO213.out) hb); have BK219 := Aside0.mk (hbox); have GW219 := gw_x hg HB; have GE219 := GW219; replace HB := Aside0.mk (below_step (below_x HB.out) hb); clear hb hbox hg) | ((with_reducible refine gate_dst (N := 2) rfl ?_); (try (refine gate_guard (by rfl) ?_; dsimp only)); refine box_x (N := 2) (cs := #[.int .i64 0, .int .i64 0]) (t := 56) ?_; intro gb220 hg w30 hbox hb; replace HO203 := Aside0.mk (Kd.R_below (Kd.R_x HO203.out) hb); replace HO207 := Aside0.mk (Kd.N_below (Kd.N_elderB (Kd.N_x HO207.out) gb220 (Nat.le_of_eq hg.symm)) hb); replace HO210 := Aside0.mk (Kd.R_below (Kd.R_x HO210.out) hb); replace HO213 := Aside0.mk (Kd.R_below (Kd.R_x HO213.out) hb); have BK220 := Aside0.mk (hbox); have GW220 := gw_x hg HB; have GE220 := GW220; replace HB := bl_x HB hb; have NB219_220 := nb_x hg BK219; have NB220_219 := nb_y hg BK219; replace BK219 := bk_x BK219 hb; clear hb hbox hg; have hnb31 := NB219_220.out; have hnc31 := NB220_219.out; obtain ⟨hfz32_0, _, _⟩ := cf2 BK219; obtain ⟨hfz33_0, _, _⟩ := cf2 BK220) | (refine goesG_x 52 rfl (some 18) Try.func52 #[] ?_; (with_reducible refine (swarflaw07_voyage.calls  t221 t222 t223 t224 t227 t228 t231 _ A3.out).mono ?_); rintro e w34 ⟨v225, v229, v232, rfl, ho0, ho1, ho2, hb⟩; refine ⟨_, rfl, ?_⟩; have HO226 := Aside0.mk (Kd.R_lower (Kd.R_new' (Kd.R_mono (ok' := fun k_ => True) ho0 (fun _ hk_ => trivial)) (Kd.R_lt (by (with_reducible repeat (first | apply Kd.R_alloc | apply Kd.R_drewN | apply Kd.R_drew)); exact (Kd.R_mono (Kd.R_mono (Kd.R_far (p := ⟨gb220, 1, none⟩) (Kd.R_far (p := ⟨gb220, 0, none⟩) (Kd.R_far (p := ⟨gb219, 1, none⟩) (Kd.R_far (p := ⟨gb219, 0, none⟩) (Kd.R_types (Kd.R_types HO203.out BK219.out (by decide)) BK220.out (by decide)) (fun _ hk => hk.1.2) (.int .i64 t214)) (fun _ hk => hk.1.2) (.int .i64 t215)) (fun _ hk => hk.2) (.int .i64 t216)) (fun _ hk => hk.2) (.int .i64 t217)) (fun _ h_ => h_.1)) (fun _ h_ => h_.1))))) (below_size (by exact below_y HB.out))); have HO230 := Aside0.mk (Kd.N_lower (Kd.N_mono (ok' := fun k_ => some k_ ≠ (v225 : Value).ownBlock ∧ some k_ ≠ (v232 : Value).ownBlock ∧ some k_ ≠ (.slice Ao24 t201.length co24 : Value).ownBlock ∧ some k_ ≠ (.slice Ao25 t205.length co25 : Value).ownBlock ∧ some k_ ≠ (.slice Ao26 t208.length co26 : Value).ownBlock ∧ some k_ ≠ (.slice Ao27 y211.length co27 : Value).ownBlock ∧ k_ ≠ gb219 ∧ k_ ≠ gb220) ho1 (fun k_ hk_ => ⟨hk_.2.1, hk_.2.2, (Kd.fresh' (Kd.R_lt (by (with_reducible repeat (first | apply Kd.R_alloc | apply Kd.R_drewN | apply Kd.R_drew)); exact (Kd.R_mono (Kd.R_mono (Kd.R_far (p := ⟨gb220, 1, none⟩) (Kd.R_far (p := ⟨gb220, 0, none⟩) (Kd.R_far (p := ⟨gb219, 1, none⟩) (Kd.R_far (p := ⟨gb219, 0, none⟩) (Kd.R_types (Kd.R_types HO203.out BK219.out (by decide)) BK220.out (by decide)) (fun _ hk => hk.1.2) (.int .i64 t214)) (fun _ hk => hk.1.2) (.int .i64 t215)) (fun _ hk => hk.2) (.int .i64 t216)) (fun _ hk => hk.2) (.int .i64 t217)) (fun _ h_ => h_.1)) (fun _ h_ => h_.1)))) k_ hk_.1), (Kd.fresh' (Kd.N_lt (by (with_reducible repeat (first | apply Kd.N_alloc | apply Kd.N_drewN | apply Kd.N_drew)); exact (Kd.N_mono (Kd.N_mono (Kd.N_far (p := ⟨gb220, 1, none⟩) (Kd.N_far (p := ⟨gb220, 0, none⟩) (Kd.N_far (p := ⟨gb219, 1, none⟩) (Kd.N_far (p := ⟨gb219, 0, none⟩) (Kd.N_mono (Kd.N_mono HO207.out (fun k_ hk => (⟨hk, hk.1.2⟩ : _ ∧ k_ ≠ gb219))) (fun k_ hk => (⟨hk, hk.1.2⟩ : _ ∧ k_ ≠ gb220))) (fun _ hk => hk.1.2) (.int .i64 t214)) (fun _ hk => hk.1.2) (.int .i64 t215)) (fun _ hk => hk.2) (.int .i64 t216)) (fun _ hk => hk.2) (.int .i64 t217)) (fun _ h_ => h_.1)) (fun _ h_ => h_.1)))) k_ hk_.1), (Kd.fresh' (Kd.R_lt (by (with_reducible repeat (first | apply Kd.R_alloc | apply Kd.R_drewN | apply Kd.R_drew)); exact (Kd.R_mono (Kd.R_mono (Kd.R_far (p := ⟨gb220, 1, none⟩) (Kd.R_far (p := ⟨gb220, 0, none⟩) (Kd.R_far (p := ⟨gb219, 1, none⟩) (Kd.R_far (p := ⟨gb219, 0, none⟩) (Kd.R_types (Kd.R_types HO210.out BK219.out (by decide)) BK220.out (by decide)) (fun _ hk => hk.1.2) (.int .i64 t214)) (fun _ hk => hk.1.2) (.int .i64 t215)) (fun _ hk => hk.2) (.int .i64 t216)) (fun _ hk => hk.2) (.int .i64 t217)) (fun _ h_ => h_.1)) (fun _ h_ => h_.1)))) k_ hk_.1), (Kd.fresh' (Kd.R_lt (by (with_reducible repeat (first | apply Kd.R_alloc | apply Kd.R_drewN | apply Kd.R_drew)); exact (Kd.R_mono (Kd.R_mono (Kd.R_far (p := ⟨gb220, 1, none⟩) (Kd.R_far (p := ⟨gb220, 0, none⟩) (Kd.R_far (p := ⟨gb219, 1, none⟩) (Kd.R_far (p := ⟨gb219, 0, none⟩) (Kd.R_types (Kd.R_types HO213.out BK219.out (by decide)) BK220.out (by decide)) (fun _ hk => hk.1.2) (.int .i64 t214)) (fun _ hk => hk.1.2) (.int .i64 t215)) (fun _ hk => hk.2) (.int .i64 t216)) (fun _ hk => hk.2) (.int .i64 t217)) (fun _ h_ => h_.1)) (fun _ h_ => h_.1)))) k_ hk_.1), (Kd.freshB (g := gb219) (o := .cells #[.int .i64 t214, .int .i64 t215] 56 (0, 0)) (blk_z BK219.out) k_ hk_.1), (Kd.freshB (g := gb220) (o := .cells #[.int .i64 t216, .int .i64 t217] 56 (0, 0)) (by (with_reducible repeat (first | refine blk_drewN ?_ _ | refine blk_drew ?_ | refine blk_alloc ?_ _)); refine blk_put (cs := #[.int .i64 t216, .int .i64 0]) ?_ 1 _ rfl; (with_reducible repeat (first | refine blk_drewN ?_ _ | refine blk_drew ?_ | refine blk_alloc ?_ _)); refine blk_put (cs := #[.int .i64 0, .int .i64 0]) ?_ 0 _ rfl; exact blk_w BK220.out) k_ hk_.1)⟩)) (below_size (by exact below_y HB.out))); replace HO203 := Aside0.mk (Kd.R_elder' (by (with_reducible repeat (first | apply Kd.R_alloc | apply Kd.R_drewN | apply Kd.R_drew)); exact (Kd.R_mono (Kd.R_mono (Kd.R_far (p := ⟨gb220, 1, none⟩) (Kd.R_far (p := ⟨gb220, 0, none⟩) (Kd.R_far (p := ⟨gb219, 1, none⟩) (Kd.R_far (p := ⟨gb219, 0, none⟩) (Kd.R_types (Kd.R_types HO203.out BK219.out (by decide)) BK220.out (by decide)) (fun _ hk => hk.1.2) (.int .i64 t214)) (fun _ hk => hk.1.2) (.int .i64 t215)) (fun _ hk => hk.2) (.int .i64 t216)) (fun _ hk => hk.2) (.int .i64 t217)) (fun _ h_ => h_.1)) (fun _ h_ => h_.1))) (Kd.R_base ho0) hb); replace HO207 := Aside0.mk (Kd.N_mono (Kd.N_told (Kd.N_told (Kd.N_told (Kd.N_old (by (with_reducible repeat (first | apply Kd.N_alloc | apply Kd.N_drewN | apply Kd.N_drew)); exact (Kd.N_mono (Kd.N_mono (Kd.N_far (p := ⟨gb220, 1, none⟩) (Kd.N_far (p := ⟨gb220, 0, none⟩) (Kd.N_far (p := ⟨gb219, 1, none⟩) (Kd.N_far (p := ⟨gb219, 0, none⟩) (Kd.N_mono (Kd.N_mono HO207.out (fun k_ hk => (⟨hk, hk.1.2⟩ : _ ∧ k_ ≠ gb219))) (fun k_ hk => (⟨hk, hk.1.2⟩ : _ ∧ k_ ≠ gb220))) (fun _ hk => hk.1.2) (.int .i64 t214)) (fun _ hk => hk.1.2) (.int .i64 t215)) (fun _ hk => hk.2) (.int .i64 t216)) (fun _ hk => hk.2) (.int .i64 t217)) (fun _ h_ => h_.1)) (fun _ h_ => h_.1))) hb) (Kd.R_base ho0)) (Kd.N_base ho1)) (Kd.R_base ho2)) (fun _ h_ => h_.1)); replace HO213 := Aside0.mk (Kd.R_below (by (with_reducible repeat (first | apply Kd.R_alloc | apply Kd.R_drewN | apply Kd.R_drew)); exact (Kd.R_mono (Kd.R_mono (Kd.R_far (p := ⟨gb220, 1, none⟩) (Kd.R_far (p := ⟨gb220, 0, none⟩) (Kd.R_far (p := ⟨gb219, 1, none⟩) (Kd.R_far (p := ⟨gb219, 0, none⟩) (Kd.R_types (Kd.R_types HO213.out BK219.out (by decide)) BK220.out (by decide)) (fun _ hk => hk.1.2) (.int .i64 t214)) (fun _ hk => hk.1.2) (.int .i64 t215)) (fun _ hk => hk.2) (.int .i64 t216)) (fun _ hk => hk.2) (.int .i64 t217)) (fun _ h_ => h_.1)) (fun _ h_ => h_.1))) hb); have HO233 := Aside0.mk (Kd.R_lower (Kd.R_new' (Kd.R_mono (ok' := fun k_ => True) ho2 (fun _ hk_ => trivial)) (Kd.R_lt (by (with_reducible repeat (first | apply Kd.R_alloc | apply Kd.R_drewN | apply Kd.R_drew)); exact (Kd.R_mono (Kd.R_mono (Kd.R_far (p := ⟨gb220, 1, none⟩) (Kd.R_far (p := ⟨gb220, 0, none⟩) (Kd.R_far (p := ⟨gb219, 1, none⟩) (Kd.R_far (p := ⟨gb219, 0, none⟩) (Kd.R_types (Kd.R_types HO210.out BK219.out (by decide)) BK220.out (by decide)) (fun _ hk => hk.1.2) (.int .i64 t214)) (fun _ hk => hk.1.2) (.int .i64 t215)) (fun _ hk => hk.2) (.int .i64 t216)) (fun _ hk => hk.2) (.int .i64 t217)) (fun _ h_ => h_.1)) (fun _ h_ => h_.1))))) (below_size (by exact below_y HB.out))); replace HO210 := Aside0.mk (Kd.R_elder' (by (with_reducible repeat (first | apply Kd.R_alloc | apply Kd.R_drewN | apply Kd.R_drew)); exact (Kd.R_mono (Kd.R_mono (Kd.R_far (p := ⟨gb220, 1, none⟩) (Kd.R_far (p := ⟨gb220, 0, none⟩) (Kd.R_far (p := ⟨gb219, 1, none⟩) (Kd.R_far (p := ⟨gb219, 0, none⟩) (Kd.R_types (Kd.R_types HO210.out BK219.out (by decide)) BK220.out (by decide)) (fun _ hk => hk.1.2) (.int .i64 t214)) (fun _ hk => hk.1.2) (.int .i64 t215)) (fun _ hk => hk.2) (.int .i64 t216)) (fun _ hk => hk.2) (.int .i64 t217)) (fun _ h_ => h_.1)) (fun _ h_ => h_.1))) (Kd.R_base ho2) hb); replace BK219 := Aside0.mk (blk_below (g := gb219) (o := .cells #[.int .i64 t214, .int .i64 t215] 56 (0, 0)) (blk_z BK219.out) hb); replace BK220 := Aside0.mk (blk_below (g := gb220) (o := .cells #[.int .i64 t216, .int .i64 t217] 56 (0, 0)) (by (with_reducible repeat (first | refine blk_drewN ?_ _ | refine blk_drew ?_ | refine blk_alloc ?_ _)); refine blk_put (cs := #[.int .i64 t216, .int .i64 0]) ?_ 1 _ rfl; (with_reducible repeat (first | refine blk_drewN ?_ _ | refine blk_drew ?_ | refine blk_alloc ?_ _)); refine blk_put (cs := #[.int .i64 0, .int .i64 0]) ?_ 0 _ rfl; exact blk_w BK220.out) hb); replace HB := bl_x HB hb; (try clear hb); (try clear hk); (try clear hi); (try clear ho0); (try clear ho1); (try clear ho2)) | ((with_reducible refine gate_dst (N := 19) rfl ?_); (try (refine gate_guard (by rfl) ?_; dsimp only)); refine Kd.R_lit (Kd.int .i64) _ 3 ?hg (N := 19) ?hd (xs := ([0, 1, (-1)] : List Int)) (inner := [.int .i64 0, .int .i64 1, .int .i64 (-1)]) (ok := fun _ => True) (okp := fun _ => True) ?hr ?hp (fun _ hk => hk) trivial (Below.refl _ _) (Nat.le_refl _) (by simp) ?_; (case hd => rfl); (case hg => rfl); (case hr => first | (go_simp; done) | (go_simp; rfl)); (case hp => exact (Reps.one (show Kd.M (Kd.int .i64) _ _ _ 0 [.int .i64 0] from rfl) (Reps.one (show Kd.M (Kd.int .i64) _ _ _ 1 [.int .i64 1] from rfl) (Reps.one (show Kd.M (Kd.int .i64) _ _ _ (-1) [.int .i64 (-1)] from rfl) (Reps.none _ _))))); intro v235 w35 ho36 hb hg_ hnew_; clear hg_ hnew_; (first | rw [← Ny234.out] at ho36 | (simp only [Int.reduceToNat] at ho36; rw [← Ny234.out] at ho36)); replace HO203 := Aside0.mk (Kd.R_below (Kd.R_x HO203.out) hb); replace HO207 := Aside0.mk (Kd.N_elder' (Kd.N_x HO207.out) (Kd.R_base ho36) hb); replace HO210 := Aside0.mk (Kd.R_below (Kd.R_x HO210.out) hb); replace HO226 := Aside0.mk (Kd.R_below (Kd.R_x HO226.out) hb); replace HO230 := Aside0.mk (Kd.N_elder' (Kd.N_x HO230.out) (Kd.R_base ho36) hb); replace HO233 := Aside0.mk (Kd.R_below (Kd.R_x HO233.out) hb); have HO236 := Aside0.mk (Kd.R_lower (Kd.R_new' ho36 (Kd.R_lt (Kd.R_x HO213.out))) (below_size (by exact below_y HB.out))); replace HO213 := Aside0.mk (Kd.R_elder' (Kd.R_x HO213.out) (Kd.R_base ho36) hb); replace BK219 := bk_x BK219 hb; replace BK220 := bk_x BK220 hb; replace HB := bl_x HB hb; clear hb ho36; obtain ⟨Ao37, co37, eo37⟩ := Kd.R_slice HO226.out; subst eo37; obtain ⟨Ao38, co38, eo38⟩ := Kd.N_slice HO230.out; subst eo38; obtain ⟨Ao39, co39, eo39⟩ := Kd.R_slice HO233.out; subst eo39; obtain ⟨Ao40, co40, eo40⟩ := Kd.R_slice HO236.out; subst eo40) | (refine goesG_x 22 rfl (some 20) Try.func22 #[.agg #[.int .i64 t221, .int .i64 t222, .int .i64 t223, .slice Ao37 t224.length co37, .int .i64 t227, .slice Ao38 t228.length co38, .slice Ao39 t231.length co39], .slice Ao40 y234.length co40] ?_; (with_reducible refine (ship_Sail.calls t221 t222 t223 _ _ t224 t227 _ _ t228 _ _ t231 _ _ y234 t237 t238 t241 _ ?side1 ?side2 ?side3 ?side4 ?side5 ?side6 ?side7 ?side8 A4.out).mono ?_); (case side1 => exact Kd.C_y (Kd.R_reads' HO226.out).2.2); (case side2 => exact (Kd.R_reads' HO226.out).2.1); (case side3 => exact Kd.C_y (Kd.N_reads' HO230.out).2.2); (case side4 => exact (Kd.N_reads' HO230.out).2.1); (case side5 => exact Kd.C_y (Kd.R_reads' HO233.out).2.2); (case side6 => exact (Kd.R_reads' HO233.out).2.1); (case side7 => exact Kd.C_y (Kd.R_reads' HO236.out).2.2); (case side8 => exact (Kd.R_reads' HO236.out).2.1); rintro e w41 ⟨v239, rfl, ho0, hb⟩; refine ⟨_, rfl, ?_⟩; replace HO203 := Aside0.mk (Kd.R_below (Kd.R_x HO203.out) hb); replace HO207 := Aside0.mk (Kd.N_elder' (Kd.N_x HO207.out) (Kd.R_base ho0) hb); replace HO210 := Aside0.mk (Kd.R_below (Kd.R_x HO210.out) hb); replace HO213 := Aside0.mk (Kd.R_below (Kd.R_x HO213.out) hb); replace HO226 := Aside0.mk (Kd.R_below (Kd.R_x HO226.out) hb); replace HO230 := Aside0.mk (Kd.N_elder' (Kd.N_x HO230.out) (Kd.R_base ho0) hb); replace HO233 := Aside0.mk (Kd.R_below (Kd.R_x HO233.out) hb); replace HO236 := Aside0.mk (Kd.R_below (Kd.R_x HO236.out) hb); have HO240 := Aside0.mk (Kd.R_lower (Kd.R_newB (Kd.R_newB ho0 (g := gb219) (o := .cells #[.int .i64 t214, .int .i64 t215] 56 (0, 0)) (blk_x BK219.out)) (g := gb220) (o := .cells #[.int .i64 t216, .int .i64 t217] 56 (0, 0)) (blk_x BK220.out)) (below_size (by exact below_y HB.out))); replace BK219 := bk_x BK219 hb; replace BK220 := bk_x BK220 hb; replace HB := bl_x HB hb; (try clear hb); (try clear hk); (try clear hi); (try clear ho0)) | (refine goesG_x 52 rfl (some 25) Try.func52 #[] ?_; (with_reducible refine (swarflaw07_voyage.calls  t242 t243 t244 t245 t248 t249 t252 _ A5.out).mono ?_); rintro e w42 ⟨v246, v250, v253, rfl, ho0, ho1, ho2, hb⟩; refine ⟨_, rfl, ?_⟩; have HO247 := Aside0.mk (Kd.R_lower (Kd.R_new' (Kd.R_new' (Kd.R_mono (ok' := fun k_ => True) ho0 (fun _ hk_ => trivial)) (Kd.R_lt (Kd.R_x HO203.out))) (Kd.R_lt (Kd.R_x HO226.out))) (below_size (by exact below_y HB.out))); have HO251 := Aside0.mk (Kd.N_lower (Kd.N_mono (ok' := fun k_ => some k_ ≠ (v246 : Value).ownBlock ∧ some k_ ≠ (v253 : Value).ownBlock ∧ some k_ ≠ (.slice Ao24 t201.length co24 : Value).ownBlock ∧ some k_ ≠ (.slice Ao25 t205.length co25 : Value).ownBlock ∧ some k_ ≠ (.slice Ao26 t208.length co26 : Value).ownBlock ∧ some k_ ≠ (.slice Ao27 y211.length co27 : Value).ownBlock ∧ some k_ ≠ (.slice Ao37 t224.length co37 : Value).ownBlock ∧ some k_ ≠ (.slice Ao38 t228.length co38 : Value).ownBlock ∧ some k_ ≠ (.slice Ao39 t231.length co39 : Value).ownBlock ∧ some k_ ≠ (.slice Ao40 y234.length co40 : Value).ownBlock ∧ some k_ ≠ (v239 : Value).ownBlock ∧ k_ ≠ gb219 ∧ k_ ≠ gb220) ho1 (fun k_ hk_ => ⟨hk_.2.1, hk_.2.2, (Kd.fresh' (Kd.R_lt (Kd.R_x HO203.out)) k_ hk_.1), (Kd.fresh' (Kd.N_lt (Kd.N_x HO207.out)) k_ hk_.1), (Kd.fresh' (Kd.R_lt (Kd.R_x HO210.out)) k_ hk_.1), (Kd.fresh' (Kd.R_lt (Kd.R_x HO213.out)) k_ hk_.1), (Kd.fresh' (Kd.R_lt (Kd.R_x HO226.out)) k_ hk_.1), (Kd.fresh' (Kd.N_lt (Kd.N_x HO230.out)) k_ hk_.1), (Kd.fresh' (Kd.R_lt (Kd.R_x HO233.out)) k_ hk_.1), (Kd.fresh' (Kd.R_lt (Kd.R_x HO236.out)) k_ hk_.1), (Kd.fresh' (Kd.R_lt (Kd.R_x HO240.out)) k_ hk_.1), (Kd.freshB (g := gb219) (o := .cells #[.int .i64 t214, .int .i64 t215] 56 (0, 0)) (blk_x BK219.out) k_ hk_.1), (Kd.freshB (g := gb220) (o := .cells #[.int .i64 t216, .int .i64 t217] 56 (0, 0)) (blk_x BK220.out) k_ hk_.1)⟩)) (below_size (by exact below_y HB.out))); replace HO203 := Aside0.mk (Kd.R_elder' (Kd.R_x HO203.out) (Kd.R_base ho0) hb); replace HO207 := Aside0.mk (Kd.N_mono (Kd.N_told (Kd.N_told (Kd.N_told (Kd.N_old (Kd.N_x HO207.out) hb) (Kd.R_base ho0)) (Kd.N_base ho1)) (Kd.R_base ho2)) (fun _ h_ => h_.1)); replace HO213 := Aside0.mk (Kd.R_below (Kd.R_x HO213.out) hb); replace HO226 := Aside0.mk (Kd.R_elder' (Kd.R_x HO226.out) (Kd.R_base ho0) hb); replace HO230 := Aside0.mk (Kd.N_mono (Kd.N_told (Kd.N_told (Kd.N_told (Kd.N_old (Kd.N_x HO230.out) hb) (Kd.R_base ho0)) (Kd.N_base ho1)) (Kd.R_base ho2)) (fun _ h_ => h_.1)); replace HO236 := Aside0.mk (Kd.R_below (Kd.R_x HO236.out) hb); replace HO240 := Aside0.mk (Kd.R_below (Kd.R_x HO240.out) hb); have HO254 := Aside0.mk (Kd.R_lower (Kd.R_new' (Kd.R_new' (Kd.R_mono (ok' := fun k_ => True) ho2 (fun _ hk_ => trivial)) (Kd.R_lt (Kd.R_x HO210.out))) (Kd.R_lt (Kd.R_x HO233.out))) (below_size (by exact below_y HB.out))); replace HO210 := Aside0.mk (Kd.R_elder' (Kd.R_x HO210.out) (Kd.R_base ho2) hb); replace HO233 := Aside0.mk (Kd.R_elder' (Kd.R_x HO233.out) (Kd.R_base ho2) hb); replace BK219 := bk_x BK219 hb; replace BK220 := bk_x BK220 hb; replace HB := bl_x HB hb; (try clear hb); (try clear hk); (try clear hi); (try clear ho0); (try clear ho1); (try clear ho2); obtain ⟨Ao43, co43, eo43⟩ := Kd.R_slice HO247.out; subst eo43; obtain ⟨Ao44, co44, eo44⟩ := Kd.N_slice HO251.out; subst eo44; obtain ⟨Ao45, co45, eo45⟩ := Kd.R_slice HO254.out; subst eo45) | (refine goesG_x 28 rfl (some 26) Try.func28 #[.agg #[.int .i64 t242, .int .i64 t243, .int .i64 t244, .slice Ao43 t245.length co43, .int .i64 t248, .slice Ao44 t249.length co44, .slice Ao45 t252.length co45]] ?_; (with_reducible refine (ship_Best.calls t242 t243 t244 _ _ t245 t248 _ _ t249 _ _ t252 t255 t258 t259 _ ?side1 ?side2 ?side3 ?side4 ?side5 ?side6 A6.out).mono ?_); (case side1 => exact Kd.C_y (Kd.R_reads' HO247.out).2.2); (case side2 => exact (Kd.R_reads' HO247.out).2.1); (case side3 => exact Kd.C_y (Kd.N_reads' HO251.out).2.2); (case side4 => exact (Kd.N_reads' HO251.out).2.1); (case side5 => exact Kd.C_y (Kd.R_reads' HO254.out).2.2); (case side6 => exact (Kd.R_reads' HO254.out).2.1); rintro e w46 ⟨v256, rfl, ho0, hb⟩; refine ⟨_, rfl, ?_⟩; replace HO203 := Aside0.mk (Kd.R_below (Kd.R_x HO203.out) hb); replace HO207 := Aside0.mk (Kd.N_elder' (Kd.N_x HO207.out) (Kd.R_base ho0) hb); replace HO210 := Aside0.mk (Kd.R_below (Kd.R_x HO210.out) hb); replace HO226 := Aside0.mk (Kd.R_below (Kd.R_x HO226.out) hb); replace HO230 := Aside0.mk (Kd.N_elder' (Kd.N_x HO230.out) (Kd.R_base ho0) hb); replace HO233 := Aside0.mk (Kd.R_below (Kd.R_x HO233.out) hb); replace HO240 := Aside0.mk (Kd.R_below (Kd.R_x HO240.out) hb); replace HO247 := Aside0.mk (Kd.R_below (Kd.R_x HO247.out) hb); replace HO251 := Aside0.mk (Kd.N_elder' (Kd.N_x HO251.out) (Kd.R_base ho0) hb); replace HO254 := Aside0.mk (Kd.R_below (Kd.R_x HO254.out) hb); have HO257 := Aside0.mk (Kd.R_lower (Kd.R_new' (Kd.R_new' ho0 (Kd.R_lt (Kd.R_x HO213.out))) (Kd.R_lt (Kd.R_x HO236.out))) (below_size (by exact below_y HB.out))); replace HO213 := Aside0.mk (Kd.R_elder' (Kd.R_x HO213.out) (Kd.R_base ho0) hb); replace HO236 := Aside0.mk (Kd.R_elder' (Kd.R_x HO236.out) (Kd.R_base ho0) hb); replace BK219 := bk_x BK219 hb; replace BK220 := bk_x BK220 hb; replace HB := bl_x HB hb; (try clear hb); (try clear hk); (try clear hi); (try clear ho0)))
         replace HO203 := Aside0.mk (Kd.R_drew HO203.out); replace HO207 := Aside0.mk (Kd.N_drew HO207.out); replace HO210 := Aside0.mk (Kd.R_drew HO210.out); replace HO213 := Aside0.mk (Kd.R_drew HO213.out); replace HO226 := Aside0.mk (Kd.R_drew HO226.out); replace HO230 := Aside0.mk (Kd.N_drew HO230.out); replace HO233 := Aside0.mk (Kd.R_drew HO233.out); replace HO236 := Aside0.mk (Kd.R_drew HO236.out); replace HO240 := Aside0.mk (Kd.R_drew HO240.out); replace HO247 := Aside0.mk (Kd.R_drew HO247.out); replace HO251 := Aside0.mk (Kd.N_drew HO251.out); replace HO254 := Aside0.mk (Kd.R_drew HO254.out); replace HO257 := Aside0.mk (Kd.R_drew HO257.out); replace BK219 := Aside0.mk (blk_drew BK219.out); replace BK220 := Aside0.mk (blk_drew BK220.out); replace HB := Aside0.mk (below_drew1 HB.out); refine start_ (n := 41) (S := fun w' => w'.cell? ⟨gb219, 0, none⟩ = some (.int .i64 t214) ∧ w'.cell? ⟨gb219, 1, none⟩ = some (.int .i64 t215) ∧ w'.cell? ⟨gb220, 0, none⟩ = some (.int .i64 t216) ∧ w'.cell? ⟨gb220, 1, none⟩ = some (.int .i64 t217)) (ds := []) #[false, false, false, false, false, false, false, false, false, false, false, false, false, false, false, false, false, false, false, false, false, false, false, false, false, false, false, false, false, false, false, false, false, false, false, false, false, false, false, false, false] (by kernel_rfl) rfl rfl ⟨(blk_cell BK219.out 0).trans rfl, (blk_cell BK219.out 1).trans rfl, (blk_cell BK220.out 0).trans rfl, (blk_cell BK220.out 1).trans rfl⟩ (fun hHeld => ?_); refine with_tabW swarflaw07_awake.tab4 swarflaw07_awake.bits4 (fun HT_ HW_ => ?_); generalize w46.drew = w47 at HO203 HO207 HO210 HO213 HO226 HO230 HO233 HO236 HO240 HO247 HO251 HO254 HO257 BK219 BK220 HB hHeld ⊢; refine pure_t 0 (some 30) (bz 41 1) HT_ ?_; refine pure_t 1 (some 31) (bz 41 3) HT_ ?_; refine pure_t 2 (some 32) (bz 41 7) HT_ ?_; refine pure_t 3 (some 33) (bz 41 15) HT_ ?_; refine pure_t 4 (some 34) (bz 41 31) HT_ ?_; refine pure_t 5 (some 35) (bz 41 63) HT_ ?_; refine pure_t 6 (some 36) (bz 41 127) HT_ ?_; refine pure_t 7 (some 37) (bz 41 255) HT_ ?_; refine pure_t 8 (some 38) (bz 41 511) HT_ ?_; refine pure_t 9 (some 39) (bz 41 1023) HT_ ?_; refine pure_t 10 (some 40) (bz 41 2047) HT_ ?_; refine take_t 11 (some 41) (bz 41 4095) HT_ HW_ hHeld ?_; (refine one_t 12 (some 42) (bz 41 8191) HT_ fun K hK => ?_); refine goes_x Try.func32 #[.int .i64 1290000, .int .i64 1340000] ?_
         with_reducible refine (swarflaw07_rng.calls 1290000 1340000 t260 t261 _ A10.out).mono ?_
         rintro e w48 ⟨rfl, hb⟩; refine ⟨_, rfl, ?_⟩; replace HO203 := Aside0.mk (Kd.R_below (Kd.R_x HO203.out) hb); replace HO207 := Aside0.mk (Kd.N_below (Kd.N_x HO207.out) hb); replace HO210 := Aside0.mk (Kd.R_below (Kd.R_x HO210.out) hb); replace HO213 := Aside0.mk (Kd.R_below (Kd.R_x HO213.out) hb); replace HO226 := Aside0.mk (Kd.R_below (Kd.R_x HO226.out) hb); replace HO230 := Aside0.mk (Kd.N_below (Kd.N_x HO230.out) hb); replace HO233 := Aside0.mk (Kd.R_below (Kd.R_x HO233.out) hb); replace HO236 := Aside0.mk (Kd.R_below (Kd.R_x HO236.out) hb); replace HO240 := Aside0.mk (Kd.R_below (Kd.R_x HO240.out) hb); replace HO247 := Aside0.mk (Kd.R_below (Kd.R_x HO247.out) hb); replace HO251 := Aside0.mk (Kd.N_below (Kd.N_x HO251.out) hb); replace HO254 := Aside0.mk (Kd.R_below (Kd.R_x HO254.out) hb); replace HO257 := Aside0.mk (Kd.R_below (Kd.R_x HO257.out) hb); replace BK219 := bk_x BK219 hb; replace BK220 := bk_x BK220 hb; replace HB := bl_x HB hb
         (try clear hb)
         (try clear hb2)
         (try clear hk)
         (try clear hi)
         refine hK.out _ _ ⟨(blk_cell BK219.out 0).trans rfl, (blk_cell BK219.out 1).trans rfl, (blk_cell BK220.out 0).trans rfl, (blk_cell BK220.out 1).trans rfl⟩ (fun hHeld => ?_); clear hK K; refine norm_y (some 42) ?_; refine pure_t 13 (some 43) (bz 41 16383) HT_ ?_; refine pure_t 14 (some 44) (bz 41 32767) HT_ ?_; refine pure_t 15 (some 45) (bz 41 65535) HT_ ?_; refine take_t 16 (some 46) (bz 41 131071) HT_ HW_ hHeld ?_; (refine one_t 17 (some 47) (bz 41 262143) HT_ fun K hK => ?_); refine goes_x Try.func32 #[.int .i64 1260000, .int .i64 1310000] ?_
         with_reducible refine (swarflaw07_rng.calls 1260000 1310000 t262 t263 _ A12.out).mono ?_
         rintro e w49 ⟨rfl, hb⟩; refine ⟨_, rfl, ?_⟩; replace HO203 := Aside0.mk (Kd.R_below (Kd.R_x HO203.out) hb); replace HO207 := Aside0.mk (Kd.N_below (Kd.N_x HO207.out) hb); replace HO210 := Aside0.mk (Kd.R_below (Kd.R_x HO210.out) hb); replace HO213 := Aside0.mk (Kd.R_below (Kd.R_x HO213.out) hb); replace HO226 := Aside0.mk (Kd.R_below (Kd.R_x HO226.out) hb); replace HO230 := Aside0.mk (Kd.N_below (Kd.N_x HO230.out) hb); replace HO233 := Aside0.mk (Kd.R_below (Kd.R_x HO233.out) hb); replace HO236 := Aside0.mk (Kd.R_below (Kd.R_x HO236.out) hb); replace HO240 := Aside0.mk (Kd.R_below (Kd.R_x HO240.out) hb); replace HO247 := Aside0.mk (Kd.R_below (Kd.R_x HO247.out) hb); replace HO251 := Aside0.mk (Kd.N_below (Kd.N_x HO251.out) hb); replace HO254 := Aside0.mk (Kd.R_below (Kd.R_x HO254.out) hb); replace HO257 := Aside0.mk (Kd.R_below (Kd.R_x HO257.out) hb); replace BK219 := bk_x BK219 hb; replace BK220 := bk_x BK220 hb; replace HB := bl_x HB hb
         (try clear hb)
         (try clear hb2)
         (try clear hk)
         (try clear hi)
         refine hK.out _ _ ⟨(blk_cell BK219.out 0).trans rfl, (blk_cell BK219.out 1).trans rfl, (blk_cell BK220.out 0).trans rfl, (blk_cell BK220.out 1).trans rfl⟩ (fun hHeld => ?_); clear hK K; refine norm_y (some 47) ?_; refine pure_t 18 (some 48) (bz 41 524287) HT_ ?_; refine pure_t 19 (some 49) (bz 41 1048575) HT_ ?_; refine pure_t 20 (some 50) (bz 41 2097151) HT_ ?_; refine pure_t 21 (some 51) (bz 41 4194303) HT_ ?_; refine pure_t 22 (some 52) (bz 41 8388607) HT_ ?_; refine pure_t 23 (some 53) (bz 41 16777215) HT_ ?_; refine pure_t 24 (some 54) (bz 41 33554431) HT_ ?_; refine pure_t 25 (some 55) (bz 41 67108863) HT_ ?_; refine pure_t 26 (some 56) (bz 41 134217727) HT_ ?_; refine pure_t 27 (some 57) (bz 41 268435455) HT_ ?_; refine pure_t 28 (some 58) (bz 41 536870911) HT_ ?_; refine pure_t 29 (some 59) (bz 41 1073741823) HT_ ?_; (refine one_t 30 (some 60) (bz 41 2147483647) HT_ fun K hK => ?_); refine Kd.R_lit_step (Kd.int .i64) _ 3 ?hg (N := 60) ?hd (xs := ([0, (-1), 1] : List Int)) (inner := [.int .i64 0, .int .i64 (-1), .int .i64 1]) (ok := fun _ => True) (okp := fun _ => True) ?hr ?hp (fun _ hk => hk) trivial (Below.refl _ _) (Nat.le_refl _) (by simp) ?_; (case hd => rfl); (case hg => rfl); (case hr => first | (go_simp; done) | (go_simp; rfl)); (case hp => exact (Reps.one (show Kd.M (Kd.int .i64) _ _ _ 0 [.int .i64 0] from rfl) (Reps.one (show Kd.M (Kd.int .i64) _ _ _ (-1) [.int .i64 (-1)] from rfl) (Reps.one (show Kd.M (Kd.int .i64) _ _ _ 1 [.int .i64 1] from rfl) (Reps.none _ _))))); intro v265 w50 ho51 hb hg_ hnew_; clear hg_ hnew_
         (first | rw [← Ny264.out] at ho51 | (simp only [Int.reduceToNat] at ho51; rw [← Ny264.out] at ho51))
         replace HO203 := Aside0.mk (Kd.R_below (Kd.R_x HO203.out) hb); replace HO207 := Aside0.mk (Kd.N_elder' (Kd.N_x HO207.out) (Kd.R_base ho51) hb); replace HO210 := Aside0.mk (Kd.R_below (Kd.R_x HO210.out) hb); replace HO226 := Aside0.mk (Kd.R_below (Kd.R_x HO226.out) hb); replace HO230 := Aside0.mk (Kd.N_elder' (Kd.N_x HO230.out) (Kd.R_base ho51) hb); replace HO233 := Aside0.mk (Kd.R_below (Kd.R_x HO233.out) hb); replace HO240 := Aside0.mk (Kd.R_below (Kd.R_x HO240.out) hb); replace HO247 := Aside0.mk (Kd.R_below (Kd.R_x HO247.out) hb); replace HO251 := Aside0.mk (Kd.N_elder' (Kd.N_x HO251.out) (Kd.R_base ho51) hb); replace HO254 := Aside0.mk (Kd.R_below (Kd.R_x HO254.out) hb); have HO266 := Aside0.mk (Kd.R_lower (Kd.R_new' (Kd.R_new' (Kd.R_new' ho51 (Kd.R_lt (Kd.R_x HO213.out))) (Kd.R_lt (Kd.R_x HO236.out))) (Kd.R_lt (Kd.R_x HO257.out))) (below_size (by exact below_y HB.out))); replace HO213 := Aside0.mk (Kd.R_elder' (Kd.R_x HO213.out) (Kd.R_base ho51) hb); replace HO236 := Aside0.mk (Kd.R_elder' (Kd.R_x HO236.out) (Kd.R_base ho51) hb); replace HO257 := Aside0.mk (Kd.R_elder' (Kd.R_x HO257.out) (Kd.R_base ho51) hb); replace BK219 := bk_x BK219 hb; replace BK220 := bk_x BK220 hb; replace HB := bl_x HB hb; clear hb ho51; obtain ⟨Ao52, co52, eo52⟩ := Kd.R_slice HO257.out
         (first | subst eo52 | (injection eo52 with f1_ f2_ f3_; have f4_ := f1_.symm; have f5_ := f3_.symm; clear f1_ f2_ f3_; subst f4_; subst f5_))
         obtain ⟨Ao53, co53, eo53⟩ := Kd.R_slice HO266.out
         (first | subst eo53 | (injection eo53 with f1_ f2_ f3_; have f4_ := f1_.symm; have f5_ := f3_.symm; clear f1_ f2_ f3_; subst f4_; subst f5_))
         refine hK.out _ _ ⟨(blk_cell BK219.out 0).trans rfl, (blk_cell BK219.out 1).trans rfl, (blk_cell BK220.out 0).trans rfl, (blk_cell BK220.out 1).trans rfl⟩ (fun hHeld => ?_); clear hK K; refine norm_y (some 60) ?_; (refine one_t 31 (some 61) (bz 41 4294967295) HT_ fun K hK => ?_); refine goes_x Try.func26 #[.slice Ao52 t255.length co52, .slice Ao53 y264.length co53] ?_
         with_reducible refine (swarfkit_EqualInts.calls k _ _ t255 _ _ y264 true _ ?side1 ?side2 ?side3 ?side4 A16.out).mono ?_
         (case side1 => exact Kd.C_y (Kd.R_reads' HO257.out).2.2)
         (case side2 => exact (Kd.R_reads' HO257.out).2.1)
         (case side3 => exact Kd.C_y (Kd.R_reads' HO266.out).2.2)
         (case side4 => exact (Kd.R_reads' HO266.out).2.1)
         rintro e w' ⟨rfl, ⟨nd, rfl⟩⟩; refine ⟨_, rfl, ?_⟩; refine hK.out _ _ ⟨(blk_cell BK219.out 0).trans rfl, (blk_cell BK219.out 1).trans rfl, (blk_cell BK220.out 0).trans rfl, (blk_cell BK220.out 1).trans rfl⟩ (fun hHeld => ?_); clear hK K; refine norm_y (some 61) ?_; refine pure_t 32 (some 62) (bz 41 8589934591) HT_ ?_; refine pure_t 33 (some 63) (bz 41 17179869183) HT_ ?_; refine pure_t 34 (some 64) (bz 41 34359738367) HT_ ?_; (refine one_t 35 (some 65) (bz 41 68719476735) HT_ fun K hK => ?_); refine goes_x Try.func32 #[.int .i64 90, .int .i64 100] ?_
         with_reducible refine (swarflaw07_rng.calls 90 100 t268 t269 _ A18.out).mono ?_
         rintro e w54 ⟨rfl, hb⟩; refine ⟨_, rfl, ?_⟩; replace HO203 := Aside0.mk (Kd.R_below (Kd.R_x HO203.out) hb); replace HO207 := Aside0.mk (Kd.N_below (Kd.N_x HO207.out) hb); replace HO210 := Aside0.mk (Kd.R_below (Kd.R_x HO210.out) hb); replace HO213 := Aside0.mk (Kd.R_below (Kd.R_x HO213.out) hb); replace HO226 := Aside0.mk (Kd.R_below (Kd.R_x HO226.out) hb); replace HO230 := Aside0.mk (Kd.N_below (Kd.N_x HO230.out) hb); replace HO233 := Aside0.mk (Kd.R_below (Kd.R_x HO233.out) hb); replace HO236 := Aside0.mk (Kd.R_below (Kd.R_x HO236.out) hb); replace HO240 := Aside0.mk (Kd.R_below (Kd.R_x HO240.out) hb); replace HO247 := Aside0.mk (Kd.R_below (Kd.R_x HO247.out) hb); replace HO251 := Aside0.mk (Kd.N_below (Kd.N_x HO251.out) hb); replace HO254 := Aside0.mk (Kd.R_below (Kd.R_x HO254.out) hb); replace HO257 := Aside0.mk (Kd.R_below (Kd.R_x HO257.out) hb); replace HO266 := Aside0.mk (Kd.R_below (Kd.R_x HO266.out) hb); replace BK219 := bk_x BK219 hb; replace BK220 := bk_x BK220 hb; replace HB := bl_x HB hb
         (try clear hb)
         (try clear hb2)
         (try clear hk)
         (try clear hi)
         refine hK.out _ _ ⟨(blk_cell BK219.out 0).trans rfl, (blk_cell BK219.out 1).trans rfl, (blk_cell BK220.out 0).trans rfl, (blk_cell BK220.out 1).trans rfl⟩ (fun hHeld => ?_); clear hK K; refine norm_y (some 65) ?_; (refine one_t 36 (some 66) (bz 41 137438953471) HT_ fun K hK => ?_); refine goes_x Try.func32 #[.int .i64 240, .int .i64 250] ?_
         with_reducible refine (swarflaw07_rng.calls 240 250 t270 t271 _ A19.out).mono ?_
         rintro e w55 ⟨rfl, hb⟩; refine ⟨_, rfl, ?_⟩; replace HO203 := Aside0.mk (Kd.R_below (Kd.R_x HO203.out) hb); replace HO207 := Aside0.mk (Kd.N_below (Kd.N_x HO207.out) hb); replace HO210 := Aside0.mk (Kd.R_below (Kd.R_x HO210.out) hb); replace HO213 := Aside0.mk (Kd.R_below (Kd.R_x HO213.out) hb); replace HO226 := Aside0.mk (Kd.R_below (Kd.R_x HO226.out) hb); replace HO230 := Aside0.mk (Kd.N_below (Kd.N_x HO230.out) hb); replace HO233 := Aside0.mk (Kd.R_below (Kd.R_x HO233.out) hb); replace HO236 := Aside0.mk (Kd.R_below (Kd.R_x HO236.out) hb); replace HO240 := Aside0.mk (Kd.R_below (Kd.R_x HO240.out) hb); replace HO247 := Aside0.mk (Kd.R_below (Kd.R_x HO247.out) hb); replace HO251 := Aside0.mk (Kd.N_below (Kd.N_x HO251.out) hb); replace HO254 := Aside0.mk (Kd.R_below (Kd.R_x HO254.out) hb); replace HO257 := Aside0.mk (Kd.R_below (Kd.R_x HO257.out) hb); replace HO266 := Aside0.mk (Kd.R_below (Kd.R_x HO266.out) hb); replace BK219 := bk_x BK219 hb; replace BK220 := bk_x BK220 hb; replace HB := bl_x HB hb
         (try clear hb)
         (try clear hb2)
         (try clear hk)
         (try clear hi)
         refine hK.out _ _ ⟨(blk_cell BK219.out 0).trans rfl, (blk_cell BK219.out 1).trans rfl, (blk_cell BK220.out 0).trans rfl, (blk_cell BK220.out 1).trans rfl⟩ (fun hHeld => ?_); clear hK K; refine norm_y (some 66) ?_; (refine one_t 37 (some 67) (bz 41 274877906943) HT_ fun K hK => ?_); refine Kd.R_lit_step k56 _ 56 ?hg (N := 67) ?hd (xs := ([(⟨t268, t269⟩ : S56), (⟨t270, t271⟩ : S56)] : List (S56))) (inner := [.int .i64 t268, .int .i64 t269, .int .i64 t270, .int .i64 t271]) (ok := fun _ => True) (okp := fun _ => True) ?hr ?hp (fun _ hk => hk) trivial (Below.refl _ _) (Nat.le_refl _) (by simp) ?_; (case hd => rfl); (case hg => rfl); (case hr => first | (go_simp; done) | (go_simp; rfl)); (case hp => exact (Reps.c2 (show Kd.M k56 _ _ _ (⟨t268, t269⟩ : S56) [.int .i64 t268, .int .i64 t269] from (k56_mkM _ _ _ (⟨t268, t269⟩ : S56) )) (Reps.c2 (show Kd.M k56 _ _ _ (⟨t270, t271⟩ : S56) [.int .i64 t270, .int .i64 t271] from (k56_mkM _ _ _ (⟨t270, t271⟩ : S56) )) (Reps.none _ _)))); intro v273 w56 ho57 hb hg_ hnew_; clear hg_ hnew_
         (first | rw [← Ny272.out] at ho57 | (simp only [Int.reduceToNat] at ho57; rw [← Ny272.out] at ho57))
         replace HO203 := Aside0.mk (Kd.R_below (Kd.R_x HO203.out) hb); replace HO207 := Aside0.mk (Kd.N_elder' (Kd.N_x HO207.out) (Kd.R_base ho57) hb); replace HO210 := Aside0.mk (Kd.R_below (Kd.R_x HO210.out) hb); replace HO213 := Aside0.mk (Kd.R_below (Kd.R_x HO213.out) hb); replace HO226 := Aside0.mk (Kd.R_below (Kd.R_x HO226.out) hb); replace HO230 := Aside0.mk (Kd.N_elder' (Kd.N_x HO230.out) (Kd.R_base ho57) hb); replace HO233 := Aside0.mk (Kd.R_below (Kd.R_x HO233.out) hb); replace HO236 := Aside0.mk (Kd.R_below (Kd.R_x HO236.out) hb); replace HO247 := Aside0.mk (Kd.R_below (Kd.R_x HO247.out) hb); replace HO251 := Aside0.mk (Kd.N_elder' (Kd.N_x HO251.out) (Kd.R_base ho57) hb); replace HO254 := Aside0.mk (Kd.R_below (Kd.R_x HO254.out) hb); replace HO257 := Aside0.mk (Kd.R_below (Kd.R_x HO257.out) hb); replace HO266 := Aside0.mk (Kd.R_below (Kd.R_x HO266.out) hb); have HO274 := Aside0.mk (Kd.R_lower (Kd.R_newB (Kd.R_newB (Kd.R_new' ho57 (Kd.R_lt (Kd.R_x HO240.out))) (g := gb219) (o := .cells #[.int .i64 t214, .int .i64 t215] 56 (0, 0)) (blk_x BK219.out)) (g := gb220) (o := .cells #[.int .i64 t216, .int .i64 t217] 56 (0, 0)) (blk_x BK220.out)) (below_size (by exact below_y HB.out))); replace HO240 := Aside0.mk (Kd.R_elder' (Kd.R_x HO240.out) (Kd.R_base ho57) hb); replace BK219 := bk_x BK219 hb; replace BK220 := bk_x BK220 hb; replace HB := bl_x HB hb; clear hb ho57; obtain ⟨Ao58, co58, eo58⟩ := Kd.R_slice HO240.out
         (first | subst eo58 | (injection eo58 with f1_ f2_ f3_; have f4_ := f1_.symm; have f5_ := f3_.symm; clear f1_ f2_ f3_; subst f4_; subst f5_))
         obtain ⟨Ao59, co59, eo59⟩ := Kd.R_slice HO274.out
         (first | subst eo59 | (injection eo59 with f1_ f2_ f3_; have f4_ := f1_.symm; have f5_ := f3_.symm; clear f1_ f2_ f3_; subst f4_; subst f5_))
         refine hK.out _ _ ⟨(blk_cell BK219.out 0).trans rfl, (blk_cell BK219.out 1).trans rfl, (blk_cell BK220.out 0).trans rfl, (blk_cell BK220.out 1).trans rfl⟩ (fun hHeld => ?_); clear hK K; refine norm_y (some 67) ?_; (refine one_t 38 (some 68) (bz 41 549755813887) HT_ fun K hK => ?_); refine goes_x Try.func24 #[.slice Ao58 t238.length co58, .slice Ao59 y272.length co59] ?_
         with_reducible refine (swarfkit_EqualRanges.calls k _ _ t238 _ _ y272 t275 _ ?side1 ?side2 ?side3 ?side4 A20.out).mono ?_
         (case side1 => exact Kd.C_y (Kd.R_reads' HO240.out).2.2)
         (case side2 => exact (Kd.R_reads' HO240.out).2.1)
         (case side3 => exact Kd.C_y (Kd.R_reads' HO274.out).2.2)
         (case side4 => exact (Kd.R_reads' HO274.out).2.1)
         rintro e w' ⟨rfl, ⟨nd, rfl⟩⟩; refine ⟨_, rfl, ?_⟩; refine hK.out _ _ ⟨(blk_cell BK219.out 0).trans rfl, (blk_cell BK219.out 1).trans rfl, (blk_cell BK220.out 0).trans rfl, (blk_cell BK220.out 1).trans rfl⟩ (fun hHeld => ?_); clear hK K; refine norm_y (some 68) ?_; refine pure_t 39 (some 69) (bz 41 1099511627775) HT_ ?_; refine pure_t 40 (some 0) (bz 41 2199023255551) HT_ ?_; refine done_ (done_of HT_.out (by kernel_rfl)) ?_
         try go_wp2
         go_ret; exact rt_y HB
        ·
         replace c17 := Bool.eq_false_iff.mpr c17; subst c17; replace H : (some false) = some r := ifn_x H; exact absurd ((Option.some.inj H).trans hrt.out) (by decide)
       ·
        rw [if_neg c15] at H; have c15b0 : (t258 == 95) = false := beq_eq_false_iff_ne.mpr c15; have c15b1 : (t258 != 95) = true := bne_iff_ne.mpr c15; exact absurd ((Option.some.inj H).trans hrt.out) (by decide)
      ·
       rw [if_neg c14] at H; have c14b0 : (t237 == 1) = false := beq_eq_false_iff_ne.mpr c14; have c14b1 : (t237 != 1) = true := bne_iff_ne.mpr c14; exact absurd ((Option.some.inj H).trans hrt.out) (by decide)
     ·
      rw [if_neg c13] at H; have c13b0 : (t216 == t262 && (t217 == t263)) = false := by simpa using c13
      (try (have c13b1 : decide (t216 = t262 && (t217 == t263)) = false := by simpa using c13))
      (try (have c13b2 : (t216 == t262 && (t217 == t263)) = false := by simpa using c13))
      (try (have c13b3 : ¬ (t216 = t262 && (t217 == t263)) := by simpa using c13))
      clear c13; exact absurd ((Option.some.inj H).trans hrt.out) (by decide)
    ·
     rw [if_neg c11] at H; have c11b0 : (t214 == t260 && (t215 == t261)) = false := by simpa using c11
     (try (have c11b1 : decide (t214 = t260 && (t215 == t261)) = false := by simpa using c11))
     (try (have c11b2 : (t214 == t260 && (t215 == t261)) = false := by simpa using c11))
     (try (have c11b3 : ¬ (t214 = t260 && (t215 == t261)) := by simpa using c11))
     clear c11; exact absurd ((Option.some.inj H).trans hrt.out) (by decide)
   ·
    rw [if_neg c9] at H; have c9b0 : (t259 == 0) = false := beq_eq_false_iff_ne.mpr c9; have c9b1 : (t259 != 0) = true := bne_iff_ne.mpr c9; exact absurd ((Option.some.inj H).trans hrt.out) (by decide)
  ·
   rw [if_neg c8] at H; have c8b0 : (t241 == 0) = false := beq_eq_false_iff_ne.mpr c8; have c8b1 : (t241 != 0) = true := bne_iff_ne.mpr c8; exact absurd ((Option.some.inj H).trans hrt.out) (by decide)
 ·
  rw [if_neg c7] at H; have c7b0 : (t218 == 0) = false := beq_eq_false_iff_ne.mpr c7; have c7b1 : (t218 != 0) = true := bne_iff_ne.mpr c7; exact absurd ((Option.some.inj H).trans hrt.out) (by decide)
end Go.Proofs.Ytodmemndaaiolaa.PC7
namespace Go.Proofs.Ytodmemndaaiolaa.PC7
set_option linter.unusedVariables false
set_option linter.unusedSimpArgs false
open Go.RowKit Go.Proofs.YtodmemndaaiolaaW.PrintWords Go.Proofs.YtodmemndaaiolaaW.PrintLast Go.Proofs.YtodmemndaaiolaaW.PrintMore
def turnH (h : S85) : S85 := ⟨h.f0, h.f2, h.f1⟩
def turnN (k : Nat) (l : List S85) : List S85 := (l.take k).map turnH ++ l.drop k
def turned12.T8 : Bool × List (List Nat × List Nat) := (true, [([], []), ([0], [0]), ([], []), ([], []), ([3], [3]), ([], []), ([], []), ([6], [6]), ([], []), ([7, 8], [7, 8]), ([9], [9]), ([10], [10]), ([], []), ([12], [12]), ([], []), ([13, 14], [13, 14]), ([15], [15]), ([16], [16]), ([1, 2, 0, 1, 2, 6, 7, 8, 9, 10, 11, 17], [1, 2]), ([18, 0, 1, 2, 6, 7, 8, 9, 10, 11, 17], [18]), ([19, 11, 0, 1, 2, 6, 7, 8, 9, 10, 11, 17], [11, 19]), ([4, 5, 0, 1, 2, 3, 4, 5, 6, 7, 8, 9, 10, 11, 12, 13, 14, 15, 16, 17, 18, 19, 20], [4, 5]), ([21, 0, 1, 2, 3, 4, 5, 6, 7, 8, 9, 10, 11, 12, 13, 14, 15, 16, 17, 18, 19, 20], [21]), ([22, 17, 20, 0, 1, 2, 3, 4, 5, 6, 7, 8, 9, 10, 11, 12, 13, 14, 15, 16, 17, 18, 19, 20], [17, 22])])
def turned12.B8 : List Nat := [0, 1, 0, 0, 8, 0, 0, 64, 0, 448, 960, 1984, 0, 4096, 0, 28672, 61440, 126976, 262087, 524231, 1048519, 2097151, 4194303, 8388607]
theorem turned12.tab8 : rtab .any (opsOf Try.f12 8) = turned12.T8 := by kernel_rfl
theorem turned12.bits8 : waitsOk turned12.T8.2 turned12.B8 = true := by kernel_rfl
def turned12.T17 : Bool × List (List Nat × List Nat) := (true, [([], []), ([0], [0]), ([1], [1]), ([2], [2]), ([3, 2], [2, 3]), ([2, 4], [2, 4]), ([5, 2], [5]), ([6], [6]), ([7, 6], [6, 7]), ([6, 8], [6, 8]), ([9, 6], [9]), ([10], [10]), ([11, 10], [10, 11]), ([10, 12], [10, 12]), ([13, 10], [13]), ([14], [14]), ([15, 14], [14, 15]), ([14, 16], [14, 16]), ([17, 14], [17]), ([18], [18]), ([19, 18], [18, 19]), ([18, 20], [18, 20]), ([21, 18], [21]), ([22], [22]), ([23, 22], [22, 23]), ([22, 24], [22, 24]), ([25, 22], [25]), ([26], [26]), ([27, 26], [26, 27]), ([26, 28], [26, 28]), ([29, 26], [29]), ([30], [30]), ([30], [30]), ([31, 32, 30], [30, 31, 32]), ([30, 33], [30, 33]), ([34, 30], [34]), ([35], [35]), ([35], [35]), ([36, 37, 35], [35, 36, 37]), ([35, 38], [35, 38]), ([39, 35], [39]), ([40], [40]), ([40], [40]), ([41, 42, 40], [40, 41, 42]), ([40, 43], [40, 43]), ([44, 40], [44]), ([45], [45]), ([45], [45]), ([47, 45], [45, 47]), ([48, 45], [45, 48]), ([45], [45]), ([50, 45], [45, 50]), ([51, 45], [45, 51]), ([49, 52, 45, 45], [45, 49, 52]), ([46, 53, 45], [45, 46, 53]), ([45, 54], [45, 54]), ([55, 53], [55]), ([56], [56]), ([56], [56]), ([57, 58, 56], [56, 57, 58]), ([56, 59], [56, 59]), ([60, 56], [60]), ([61], [61]), ([61], [61]), ([62, 63, 61], [61, 62, 63]), ([61, 64], [61, 64]), ([65, 61], [65]), ([66], [66]), ([66], [66]), ([67, 68, 66, 66], [66, 67, 68]), ([66, 69], [66, 69]), ([70, 69], [70]), ([71], [71]), ([71], [71]), ([72, 73, 71, 71], [71, 72, 73]), ([71, 74], [71, 74]), ([75, 74], [75]), ([76, 76], [76]), ([76, 77], [76, 77]), ([78, 77, 0, 1, 2, 3, 4, 5, 6, 7, 8, 9, 10, 11, 12, 13, 14, 15, 16, 17, 18, 19, 20, 21, 22, 23, 24, 25, 26, 27, 28, 29, 30, 31, 32, 33, 34, 35, 36, 37, 38, 39, 40, 41, 42, 43, 44, 45, 46, 47, 48, 49, 50, 51, 52, 53, 54, 55, 56, 57, 58, 59, 60, 61, 62, 63, 64, 65, 66, 67, 68, 69, 70, 71, 72, 73, 74, 75, 76, 77, 78], [78])])
def turned12.B17 : List Nat := [0, 1, 3, 7, 15, 31, 63, 127, 255, 511, 1023, 2047, 4095, 8191, 16383, 32767, 65535, 131071, 262143, 524287, 1048575, 2097151, 4194303, 8388607, 16777215, 33554431, 67108863, 134217727, 268435455, 536870911, 1073741823, 2147483647, 2147483647, 8589934591, 17179869183, 34359738367, 68719476735, 68719476735, 274877906943, 549755813887, 1099511627775, 2199023255551, 2199023255551, 8796093022207, 17592186044415, 35184372088831, 70368744177663, 70368744177663, 211106232532991, 492581209243647, 70368744177663, 1196268651020287, 3448068464705535, 8936830510563327, 18014398509481983, 36028797018963967, 72057594037927935, 144115188075855871, 144115188075855871, 576460752303423487, 1152921504606846975, 2305843009213693951, 4611686018427387903, 4611686018427387903, 18446744073709551615, 36893488147419103231, 73786976294838206463, 147573952589676412927, 147573952589676412927, 590295810358705651711, 1180591620717411303423, 2361183241434822606847, 4722366482869645213695, 4722366482869645213695, 18889465931478580854783, 37778931862957161709567, 75557863725914323419135, 151115727451828646838271, 302231454903657293676543, 604462909807314587353087]
theorem selfInts_l0 (l : List Int) (hl : l.length ≤ 1000000) (d : Nat) : ∀ i : Nat, i + d = l.length → Ev (fun k => swarfkit_EqualInts.l0 k l l true (i : Int)) true := by
  induction d with
  | zero =>
    intro i hi
    refine Ev.succ ?_
    simp (disch := omega) only [swarfkit_EqualInts.l0, if_true, if_neg]
    exact Ev.now _
  | succ d ih =>
    intro i hi
    refine Ev.succ ?_
    simp (disch := omega) only [swarfkit_EqualInts.l0, if_true, if_pos, beq_self_eq_true]
    rw [wrapS (by omega)]
    exact ih (i + 1) (by omega)
theorem selfInts_ev (l : List Int) (hl : l.length ≤ 1000000) : Ev (fun k => swarfkit_EqualInts.f k l l) true := by
  unfold swarfkit_EqualInts.f
  rw [beq_self_eq_true]
  exact selfInts_l0 l hl l.length 0 (by omega)
theorem selfRanges_l0 (l : List S56) (hl : l.length ≤ 1000000) (d : Nat) : ∀ i : Nat, i + d = l.length → Ev (fun k => swarfkit_EqualRanges.l0 k l l true (i : Int)) true := by
  induction d with
  | zero =>
    intro i hi
    refine Ev.succ ?_
    simp (disch := omega) only [swarfkit_EqualRanges.l0, if_true, if_neg]
    exact Ev.now _
  | succ d ih =>
    intro i hi
    refine Ev.succ ?_
    simp (disch := omega) only [swarfkit_EqualRanges.l0, if_true, if_pos, beq_self_eq_true, Bool.and_self]
    rw [wrapS (by omega)]
    exact ih (i + 1) (by omega)
theorem selfRanges_ev (l : List S56) (hl : l.length ≤ 1000000) : Ev (fun k => swarfkit_EqualRanges.f k l l) true := by
  unfold swarfkit_EqualRanges.f
  rw [beq_self_eq_true]
  exact selfRanges_l0 l hl l.length 0 (by omega)
def swapQ (q : Q4) : Q4 := ⟨q.b1, q.b0, q.h1, q.h0⟩
end Go.Proofs.Ytodmemndaaiolaa.PC7
namespace Go.Proofs.YtodmemndaaiolaaW.PrintWords
open Go.ChangeShapes Go.WideShapes
theorem sized_ints {H : Type} {enc : TypeId × Value → H} {P : Program} {W : World} {base : Nat} {spare : Nat → Bool} {held : Bool} {t e : TypeId} {k : IntKind} {a : Option Addr} {len cap : Nat} {d : DataW H} {ps : List MemPlace} {ts : List TypeId} {ds : List (DataW H)} {j : Nat}
    (hsz : (DataW.weightsEach P ts ds).all (· ≤ reachBytes) = true) (ht : ts[j]? = some t) (hd : ds[j]? = some d) (hu : P.underlying t = some (.slice e)) (he : P.underlying e = some (.int k)) (hc : P.cellsOf e = 1) {B : Nat} (hB : P.bytesOf e = B)
    (h : DataW.Trod enc P W base spare held t (.slice a len cap) d ps) : len * B ≤ 140737488351232 := by
  obtain ⟨fuel, hf⟩ := h
  rcases open_ints hu he hc hf with ⟨hcs, _⟩ | ⟨x, l, c, zs, hcs, _, hl, _, hz, hx, _, _⟩
  · simp [Value.cells] at hcs
    obtain ⟨rfl, rfl, rfl⟩ := hcs
    simp
  · simp [Value.cells] at hcs
    obtain ⟨rfl, rfl, rfl⟩ := hcs
    obtain ⟨hx, _⟩ := Prod.mk.inj hx
    subst hx
    have z := sized_slice hsz ht hd hu
    rw [hB] at z
    have hl2 : len ≤ zs.length := by
      rw [hz]
      split
      · exact hl
      · exact Nat.le_refl _
    have h1 : (lits (H := H) k (zs.take len)).length + (lits (H := H) k (zs.drop len)).length = zs.length := by
      simp [lits]
      omega
    rw [h1] at z
    exact Nat.le_trans (Nat.mul_le_mul_right _ hl2) z
end Go.Proofs.YtodmemndaaiolaaW.PrintWords
namespace Go.Proofs.Ytodmemndaaiolaa.PC7
set_option linter.unusedVariables false
set_option linter.unusedSimpArgs false
open Go.RowKit Go.ChangeShapes Go.WideShapes Go.Deep Go.Joins Go.Proofs.YtodmemndaaiolaaW.PrintWords Go.Proofs.YtodmemndaaiolaaW.PrintLast Go.Proofs.YtodmemndaaiolaaW.PrintMore
section
variable {H : Type} {enc : TypeId × Value → H} {P : Program} {w : World} {base : Nat} {spare : Nat → Bool} {held : Bool}
def Opens {α : Type} (P : Program) (enc : TypeId × Value → H) (w : World) (base : Nat) (spare : Nat → Bool) (held : Bool) (t : TypeId) (d : Kd α) : Prop :=
  ∀ (fuel : Nat) (cs : List Value) (x : DataW H × List MemPlace), DataW.trod enc P w base spare held fuel t cs = some x → ∃ v, d.K w v cs
theorem opens_int {k : IntKind} {t : TypeId} (ht : P.underlying t = some (.int k)) : Opens P enc w base spare held t (Kd.int k) := by
  intro fuel cs x h
  obtain ⟨n, rfl, _⟩ := DataW.trod_int ht h
  exact ⟨n, rfl⟩
theorem open_row {α : Type} {d : Kd α} {t e : TypeId} (ht : P.underlying t = some (.slice e)) (hs : P.cellsOf e = d.sz) (hd : Opens P enc w base spare held e d) {fuel : Nat} {cs : List Value} {x : DataW H × List MemPlace}
    (h : DataW.trod enc P w base spare held fuel t cs = some x) : ∃ (A : Option Addr) (c : Nat) (xs : List α), cs = [.slice A xs.length c] ∧ xs.length ≤ c ∧ c ≤ maxLen ∧ d.C w A xs.length xs := by
  rcases open_slice ht h with ⟨rfl, _⟩ | ⟨a, len, cap, m, n, D, Pl, rfl, hb, hl, hm, hmm, hx, hi⟩
  · exact ⟨none, 0, [], rfl, Nat.le_refl _, Nat.zero_le _, rfl, by simp, fun h => absurd h (by simp)⟩
  · have hel : ∀ i, i < len → ∃ v cs', d.K w v cs' ∧ cs'.length = d.sz ∧ ∀ j u, cs'[j]? = some u → w.cell? (a.add (i * d.sz + j)) = some u := by
      intro i hil
      obtain ⟨cs', hc, ht'⟩ := hi i (by rw [hmm]; split <;> omega)
      obtain ⟨v, hv⟩ := hd _ _ _ ht'
      obtain ⟨_, hcl, hat⟩ := World.cells?_some hc
      refine ⟨v, cs', hv, by rw [hcl, hs], fun j u hj => ?_⟩
      have hjl : j < cs'.length := by
        refine Classical.byContradiction fun hn => ?_
        rw [List.getElem?_eq_none (by omega)] at hj
        cases hj
      have := hat j (by omega)
      rw [hj, Go.Deep.add_add, hs] at this
      exact this
    have hrow : ∀ k, k ≤ len → ∃ xs : List α, xs.length = k ∧ ∀ j p, xs[j]? = some p → ∃ c, c.length = d.sz ∧ d.K w p c ∧ ∀ i u, c[i]? = some u → w.cell? (a.add (j * d.sz + i)) = some u := by
      intro k
      induction k with
      | zero => intro _; exact ⟨[], rfl, fun j p hj => by simp at hj⟩
      | succ k ih =>
        intro hk
        obtain ⟨xs, hxl, hxs⟩ := ih (by omega)
        obtain ⟨v, cs', hv, hcl, hat⟩ := hel k (by omega)
        refine ⟨xs ++ [v], by simp [hxl], fun j p hj => ?_⟩
        by_cases hjk : j < xs.length
        · rw [List.getElem?_append_left hjk] at hj
          exact hxs j p hj
        · rw [List.getElem?_append_right (by omega)] at hj
          have : j - xs.length = 0 := by
            refine Classical.byContradiction fun hn => ?_
            rw [List.getElem?_eq_none (by simp; omega)] at hj
            cases hj
          rw [this] at hj
          obtain rfl := Option.some.inj hj
          obtain rfl : j = k := by omega
          exact ⟨cs', hcl, hv, hat⟩
    obtain ⟨xs, hxl, hxs⟩ := hrow len (Nat.le_refl _)
    refine ⟨some a, cap, xs, by rw [hxl], by omega, hm, rfl, ?_, fun _ => ⟨a, rfl, hxs⟩⟩
    unfold maxLen at hm
    omega
theorem opens_slice {α : Type} {d : Kd α} {t e : TypeId} (ht : P.underlying t = some (.slice e)) (hs : P.cellsOf e = d.sz) (hd : Opens P enc w base spare held e d) : Opens P enc w base spare held t (Kd.slice e d) := by
  intro fuel cs x h
  obtain ⟨A, c, xs, rfl, hl, _, hC⟩ := open_row ht hs hd h
  exact ⟨xs, A, c, rfl, hl, hC⟩
theorem opens_struct {t : TypeId} {fs : Array Field} (ht : P.underlying t = some (.struct fs)) {α : Type} (d : Kd α)
    (h : ∀ (cs : List Value), cs.length = P.cellsOf t → (∀ (i : Nat) (f : Field), fs[i]? = some f → ∃ (n : Nat) (y : DataW H × List MemPlace), DataW.trod enc P w base spare held n f.type ((cs.drop f.offset).take (P.cellsOf f.type)) = some y) → ∃ v, d.K w v cs) : Opens P enc w base spare held t d := by
  intro fuel cs x hx
  obtain ⟨ys, n, _, _, hl, hyl, hf⟩ := DataW.trod_struct ht hx
  refine h cs hl (fun i f hi => ?_)
  have hil : i < fs.size := (Array.getElem?_eq_some_iff.1 hi).1
  have := hf i f hi
  rw [List.getElem?_eq_getElem (by omega)] at this
  exact ⟨n, _, this⟩
end
theorem two_cells {cs : List Value} (h : cs.length = 2) : ∃ a b, cs = [a, b] := by
  match cs, h with
  | [a, b], _ => exact ⟨a, b, rfl⟩
theorem three_cells {cs : List Value} (h : cs.length = 3) : ∃ a b c, cs = [a, b, c] := by
  match cs, h with
  | [a, b, c], _ => exact ⟨a, b, c, rfl⟩
section
variable {H : Type} {enc : TypeId × Value → H} {w : World} {base : Nat} {spare : Nat → Bool} {held : Bool}
set_option maxRecDepth 100000 in
theorem opens56 : Opens Try.prog enc w base spare held 56 k56 := by
  refine opens_struct Try.underlying56 k56 (fun cs hl hf => ?_)
  obtain ⟨a, b, rfl⟩ := two_cells (hl.trans (by kernel_rfl))
  obtain ⟨_, _, h0⟩ := hf 0 _ rfl
  obtain ⟨_, _, h1⟩ := hf 1 _ rfl
  obtain ⟨v0, e0⟩ := opens_int Try.underlying3 _ _ _ h0
  obtain ⟨v1, e1⟩ := opens_int Try.underlying3 _ _ _ h1
  exact ⟨⟨v0, v1⟩, [a], [b], rfl, e0, e1⟩
set_option maxRecDepth 100000 in
theorem opens85 : Opens Try.prog enc w base spare held 85 k85 := by
  refine opens_struct Try.underlying85 k85 (fun cs hl hf => ?_)
  obtain ⟨a, b, c, rfl⟩ := three_cells (hl.trans (by kernel_rfl))
  obtain ⟨_, _, h0⟩ := hf 0 _ rfl
  obtain ⟨_, _, h1⟩ := hf 1 _ rfl
  obtain ⟨_, _, h2⟩ := hf 2 _ rfl
  obtain ⟨v0, e0⟩ := opens_int Try.underlying3 _ _ _ h0
  obtain ⟨v1, e1⟩ := opens_int Try.underlying3 _ _ _ h1
  obtain ⟨v2, e2⟩ := opens_int Try.underlying3 _ _ _ h2
  exact ⟨⟨v0, v1, v2⟩, [a], [b, c], rfl, e0, [b], [c], rfl, e1, e2⟩
set_option maxRecDepth 100000 in
theorem opens62 : Opens Try.prog enc w base spare held 62 k62 := by
  refine opens_struct Try.underlying62 k62 (fun cs hl hf => ?_)
  obtain ⟨a, b, c, rfl⟩ := three_cells (hl.trans (by kernel_rfl))
  obtain ⟨_, _, h0⟩ := hf 0 _ rfl
  obtain ⟨_, _, h1⟩ := hf 1 _ rfl
  obtain ⟨v0, e0⟩ := opens_int Try.underlying3 _ _ _ h0
  obtain ⟨v1, e1⟩ := opens56 _ _ _ h1
  exact ⟨⟨v0, v1⟩, [a], [b, c], rfl, e0, e1⟩
set_option maxRecDepth 100000 in
theorem opens79 : Opens Try.prog enc w base spare held 79 k79 := by
  refine opens_struct Try.underlying79 k79 (fun cs hl hf => ?_)
  obtain ⟨a, b, c, rfl⟩ := three_cells (hl.trans (by kernel_rfl))
  obtain ⟨_, _, h0⟩ := hf 0 _ rfl
  obtain ⟨_, _, h1⟩ := hf 1 _ rfl
  obtain ⟨v0, e0⟩ := opens56 _ _ _ h0
  obtain ⟨v1, e1⟩ := opens_int Try.underlying3 _ _ _ h1
  exact ⟨⟨v0, v1⟩, [a, b], [c], rfl, e0, e1⟩
set_option maxRecDepth 100000 in
theorem opens59 : Opens Try.prog enc w base spare held 59 k59 := by
  refine opens_struct Try.underlying59 k59 (fun cs hl hf => ?_)
  obtain ⟨a, b, c, rfl⟩ := three_cells (hl.trans (by kernel_rfl))
  obtain ⟨_, _, h0⟩ := hf 0 _ rfl
  obtain ⟨_, _, h1⟩ := hf 1 _ rfl
  obtain ⟨v0, e0⟩ := opens56 _ _ _ h0
  obtain ⟨v1, e1⟩ := opens_slice (d := k62) (e := 62) Try.underlying57 (by kernel_rfl) opens62 _ _ _ h1
  exact ⟨⟨v0, v1⟩, [a, b], [c], rfl, e0, e1⟩
set_option maxRecDepth 100000 in
theorem open_voy {b0 : Nat} {r : Reach} {v : Value} {d : DataW H} {p : List MemPlace} (hv : Value.okWide Try.prog w r b0 26 v) (h : DataW.Trod enc Try.prog w base spare held 26 v d p) :
    ∃ x : VoyV, v = .agg #[.int .i64 x.light, .int .i64 x.under, .int .i64 x.trim, .slice x.A3 x.holds.length x.c3, .int .i64 x.leaves, .slice x.A5 x.sills.length x.c5, .slice x.A6 x.lots.length x.c6] ∧ x.Ok w := by
  obtain ⟨cs, rfl, hsz⟩ := okWide_struct Try.underlying26 hv
  obtain ⟨l⟩ := cs
  match l, hsz.trans (show Try.prog.cellsOf 26 = 7 by kernel_rfl) with
  | [x0, x1, x2, x3, x4, x5, x6], _ =>
    obtain ⟨fuel, hf⟩ := h
    obtain ⟨ys, n, _, _, _, hyl, hg⟩ := DataW.trod_struct Try.underlying26 hf
    obtain ⟨v0, e0⟩ := opens_int Try.underlying3 _ _ _ ((hg 0 _ rfl).trans (List.getElem?_eq_getElem (by rw [hyl]; decide)))
    obtain ⟨v1, e1⟩ := opens_int Try.underlying3 _ _ _ ((hg 1 _ rfl).trans (List.getElem?_eq_getElem (by rw [hyl]; decide)))
    obtain ⟨v2, e2⟩ := opens_int Try.underlying3 _ _ _ ((hg 2 _ rfl).trans (List.getElem?_eq_getElem (by rw [hyl]; decide)))
    obtain ⟨A3, c3, holds, e3, h3, _, C3⟩ := open_row (d := k85) (e := 85) Try.underlying22 (by kernel_rfl) opens85 ((hg 3 _ rfl).trans (List.getElem?_eq_getElem (by rw [hyl]; decide)))
    obtain ⟨v4, e4⟩ := opens_int Try.underlying3 _ _ _ ((hg 4 _ rfl).trans (List.getElem?_eq_getElem (by rw [hyl]; decide)))
    obtain ⟨A5, c5, sills, e5, h5, _, C5⟩ := open_row (d := k59) (e := 59) Try.underlying23 (by kernel_rfl) opens59 ((hg 5 _ rfl).trans (List.getElem?_eq_getElem (by rw [hyl]; decide)))
    obtain ⟨A6, c6, lots, e6, h6, _, C6⟩ := open_row (d := k79) (e := 79) Try.underlying24 (by kernel_rfl) opens79 ((hg 6 _ rfl).trans (List.getElem?_eq_getElem (by rw [hyl]; decide)))
    refine ⟨⟨v0, v1, v2, A3, c3, holds, v4, A5, c5, sills, A6, c6, lots⟩, ?_, ⟨C3, h3, C5, h5, C6, h6⟩⟩
    have q0 : x0 = _ := List.singleton_inj.1 (e0 : [x0] = _)
    have q1 : x1 = _ := List.singleton_inj.1 (e1 : [x1] = _)
    have q2 : x2 = _ := List.singleton_inj.1 (e2 : [x2] = _)
    have q3 : x3 = _ := List.singleton_inj.1 (e3 : [x3] = _)
    have q4 : x4 = _ := List.singleton_inj.1 (e4 : [x4] = _)
    have q5 : x5 = _ := List.singleton_inj.1 (e5 : [x5] = _)
    have q6 : x6 = _ := List.singleton_inj.1 (e6 : [x6] = _)
    rw [q0, q1, q2, q3, q4, q5, q6]
end
end Go.Proofs.Ytodmemndaaiolaa.PC7
namespace Go.Proofs.Ytodmemndaaiolaa.PC7
open Go.RowKit Go.Proofs.YtodmemndaaiolaaW.PrintWords Go.Proofs.YtodmemndaaiolaaW.PrintLast Go.Proofs.YtodmemndaaiolaaW.PrintMore
attribute [local go_sem] max2_int min2_int max_two min_two max_three min_three max_four min_four
set_option linter.unusedVariables false
set_option linter.unusedSimpArgs false
def swarfkit_Ints.f (l0 : List Int) : Option (List Int) := (some (([] : List Int) : List Int)).bind fun y389 => (if y389.length + l0.length < 17592186044416 then (some (y389 ++ l0)) else (none))
set_option maxHeartbeats 8000000 in
set_option maxRecDepth 100000 in
theorem swarfkit_Ints.calls (A0 : Option Addr) (c0 : Nat) (l0 : List Int) (r : List Int) (w : World) (hr0 : Kd.C (Kd.int .i64) w A0 l0.length l0) (hc0 : l0.length ≤ c0) (h : swarfkit_Ints.f l0 = some r) :
  Calls Try.prog 21 #[.slice A0 l0.length c0] w fun e w' => ∃ v0_ : Value, e = .returned (v0_) ∧ Kd.R (Kd.int .i64) 3 w' w.heap.size (fun _ => True) v0_ r ∧ Below w.heap.size w w' := by
 have HR0 := Aside0.mk hr0
 have HC0 := Aside0.mk hc0
 clear hr0 hc0
 have HB := Aside0.mk (Below.refl w.heap.size w)
 have H : ((some (([] : List Int) : List Int)).bind fun y389 => (if y389.length + l0.length < 17592186044416 then (some (y389 ++ l0)) else (none))) = some r := h
 clear h
 obtain ⟨y389, hy389⟩ : ∃ y_ : List Int, y_ = (([] : List Int)) := ⟨_, rfl⟩
 replace H : (if y389.length + l0.length < 17592186044416 then (some (y389 ++ l0)) else (none)) = some r := by first | (rw [hy389]; with_reducible exact H) | (have H2_ := (Option.bind_some _ _).symm.trans H; rw [hy389]; with_reducible exact H2_) | (have H2_ := (Option.bind_some _ _).symm.trans H; with_reducible exact H2_) | with_reducible exact H | (rw [hy389]; exact H) | exact H
 have Ny389 := Aside0.mk hy389
 clear hy389
 by_cases c2 : y389.length + l0.length < 17592186044416
 ·
  rw [if_pos c2] at H; have LMc2 := Aside0.mk c2; clear c2; obtain ⟨y392, hy392⟩ : ∃ y_ : List Int, y_ = (y389 ++ l0) := ⟨_, rfl⟩; (replace H : (some y392) = some r := by first | (rw [hy392]; with_reducible exact H) | (have H2_ := (Option.bind_some _ _).symm.trans H; rw [hy392]; with_reducible exact H2_) | (have H2_ := (Option.bind_some _ _).symm.trans H; with_reducible exact H2_) | with_reducible exact H | (rw [hy392]; exact H) | exact H); have Ny392 := Aside0.mk hy392; clear hy392; obtain rfl := Option.some.inj H; go_enter Try.func21, Try.ntmps21
  go_wp2_with (first | ((with_reducible refine gate_dst (N := 3) rfl ?_); refine Kd.R_lit (Kd.int .i64) _ 3 ?hg (N := 3) ?hd (xs := ([] : List Int)) (inner := []) (ok := fun _ => True) (okp := fun _ => True) ?hr ?hp (fun _ hk => hk) trivial (Below.refl _ _) (Nat.le_refl _) (by simp) ?_; (case hd => rfl); (case hg => rfl); (case hr => first | (go_simp; done) | (go_simp; rfl)); (case hp => exact (Reps.none _ _)); intro v390 w3 ho4 hb hg_ hnew_; clear hg_ hnew_; (first | rw [← Ny389.out] at ho4 | (simp only [Int.reduceToNat] at ho4; rw [← Ny389.out] at ho4)); have HO391 := Aside0.mk (Kd.R_lower ho4 (below_size (below_x HB.out))); replace HB := Aside0.mk (below_step (below_x HB.out) hb); clear hb ho4) | ((with_reducible refine gate_builtin (b := .append) (xs := #[.tmp 3, .tmp 4]) rfl ?_); at_builtin; refine Kd.R_append_rows (Kd.int .i64) (w0 := w) w.heap.size rfl (.tmp 3) (.tmp 4) 27 3 (.int .i64 0) 8 rfl Try.underlying27 info3 rfl (by decide) (by omega) v390 y389 l0 _ _ _ (fun _ => True) (fun _ => False) rfl rfl ?aO ?aR (fun _ _ h => h) (fun _ h => h.elim) ?aF ?aB ?aS ?aL ?_; (case aR => exact Kd.C_x HR0.out HB.out); (case aB => exact (below_x HB.out)); (case aF => exact (fun _ _ => trivial)); (case aO => exact (Kd.R_x HO391.out)); (case aS => exact (below_size (below_x HB.out))); (case aL => have := LMc2.out; omega); intro v393 w5 ho hb hg hat; rw [← Ny392.out] at ho; replace HB := Aside0.mk (hb); have HO394 := Aside0.mk (ho); clear HO391; clear ho hb hg hat))
  go_ret; exact ⟨_, by first | rfl | (simp [errW_none, errW_some] <;> rfl) | (simp [*, errW_none, errW_some] <;> rfl), by (with_reducible repeat (first | apply Kd.R_alloc | apply Kd.R_drewN | apply Kd.R_drew)); exact HO394.out, by exact below_y HB.out⟩
 ·
  rw [if_neg c2] at H; exact absurd H (by simp)
end Go.Proofs.Ytodmemndaaiolaa.PC7
namespace Go.Proofs.Ytodmemndaaiolaa.PC7
set_option linter.unusedVariables false
set_option linter.unusedSimpArgs false
open Go.RowKit Go.Proofs.YtodmemndaaiolaaW.PrintWords Go.Proofs.YtodmemndaaiolaaW.PrintLast Go.Proofs.YtodmemndaaiolaaW.PrintMore
end Go.Proofs.Ytodmemndaaiolaa.PC7
namespace Go.Proofs.Ytodmemndaaiolaa.PC7
open Go.RowKit Go.Proofs.YtodmemndaaiolaaW.PrintWords Go.Proofs.YtodmemndaaiolaaW.PrintLast Go.Proofs.YtodmemndaaiolaaW.PrintMore
attribute [local go_sem] max2_int min2_int max_two min_two max_three min_three max_four min_four
set_option linter.unusedVariables false
set_option linter.unusedSimpArgs false
theorem eqA62 (d : Nat) (w : World) (x0 y0 : Int) (x1 y1 : Int) (x2 y2 : Int) :
    (Op.equalIn (d + 3) 62 (.agg #[.int .i64 x0, .int .i64 x1, .int .i64 x2]) (.agg #[.int .i64 y0, .int .i64 y1, .int .i64 y2])).run Try.prog w = .ok (x0 == y0 && ((x1 == y1 && (x2 == y2)))) w := by
  refine eqA_of Try.underlying62 (by kernel_rfl) ?_
  refine eqf_cons (by rfl) (by go_simp; rfl) (by go_simp; rfl) (by go_simp) ?_
  exact eqf_last (by rfl) (by go_simp) (by go_simp) (eqA56 (d + 0) w _ _ _ _)
theorem eqA79 (d : Nat) (w : World) (x0 y0 : Int) (x1 y1 : Int) (x2 y2 : Int) :
    (Op.equalIn (d + 3) 79 (.agg #[.int .i64 x0, .int .i64 x1, .int .i64 x2]) (.agg #[.int .i64 y0, .int .i64 y1, .int .i64 y2])).run Try.prog w = .ok ((x0 == y0 && (x1 == y1)) && (x2 == y2)) w := by
  refine eqA_of Try.underlying79 (by kernel_rfl) ?_
  refine eqf_cons (by rfl) (by go_simp) (by go_simp) (eqA56 (d + 0) w _ _ _ _) ?_
  exact eqf_last (by rfl) (by go_simp; rfl) (by go_simp; rfl) (by go_simp)
theorem eqA85 (d : Nat) (w : World) (x0 y0 : Int) (x1 y1 : Int) (x2 y2 : Int) :
    (Op.equalIn (d + 2) 85 (.agg #[.int .i64 x0, .int .i64 x1, .int .i64 x2]) (.agg #[.int .i64 y0, .int .i64 y1, .int .i64 y2])).run Try.prog w = .ok (x0 == y0 && (x1 == y1 && (x2 == y2))) w := by
  refine eqA_of Try.underlying85 (by kernel_rfl) ?_
  refine eqf_cons (by rfl) (by go_simp; rfl) (by go_simp; rfl) (by go_simp) ?_
  refine eqf_cons (by rfl) (by go_simp; rfl) (by go_simp; rfl) (by go_simp) ?_
  exact eqf_last (by rfl) (by go_simp; rfl) (by go_simp; rfl) (by go_simp)
end Go.Proofs.Ytodmemndaaiolaa.PC7
